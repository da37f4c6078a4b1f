/- Resolved functions of package xlaw00, written by a program (res.py). -/
import Derived.Test.YtfhinaopoffcnaaAb
namespace Go.Ab
def A_xlaw00_Place : AFun := { res := [.t 4], body := (.seq (.reg false [{ dst := some 4, op := .mv (.c (.i .i64 0)) }])
 (.seq (.reg false [{ dst := some 6, op := .mv (.t 0) },
  { dst := some 7, op := .mv (.t 1) },
  { dst := some 8, op := .bin .rem (.t 6) (.t 7) },
  { dst := some 5, op := .mv (.t 8) }])
 (.seq (.seq (.reg false [{ dst := some 9, op := .mv (.t 5) },
  { dst := some 10, op := .bin .lss (.t 9) (.c (.i .i64 0)) }])
 (.cond (.t 10) (.reg false [{ dst := some 11, op := .mv (.t 5) },
  { dst := some 12, op := .mv (.t 1) },
  { dst := some 13, op := .bin .add (.t 11) (.t 12) },
  { dst := some 5, op := .mv (.t 13) }])
 .skip))
 (.seq (.reg false [{ dst := some 14, op := .mv (.t 5) },
  { dst := some 4, op := .mv (.t 14) }])
 .ret)))) }
def A_xlaw00_FewGraph : AFun := { res := [.t 2], body := (.seq (.reg false [{ dst := some 1, op := .box (.t 0) },
  { dst := some 2, op := .mv (.c (.b false)) }])
 (.seq (.seq (.reg false [{ dst := some 3, op := .mv (.c (.i .i64 0)) }])
 (.blk 0 (.loop (.seq (.seq (.reg false [{ dst := some 4, op := .mv (.t 3) },
  { dst := some 5, op := .fa 3 (.t 1) },
  { dst := some 6, op := .ld none (.t 5) },
  { dst := some 7, op := .len (.t 6) },
  { dst := some 8, op := .bin .lss (.t 4) (.t 7) },
  { dst := some 9, op := .mv (.t 8) },
  { dst := some 10, op := .mv (.t 3), grd := some (9, true) },
  { dst := some 11, op := .bin .lss (.t 10) (.c (.i .i64 6)), grd := some (9, true) },
  { dst := some 12, op := .pick (.t 9) (.t 11) (.c (.b false)) }])
 (.cond (.t 12) .skip
 (.ext 0)))
 (.seq (.blk 1 (.seq (.reg false [{ dst := some 15, op := .fa 3 (.t 1) },
  { dst := some 16, op := .ld none (.t 15) },
  { dst := some 17, op := .mv (.t 3) },
  { dst := some 18, op := .ia 1 (.t 16) (.t 17) },
  { dst := some 19, op := .ld none (.t 18) },
  { dst := some 20, op := .len (.t 19) },
  { dst := some 21, op := .bin .gtr (.t 20) (.c (.i .i64 50)) }])
 (.cond (.t 21) (.seq (.reg false [{ dst := some 2, op := .mv (.c (.b false)) }])
 .ret)
 .skip)))
 (.reg false [{ dst := some 13, op := .mv (.t 3) },
  { dst := some 14, op := .bin .add (.t 13) (.c (.i .i64 1)) },
  { dst := some 3, op := .mv (.t 14) }]))))))
 (.seq (.reg false [{ dst := some 22, op := .fa 1 (.t 1) },
  { dst := some 23, op := .ld none (.t 22) },
  { dst := some 24, op := .len (.t 23) },
  { dst := some 25, op := .bin .leq (.t 24) (.c (.i .i64 50)) },
  { dst := some 26, op := .mv (.t 25) },
  { dst := some 27, op := .fa 2 (.t 1), grd := some (26, true) },
  { dst := some 28, op := .ld none (.t 27), grd := some (26, true) },
  { dst := some 29, op := .len (.t 28), grd := some (26, true) },
  { dst := some 30, op := .bin .leq (.t 29) (.c (.i .i64 60)), grd := some (26, true) },
  { dst := some 31, op := .pick (.t 26) (.t 30) (.c (.b false)) },
  { dst := some 32, op := .mv (.t 31) },
  { dst := some 33, op := .fa 3 (.t 1), grd := some (32, true) },
  { dst := some 34, op := .ld none (.t 33), grd := some (32, true) },
  { dst := some 35, op := .len (.t 34), grd := some (32, true) },
  { dst := some 36, op := .bin .leq (.t 35) (.c (.i .i64 6)), grd := some (32, true) },
  { dst := some 37, op := .pick (.t 32) (.t 36) (.c (.b false)) },
  { dst := some 38, op := .mv (.t 37) },
  { dst := some 39, op := .fa 4 (.t 1), grd := some (38, true) },
  { dst := some 40, op := .ld none (.t 39), grd := some (38, true) },
  { dst := some 41, op := .len (.t 40), grd := some (38, true) },
  { dst := some 42, op := .bin .leq (.t 41) (.c (.i .i64 50)), grd := some (38, true) },
  { dst := some 43, op := .pick (.t 38) (.t 42) (.c (.b false)) },
  { dst := some 44, op := .mv (.t 43) },
  { dst := some 45, op := .fa 5 (.t 1), grd := some (44, true) },
  { dst := some 46, op := .ld none (.t 45), grd := some (44, true) },
  { dst := some 47, op := .len (.t 46), grd := some (44, true) },
  { dst := some 48, op := .bin .leq (.t 47) (.c (.i .i64 300)), grd := some (44, true) },
  { dst := some 49, op := .pick (.t 44) (.t 48) (.c (.b false)) },
  { dst := some 50, op := .mv (.t 49) },
  { dst := some 51, op := .fa 6 (.t 1), grd := some (50, true) },
  { dst := some 52, op := .ld none (.t 51), grd := some (50, true) },
  { dst := some 53, op := .len (.t 52), grd := some (50, true) },
  { dst := some 54, op := .bin .leq (.t 53) (.c (.i .i64 300)), grd := some (50, true) },
  { dst := some 55, op := .pick (.t 50) (.t 54) (.c (.b false)) },
  { dst := some 56, op := .mv (.t 55) },
  { dst := some 57, op := .fa 7 (.t 1), grd := some (56, true) },
  { dst := some 58, op := .ld none (.t 57), grd := some (56, true) },
  { dst := some 59, op := .len (.t 58), grd := some (56, true) },
  { dst := some 60, op := .bin .leq (.t 59) (.c (.i .i64 300)), grd := some (56, true) },
  { dst := some 61, op := .pick (.t 56) (.t 60) (.c (.b false)) },
  { dst := some 2, op := .mv (.t 61) }])
 .ret))) }
def A_xlaw00_Small : AFun := { res := [.cell 2 (some 2)], body := (.seq (.reg false [{ dst := some 2, op := .new ([.i .i64 0, .sl [] 0 .rig]) }])
 (.seq (.seq (.reg false [{ dst := some 3, op := .mv (.t 0) },
  { dst := some 4, op := .len (.t 3) },
  { dst := some 5, op := .bin .gtr (.t 4) (.c (.i .i64 0)) },
  { dst := some 6, op := .mv (.t 5) },
  { dst := some 7, op := .mv (.t 0), grd := some (6, true) },
  { dst := some 8, op := .ia 1 (.t 7) (.c (.i .i64 0)), grd := some (6, true) },
  { dst := some 9, op := .ld none (.t 8), grd := some (6, true) },
  { dst := some 10, op := .call .pure (.c (.fn 10 [] [])) [.t 9, .c (.i .i64 4)], grd := some (6, true) },
  { dst := some 11, op := .bin .eql (.t 10) (.c (.i .i64 0)), grd := some (6, true) },
  { dst := some 12, op := .pick (.t 6) (.t 11) (.c (.b false)) }])
 (.cond (.t 12) (.seq (.reg false [{ dst := some 13, op := .mv (.t 0) },
  { dst := some 14, op := .call .pure (.c (.fn 86 [] [])) [.t 13, .c (.i .i64 3), .c (.i .i64 2)] },
  { dst := none, op := .st 2 (.t 2) (.t 14) }])
 .ret)
 .skip))
 (.seq (.reg false [{ dst := some 15, op := .mv (.t 0) },
  { dst := some 16, op := .call .pure (.c (.fn 86 [] [])) [.t 15, .c (.i .i64 2), .c (.i .i64 3)] },
  { dst := none, op := .st 2 (.t 2) (.t 16) }])
 .ret))) }
def A_xlaw00_Loads : AFun := { res := [.t 2], body := (.seq (.reg false [{ dst := some 1, op := .box (.t 0) },
  { dst := some 2, op := .mv (.c (.i .i64 0)) }])
 (.seq (.reg false [{ dst := some 3, op := .mv (.c (.i .i64 0)) }])
 (.seq (.seq (.reg false [{ dst := some 4, op := .mv (.c (.i .i64 0)) }])
 (.blk 0 (.loop (.seq (.seq (.reg false [{ dst := some 7, op := .mv (.t 4) },
  { dst := some 8, op := .fa 1 (.t 1) },
  { dst := some 9, op := .ld none (.t 8) },
  { dst := some 10, op := .len (.t 9) },
  { dst := some 11, op := .bin .lss (.t 7) (.t 10) }])
 (.cond (.t 11) .skip
 (.ext 0)))
 (.seq (.blk 1 (.seq (.reg false [{ dst := some 5, op := .mv (.c (.i .i64 0)) }])
 (.blk 2 (.loop (.seq (.seq (.reg false [{ dst := some 14, op := .mv (.t 5) },
  { dst := some 15, op := .fa 1 (.t 1) },
  { dst := some 16, op := .ld none (.t 15) },
  { dst := some 17, op := .mv (.t 4) },
  { dst := some 18, op := .ia 1 (.t 16) (.t 17) },
  { dst := some 19, op := .ld none (.t 18) },
  { dst := some 20, op := .len (.t 19) },
  { dst := some 21, op := .bin .lss (.t 14) (.t 20) }])
 (.cond (.t 21) .skip
 (.ext 2)))
 (.seq (.blk 3 (.seq (.reg false [{ dst := some 24, op := .fa 1 (.t 1) },
  { dst := some 25, op := .ld none (.t 24) },
  { dst := some 26, op := .mv (.t 4) },
  { dst := some 27, op := .ia 1 (.t 25) (.t 26) },
  { dst := some 28, op := .ld none (.t 27) },
  { dst := some 29, op := .mv (.t 5) },
  { dst := some 30, op := .ia 7 (.t 28) (.t 29) },
  { dst := some 31, op := .ld (some 7) (.t 30) },
  { dst := some 6, op := .new (List.replicate 5 (.i .i64 0) ++ [.sl [] 0 .rig, .i .i64 0]) },
  { dst := none, op := .st 7 (.t 6) (.t 31) }])
 (.seq (.reg false [{ dst := some 32, op := .fa 0 (.t 6) },
  { dst := some 33, op := .ld none (.t 32) },
  { dst := some 34, op := .bin .eql (.t 33) (.c (.i .i64 1)) },
  { dst := some 35, op := .mv (.t 34) },
  { dst := some 36, op := .fa 0 (.t 6), grd := some (35, false) },
  { dst := some 37, op := .ld none (.t 36), grd := some (35, false) },
  { dst := some 38, op := .bin .eql (.t 37) (.c (.i .i64 4)), grd := some (35, false) },
  { dst := some 39, op := .pick (.t 35) (.c (.b true)) (.t 38) }])
 (.cond (.t 39) (.reg false [{ dst := some 40, op := .mv (.t 3) },
  { dst := some 41, op := .bin .add (.t 40) (.c (.i .i64 1)) },
  { dst := some 3, op := .mv (.t 41) }])
 .skip))))
 (.reg false [{ dst := some 22, op := .mv (.t 5) },
  { dst := some 23, op := .bin .add (.t 22) (.c (.i .i64 1)) },
  { dst := some 5, op := .mv (.t 23) }])))))))
 (.reg false [{ dst := some 12, op := .mv (.t 4) },
  { dst := some 13, op := .bin .add (.t 12) (.c (.i .i64 1)) },
  { dst := some 4, op := .mv (.t 13) }]))))))
 (.seq (.reg false [{ dst := some 42, op := .mv (.t 3) },
  { dst := some 2, op := .mv (.t 42) }])
 .ret)))) }
def A_xlaw00_Domain : AFun := { res := [.t 0], body := (.seq (.reg false [{ dst := some 0, op := .mv (.c (.sl [] 0 .rig)) }])
 (.seq (.reg false [{ dst := some 1, op := .bsl true 3 ([.i .i64 0, .i .i64 0, .i .i64 0]) [(0, 1, .c (.i .i64 0)), (1, 1, .c (.i .i64 1)), (2, 1, .c (.i .i64 2))] },
  { dst := some 0, op := .mv (.t 1) }])
 .ret)) }
def A_xlaw00_Prog : AFun := { res := [.cell 6 (some 2)], body := (.seq (.reg false [{ dst := some 6, op := .new ([.i .i64 0, .sl [] 0 .rig]) }])
 (.seq (.reg false [{ dst := some 14, op := .mv (.t 1) },
  { dst := some 15, op := .mksl ([.sl [] 0 .rig]) 1 24 (.t 14) (.t 14) },
  { dst := some 16, op := .build ([.i .i64 0, .sl [] 0 .rig]) [(0, 1, .c (.i .i64 2)), (1, 1, .t 15)] },
  { dst := some 7, op := .new ([.i .i64 0, .sl [] 0 .rig]) },
  { dst := none, op := .st 2 (.t 7) (.t 16) }])
 (.seq (.seq (.reg false [{ dst := some 8, op := .mv (.c (.i .i64 0)) }])
 (.blk 0 (.loop (.seq (.seq (.reg false [{ dst := some 17, op := .mv (.t 8) },
  { dst := some 18, op := .mv (.t 1) },
  { dst := some 19, op := .bin .lss (.t 17) (.t 18) }])
 (.cond (.t 19) .skip
 (.ext 0)))
 (.seq (.blk 1 (.seq (.reg false [{ dst := some 9, op := .mv (.c (.i .i64 0)) },
  { dst := some 10, op := .mv (.c (.i .i64 0)) }])
 (.seq (.seq (.reg false [{ dst := some 22, op := .mv (.t 8) },
  { dst := some 11, op := .mv (.t 22) }])
 (.blk 2 (.loop (.seq (.seq (.reg false [{ dst := some 23, op := .mv (.t 11) },
  { dst := some 24, op := .mv (.t 0) },
  { dst := some 25, op := .len (.t 24) },
  { dst := some 26, op := .bin .lss (.t 23) (.t 25) },
  { dst := some 27, op := .mv (.t 26) },
  { dst := some 28, op := .mv (.t 9), grd := some (27, true) },
  { dst := some 29, op := .mv (.t 2), grd := some (27, true) },
  { dst := some 30, op := .bin .lss (.t 28) (.t 29), grd := some (27, true) },
  { dst := some 31, op := .pick (.t 27) (.t 30) (.c (.b false)) }])
 (.cond (.t 31) .skip
 (.ext 2)))
 (.seq (.blk 3 (.reg false [{ dst := some 35, op := .mv (.t 9) },
  { dst := some 36, op := .bin .add (.t 35) (.c (.i .i64 1)) },
  { dst := some 9, op := .mv (.t 36) }]))
 (.reg false [{ dst := some 32, op := .mv (.t 11) },
  { dst := some 33, op := .mv (.t 1) },
  { dst := some 34, op := .bin .add (.t 32) (.t 33) },
  { dst := some 11, op := .mv (.t 34) }]))))))
 (.seq (.reg false [{ dst := some 12, op := .mv (.c (.i .i64 0)) }])
 (.blk 4 (.loop (.seq (.seq (.reg false [{ dst := some 37, op := .mv (.t 12) },
  { dst := some 38, op := .mv (.t 9) },
  { dst := some 39, op := .bin .lss (.t 37) (.t 38) }])
 (.cond (.t 39) .skip
 (.ext 4)))
 (.seq (.blk 5 (.seq (.reg true [{ dst := some 42, op := .mv (.t 0) },
  { dst := some 43, op := .mv (.t 8) },
  { dst := some 44, op := .mv (.t 12) },
  { dst := some 45, op := .mv (.t 1) },
  { dst := some 46, op := .bin .mul (.t 44) (.t 45) },
  { dst := some 47, op := .bin .add (.t 43) (.t 46) },
  { dst := some 48, op := .ia 1 (.t 42) (.t 47) },
  { dst := some 49, op := .ld none (.t 48), pre := [] },
  { dst := some 50, op := .fa 0 (.t 7) },
  { dst := some 51, op := .ld none (.t 50), pre := [] },
  { dst := some 52, op := .mv (.t 9) },
  { dst := some 53, op := .bin .sub (.t 52) (.c (.i .i64 1)) },
  { dst := some 54, op := .mv (.t 12) },
  { dst := some 55, op := .bin .sub (.t 53) (.t 54) },
  { dst := some 56, op := .call .pure (.c (.fn 97 [] [])) [.t 49, .t 51, .t 55], pre := [] },
  { dst := some 13, op := .new (List.replicate 5 (.i .i64 0) ++ [.sl [] 0 .rig, .i .i64 0]) },
  { dst := none, op := .st 7 (.t 13) (.t 56), pre := [15] }])
 (.seq (.seq (.reg false [{ dst := some 57, op := .fa 0 (.t 13) },
  { dst := some 58, op := .ld none (.t 57) },
  { dst := some 59, op := .bin .eql (.t 58) (.c (.i .i64 6)) }])
 (.cond (.t 59) (.seq (.reg false [{ dst := some 60, op := .mv (.t 10) },
  { dst := some 61, op := .bin .add (.t 60) (.c (.i .i64 1)) },
  { dst := some 10, op := .mv (.t 61) }])
 (.seq (.reg false [{ dst := some 62, op := .mv (.t 10) },
  { dst := some 63, op := .bin .gtr (.t 62) (.c (.i .i64 2)) }])
 (.cond (.t 63) (.reg false [{ dst := some 64, op := .build (List.replicate 5 (.i .i64 0) ++ [.sl [] 0 .rig, .i .i64 0]) [(0, 1, .c (.i .i64 3)), (1, 1, .c (.i .i64 4))] },
  { dst := none, op := .st 7 (.t 13) (.t 64) }])
 .skip)))
 .skip))
 (.reg true [{ dst := some 65, op := .fa 1 (.t 7) },
  { dst := some 66, op := .ld none (.t 65), pre := [] },
  { dst := some 67, op := .mv (.t 8) },
  { dst := some 68, op := .fa 1 (.t 7) },
  { dst := some 69, op := .ld none (.t 68), pre := [] },
  { dst := some 70, op := .mv (.t 8) },
  { dst := some 71, op := .ia 1 (.t 69) (.t 70) },
  { dst := some 72, op := .ld none (.t 71), pre := [] },
  { dst := some 73, op := .ld (some 7) (.t 13), pre := [] },
  { dst := some 74, op := .bsl true 1 (List.replicate 5 (.i .i64 0) ++ [.sl [] 0 .rig, .i .i64 0]) [(0, 7, .t 73)], pre := [] },
  { dst := some 75, op := .app 7 72 (.t 72) (.t 74), pre := [] },
  { dst := some 76, op := .ia 1 (.t 66) (.t 67) },
  { dst := none, op := .st 1 (.t 76) (.t 75), pre := [10] }]))))
 (.reg false [{ dst := some 40, op := .mv (.t 12) },
  { dst := some 41, op := .bin .add (.t 40) (.c (.i .i64 1)) },
  { dst := some 12, op := .mv (.t 41) }])))))))))
 (.reg false [{ dst := some 20, op := .mv (.t 8) },
  { dst := some 21, op := .bin .add (.t 20) (.c (.i .i64 1)) },
  { dst := some 8, op := .mv (.t 21) }]))))))
 (.seq (.reg false [{ dst := some 77, op := .ld (some 2) (.t 7) },
  { dst := none, op := .st 2 (.t 6) (.t 77) }])
 .ret)))) }
def A_xlaw00_Instr : AFun := { res := [.cell 6 (some 7)], body := (.seq (.reg false [{ dst := some 6, op := .new (List.replicate 5 (.i .i64 0) ++ [.sl [] 0 .rig, .i .i64 0]) }])
 (.seq (.reg false [{ dst := some 15, op := .mv (.t 0) },
  { dst := some 16, op := .call .pure (.c (.fn 10 [] [])) [.t 15, .c (.i .i64 1099511627776)] },
  { dst := some 7, op := .mv (.t 16) }])
 (.seq (.reg false [{ dst := some 17, op := .mv (.t 7) },
  { dst := some 18, op := .bin .quo (.t 17) (.c (.i .i64 20)) },
  { dst := some 8, op := .mv (.t 18) }])
 (.seq (.reg true [{ dst := some 19, op := .mv (.t 8) },
  { dst := some 20, op := .bin .rem (.t 19) (.c (.i .i64 3)) },
  { dst := some 21, op := .mv (.t 8) },
  { dst := some 22, op := .bin .quo (.t 21) (.c (.i .i64 3)) },
  { dst := some 23, op := .mv (.t 1) },
  { dst := some 24, op := .bin .rem (.t 22) (.t 23) },
  { dst := some 25, op := .mv (.t 8) },
  { dst := some 26, op := .bin .quo (.t 25) (.c (.i .i64 12)) },
  { dst := some 27, op := .call .pure (.c (.fn 107 [] [])) [.t 26], pre := [] },
  { dst := some 9, op := .mv (.t 20) },
  { dst := some 10, op := .mv (.t 24) },
  { dst := some 11, op := .mv (.t 27) }])
 (.seq (.reg true [{ dst := some 28, op := .build ([.i .i64 0, .i .i64 0, .i .i64 0]) [(0, 1, .c (.i .i64 0)), (1, 1, .c (.i .i64 0)), (2, 1, .c (.i .i64 1))] },
  { dst := some 29, op := .mv (.t 8) },
  { dst := some 30, op := .bin .quo (.t 29) (.c (.i .i64 7)) },
  { dst := some 31, op := .bin .rem (.t 30) (.c (.i .i64 3)) },
  { dst := some 32, op := .idx 3 1 none (.t 28) (.t 31) },
  { dst := some 33, op := .build ([.i .i64 0, .i .i64 0, .i .i64 0]) [(0, 1, .c (.i .i64 0)), (1, 1, .c (.i .i64 0)), (2, 1, .c (.i .i64 2))] },
  { dst := some 34, op := .mv (.t 8) },
  { dst := some 35, op := .bin .quo (.t 34) (.c (.i .i64 11)) },
  { dst := some 36, op := .bin .rem (.t 35) (.c (.i .i64 3)) },
  { dst := some 37, op := .idx 3 1 none (.t 33) (.t 36) },
  { dst := some 12, op := .mv (.t 32) },
  { dst := some 13, op := .mv (.t 37) }])
 (.seq (.seq (.reg false [{ dst := some 38, op := .mv (.t 7) },
  { dst := some 39, op := .bin .rem (.t 38) (.c (.i .i64 20)) },
  { dst := some 14, op := .mv (.t 39) }])
 (.blk 0 (.seq (.reg false [{ dst := some 41, op := .mv (.t 14) },
  { dst := some 42, op := .bin .lss (.t 41) (.c (.i .i64 6)) },
  { dst := some 40, op := .mv (.t 42) }])
 (.cond (.t 40) (.seq (.reg false [{ dst := some 43, op := .mv (.t 9) },
  { dst := some 44, op := .mv (.t 10) },
  { dst := some 45, op := .mv (.t 12) },
  { dst := some 46, op := .build (List.replicate 5 (.i .i64 0) ++ [.sl [] 0 .rig, .i .i64 0]) [(0, 1, .c (.i .i64 1)), (3, 1, .t 43), (4, 1, .t 44), (1, 1, .t 45)] },
  { dst := none, op := .st 7 (.t 6) (.t 46) }])
 .ret)
 (.seq (.reg false [{ dst := some 48, op := .mv (.t 14) },
  { dst := some 49, op := .bin .lss (.t 48) (.c (.i .i64 12)) },
  { dst := some 47, op := .mv (.t 49) }])
 (.cond (.t 47) (.seq (.reg false [{ dst := some 50, op := .mv (.t 10) },
  { dst := some 51, op := .mv (.t 13) },
  { dst := some 52, op := .mv (.t 11) },
  { dst := some 53, op := .build (List.replicate 5 (.i .i64 0) ++ [.sl [] 0 .rig, .i .i64 0]) [(0, 1, .c (.i .i64 2)), (4, 1, .t 50), (1, 1, .t 51), (5, 1, .t 52)] },
  { dst := none, op := .st 7 (.t 6) (.t 53) }])
 .ret)
 (.seq (.reg false [{ dst := some 55, op := .mv (.t 14) },
  { dst := some 56, op := .bin .lss (.t 55) (.c (.i .i64 15)) },
  { dst := some 54, op := .mv (.t 56) }])
 (.cond (.t 54) (.seq (.reg false [{ dst := some 57, op := .mv (.t 8) },
  { dst := some 58, op := .bin .quo (.t 57) (.c (.i .i64 5)) },
  { dst := some 59, op := .bin .rem (.t 58) (.c (.i .i64 4)) },
  { dst := some 60, op := .bin .add (.c (.i .i64 1)) (.t 59) },
  { dst := some 61, op := .build (List.replicate 5 (.i .i64 0) ++ [.sl [] 0 .rig, .i .i64 0]) [(0, 1, .c (.i .i64 3)), (1, 1, .t 60)] },
  { dst := none, op := .st 7 (.t 6) (.t 61) }])
 .ret)
 (.seq (.reg false [{ dst := some 63, op := .mv (.t 14) },
  { dst := some 64, op := .bin .lss (.t 63) (.c (.i .i64 16)) },
  { dst := some 62, op := .mv (.t 64) }])
 (.cond (.t 62) (.seq (.reg false [{ dst := some 65, op := .mv (.t 9) },
  { dst := some 66, op := .mv (.t 10) },
  { dst := some 67, op := .mv (.t 12) },
  { dst := some 68, op := .mv (.t 13) },
  { dst := some 69, op := .mv (.t 8) },
  { dst := some 70, op := .bin .quo (.t 69) (.c (.i .i64 17)) },
  { dst := some 71, op := .bin .rem (.t 70) (.c (.i .i64 2)) },
  { dst := some 72, op := .call .pure (.c (.fn 108 [] [])) [.t 71] },
  { dst := some 73, op := .bsl true 1 ([.i .i64 0, .i .i64 0]) [(0, 2, .t 72)] },
  { dst := some 74, op := .build (List.replicate 5 (.i .i64 0) ++ [.sl [] 0 .rig, .i .i64 0]) [(0, 1, .c (.i .i64 4)), (3, 1, .t 65), (4, 1, .t 66), (1, 1, .t 67), (2, 1, .t 68), (5, 1, .t 73)] },
  { dst := none, op := .st 7 (.t 6) (.t 74) }])
 .ret)
 (.seq (.reg false [{ dst := some 76, op := .mv (.t 14) },
  { dst := some 77, op := .bin .lss (.t 76) (.c (.i .i64 18)) },
  { dst := some 75, op := .mv (.t 77) }])
 (.cond (.t 75) (.seq (.reg false [{ dst := some 78, op := .mv (.t 9) },
  { dst := some 79, op := .mv (.t 11) },
  { dst := some 80, op := .build (List.replicate 5 (.i .i64 0) ++ [.sl [] 0 .rig, .i .i64 0]) [(0, 1, .c (.i .i64 5)), (3, 1, .t 78), (5, 1, .t 79)] },
  { dst := none, op := .st 7 (.t 6) (.t 80) }])
 .ret)
 .skip))))))))))))
 (.seq (.reg false [{ dst := some 81, op := .mv (.t 8) },
  { dst := some 82, op := .bin .quo (.t 81) (.c (.i .i64 19)) },
  { dst := some 83, op := .mv (.t 2) },
  { dst := some 84, op := .bin .add (.t 83) (.c (.i .i64 1)) },
  { dst := some 85, op := .bin .rem (.t 82) (.t 84) },
  { dst := some 86, op := .mv (.t 11) },
  { dst := some 87, op := .build (List.replicate 5 (.i .i64 0) ++ [.sl [] 0 .rig, .i .i64 0]) [(0, 1, .c (.i .i64 6)), (6, 1, .t 85), (5, 1, .t 86)] },
  { dst := none, op := .st 7 (.t 6) (.t 87) }])
 .ret))))))) }
def A_xlaw00_Expr : AFun := { res := [.t 2], body := (.seq (.reg false [{ dst := some 2, op := .mv (.c (.sl [] 0 .rig)) }])
 (.seq (.reg false [{ dst := some 6, op := .mv (.t 0) },
  { dst := some 7, op := .call .pure (.c (.fn 10 [] [])) [.t 6, .c (.i .i64 1073741824)] },
  { dst := some 3, op := .mv (.t 7) }])
 (.seq (.reg false [{ dst := some 8, op := .mv (.t 3) },
  { dst := some 9, op := .bin .quo (.t 8) (.c (.i .i64 10)) },
  { dst := some 10, op := .bin .rem (.t 9) (.c (.i .i64 3)) },
  { dst := some 11, op := .call .pure (.c (.fn 123 [] [])) [.t 10] },
  { dst := some 12, op := .mv (.t 3) },
  { dst := some 13, op := .bin .quo (.t 12) (.c (.i .i64 30)) },
  { dst := some 14, op := .bin .rem (.t 13) (.c (.i .i64 3)) },
  { dst := some 15, op := .call .pure (.c (.fn 108 [] [])) [.t 14] },
  { dst := some 4, op := .new ([.i .i64 0, .i .i64 0]) },
  { dst := some 5, op := .new ([.i .i64 0, .i .i64 0]) },
  { dst := none, op := .st 2 (.t 4) (.t 11) },
  { dst := none, op := .st 2 (.t 5) (.t 15) }])
 (.seq (.seq (.reg false [{ dst := some 16, op := .mv (.t 3) },
  { dst := some 17, op := .bin .rem (.t 16) (.c (.i .i64 10)) }])
 (.blk 0 (.seq (.seq (.reg false [{ dst := some 19, op := .bin .eql (.t 17) (.c (.i .i64 0)) },
  { dst := some 18, op := .mv (.t 19) }])
 (.cond (.t 18) .skip
 (.seq (.reg false [{ dst := some 20, op := .bin .eql (.t 17) (.c (.i .i64 1)) },
  { dst := some 18, op := .mv (.t 20) }])
 (.cond (.t 18) .skip
 (.reg false [{ dst := some 21, op := .bin .eql (.t 17) (.c (.i .i64 2)) },
  { dst := some 18, op := .mv (.t 21) }])))))
 (.cond (.t 18) (.seq (.reg false [{ dst := some 22, op := .ld (some 2) (.t 5) },
  { dst := some 23, op := .bsl true 1 ([.i .i64 0, .i .i64 0]) [(0, 2, .t 22)] },
  { dst := some 2, op := .mv (.t 23) }])
 .ret)
 (.seq (.seq (.reg false [{ dst := some 25, op := .bin .eql (.t 17) (.c (.i .i64 3)) },
  { dst := some 24, op := .mv (.t 25) }])
 (.cond (.t 24) .skip
 (.seq (.reg false [{ dst := some 26, op := .bin .eql (.t 17) (.c (.i .i64 4)) },
  { dst := some 24, op := .mv (.t 26) }])
 (.cond (.t 24) .skip
 (.reg false [{ dst := some 27, op := .bin .eql (.t 17) (.c (.i .i64 5)) },
  { dst := some 24, op := .mv (.t 27) }])))))
 (.cond (.t 24) (.seq (.reg false [{ dst := some 28, op := .ld (some 2) (.t 4) },
  { dst := some 29, op := .bsl true 1 ([.i .i64 0, .i .i64 0]) [(0, 2, .t 28)] },
  { dst := some 2, op := .mv (.t 29) }])
 .ret)
 (.seq (.reg false [{ dst := some 31, op := .bin .eql (.t 17) (.c (.i .i64 6)) },
  { dst := some 30, op := .mv (.t 31) }])
 (.cond (.t 30) (.seq (.reg true [{ dst := some 32, op := .ld (some 2) (.t 4), pre := [] },
  { dst := some 33, op := .ld (some 2) (.t 4), pre := [] },
  { dst := some 34, op := .call .pure (.c (.fn 124 [] [])) [.c (.i .i64 4)], pre := [] },
  { dst := some 35, op := .bsl true 3 (List.replicate 6 (.i .i64 0)) [(0, 2, .t 32), (2, 2, .t 33), (4, 2, .t 34)], pre := [] },
  { dst := some 2, op := .mv (.t 35) }])
 .ret)
 (.seq (.reg false [{ dst := some 37, op := .bin .eql (.t 17) (.c (.i .i64 7)) },
  { dst := some 36, op := .mv (.t 37) }])
 (.cond (.t 36) (.seq (.reg true [{ dst := some 38, op := .ld (some 2) (.t 4), pre := [] },
  { dst := some 39, op := .ld (some 2) (.t 5), pre := [] },
  { dst := some 40, op := .call .pure (.c (.fn 124 [] [])) [.c (.i .i64 5)], pre := [] },
  { dst := some 41, op := .bsl true 3 (List.replicate 6 (.i .i64 0)) [(0, 2, .t 38), (2, 2, .t 39), (4, 2, .t 40)], pre := [] },
  { dst := some 2, op := .mv (.t 41) }])
 .ret)
 (.seq (.reg false [{ dst := some 43, op := .bin .eql (.t 17) (.c (.i .i64 8)) },
  { dst := some 42, op := .mv (.t 43) }])
 (.cond (.t 42) (.seq (.reg true [{ dst := some 44, op := .ld (some 2) (.t 4), pre := [] },
  { dst := some 45, op := .ld (some 2) (.t 5), pre := [] },
  { dst := some 46, op := .call .pure (.c (.fn 124 [] [])) [.c (.i .i64 6)], pre := [] },
  { dst := some 47, op := .bsl true 3 (List.replicate 6 (.i .i64 0)) [(0, 2, .t 44), (2, 2, .t 45), (4, 2, .t 46)], pre := [] },
  { dst := some 2, op := .mv (.t 47) }])
 .ret)
 .skip))))))))))))
 (.seq (.reg true [{ dst := some 48, op := .ld (some 2) (.t 5), pre := [] },
  { dst := some 49, op := .call .pure (.c (.fn 108 [] [])) [.c (.i .i64 1)], pre := [] },
  { dst := some 50, op := .call .pure (.c (.fn 124 [] [])) [.c (.i .i64 3)], pre := [] },
  { dst := some 51, op := .bsl true 3 (List.replicate 6 (.i .i64 0)) [(0, 2, .t 48), (2, 2, .t 49), (4, 2, .t 50)], pre := [] },
  { dst := some 2, op := .mv (.t 51) }])
 .ret))))) }
def A_xlaw00_num : AFun := { res := [.cell 2 (some 2)], body := (.seq (.reg false [{ dst := some 2, op := .new ([.i .i64 0, .i .i64 0]) }])
 (.seq (.reg false [{ dst := some 3, op := .mv (.t 0) },
  { dst := some 4, op := .build ([.i .i64 0, .i .i64 0]) [(0, 1, .c (.i .i64 1)), (1, 1, .t 3)] },
  { dst := none, op := .st 2 (.t 2) (.t 4) }])
 .ret)) }
def A_xlaw00_reg : AFun := { res := [.cell 2 (some 2)], body := (.seq (.reg false [{ dst := some 2, op := .new ([.i .i64 0, .i .i64 0]) }])
 (.seq (.reg false [{ dst := some 3, op := .mv (.t 0) },
  { dst := some 4, op := .build ([.i .i64 0, .i .i64 0]) [(0, 1, .c (.i .i64 2)), (1, 1, .t 3)] },
  { dst := none, op := .st 2 (.t 2) (.t 4) }])
 .ret)) }
def A_xlaw00_op : AFun := { res := [.cell 2 (some 2)], body := (.seq (.reg false [{ dst := some 2, op := .new ([.i .i64 0, .i .i64 0]) }])
 (.seq (.reg false [{ dst := some 3, op := .mv (.t 0) },
  { dst := some 4, op := .build ([.i .i64 0, .i .i64 0]) [(0, 1, .c (.i .i64 3)), (1, 1, .t 3)] },
  { dst := none, op := .st 2 (.t 2) (.t 4) }])
 .ret)) }
structure Pk_xlaw00 (F : Funs) : Prop where
  xlaw00_Place : F 10 = some A_xlaw00_Place
  xlaw00_FewGraph : F 44 = some A_xlaw00_FewGraph
  xlaw00_Small : F 76 = some A_xlaw00_Small
  xlaw00_Loads : F 77 = some A_xlaw00_Loads
  xlaw00_Domain : F 79 = some A_xlaw00_Domain
  xlaw00_Prog : F 86 = some A_xlaw00_Prog
  xlaw00_Instr : F 97 = some A_xlaw00_Instr
  xlaw00_Expr : F 107 = some A_xlaw00_Expr
  xlaw00_num : F 108 = some A_xlaw00_num
  xlaw00_reg : F 123 = some A_xlaw00_reg
  xlaw00_op : F 124 = some A_xlaw00_op
end Go.Ab
