/- Resolved functions of package xref01, written by a program (res.py). -/
import Derived.Test.YtfhinaopoffcnaaAb
namespace Go.Ab
def A_xref01_New : AFun := { res := [.t 4], body := (.seq (.reg false [{ dst := some 4, op := .mv (.c (.nilp)) }])
 (.seq (.reg false [{ dst := some 9, op := .mv (.t 0) },
  { dst := some 10, op := .mx (.t 9) (.c (.i .i64 0)) },
  { dst := some 11, op := .mn (.t 10) (.c (.i .i64 40)) },
  { dst := some 12, op := .build ([.i .i64 0] ++ List.replicate 1600 (.b false)) [(0, 1, .t 11)] },
  { dst := some 13, op := .box (.t 12) },
  { dst := some 5, op := .mv (.t 13) }])
 (.seq (.seq (.reg false [{ dst := some 6, op := .mv (.c (.i .i64 0)) }])
 (.blk 0 (.loop (.seq (.seq (.reg false [{ dst := some 14, op := .mv (.t 6) },
  { dst := some 15, op := .mv (.t 1) },
  { dst := some 16, op := .len (.t 15) },
  { dst := some 17, op := .bin .lss (.t 14) (.t 16) }])
 (.cond (.t 17) .skip
 (.ext 0)))
 (.seq (.blk 1 (.seq (.reg true [{ dst := some 20, op := .mv (.t 1) },
  { dst := some 21, op := .mv (.t 6) },
  { dst := some 22, op := .ia 2 (.t 20) (.t 21) },
  { dst := some 23, op := .fa 0 (.t 22) },
  { dst := some 24, op := .ld none (.t 23), pre := [] },
  { dst := some 25, op := .mv (.t 1) },
  { dst := some 26, op := .mv (.t 6) },
  { dst := some 27, op := .ia 2 (.t 25) (.t 26) },
  { dst := some 28, op := .fa 1 (.t 27) },
  { dst := some 29, op := .ld none (.t 28), pre := [] },
  { dst := some 7, op := .mv (.t 24) },
  { dst := some 8, op := .mv (.t 29) }])
 (.seq (.reg false [{ dst := some 30, op := .mv (.t 7) },
  { dst := some 31, op := .bin .geq (.t 30) (.c (.i .i64 0)) },
  { dst := some 32, op := .mv (.t 31) },
  { dst := some 33, op := .mv (.t 8), grd := some (32, true) },
  { dst := some 34, op := .bin .geq (.t 33) (.c (.i .i64 0)), grd := some (32, true) },
  { dst := some 35, op := .pick (.t 32) (.t 34) (.c (.b false)) },
  { dst := some 36, op := .mv (.t 35) },
  { dst := some 37, op := .mv (.t 7), grd := some (36, true) },
  { dst := some 38, op := .mv (.t 5), grd := some (36, true) },
  { dst := some 39, op := .nilck (.t 38), grd := some (36, true) },
  { dst := some 40, op := .fa 0 (.t 39), grd := some (36, true) },
  { dst := some 41, op := .ld none (.t 40), grd := some (36, true) },
  { dst := some 42, op := .bin .lss (.t 37) (.t 41), grd := some (36, true) },
  { dst := some 43, op := .pick (.t 36) (.t 42) (.c (.b false)) },
  { dst := some 44, op := .mv (.t 43) },
  { dst := some 45, op := .mv (.t 8), grd := some (44, true) },
  { dst := some 46, op := .mv (.t 5), grd := some (44, true) },
  { dst := some 47, op := .nilck (.t 46), grd := some (44, true) },
  { dst := some 48, op := .fa 0 (.t 47), grd := some (44, true) },
  { dst := some 49, op := .ld none (.t 48), grd := some (44, true) },
  { dst := some 50, op := .bin .lss (.t 45) (.t 49), grd := some (44, true) },
  { dst := some 51, op := .pick (.t 44) (.t 50) (.c (.b false)) }])
 (.cond (.t 51) (.reg false [{ dst := some 52, op := .mv (.t 5) },
  { dst := some 53, op := .mv (.t 7) },
  { dst := some 54, op := .mv (.t 8) },
  { dst := some 55, op := .nilck (.t 52) },
  { dst := some 56, op := .fa 1 (.t 55) },
  { dst := some 57, op := .iaa 40 40 (.t 56) (.t 53) },
  { dst := some 58, op := .iaa 40 1 (.t 57) (.t 54) },
  { dst := none, op := .st 1 (.t 58) (.c (.b true)) }])
 .skip))))
 (.reg false [{ dst := some 18, op := .mv (.t 6) },
  { dst := some 19, op := .bin .add (.t 18) (.c (.i .i64 1)) },
  { dst := some 6, op := .mv (.t 19) }]))))))
 (.seq (.reg false [{ dst := some 59, op := .mv (.t 5) },
  { dst := some 4, op := .mv (.t 59) }])
 .ret)))) }
def A_xref01_R_Or : AFun := { res := [.t 4], body := (.seq (.reg false [{ dst := some 4, op := .mv (.c (.nilp)) }])
 (.seq (.reg true [{ dst := some 8, op := .mv (.t 0) },
  { dst := some 9, op := .nilck (.t 8) },
  { dst := some 10, op := .fa 0 (.t 9) },
  { dst := some 11, op := .ld none (.t 10), pre := [] },
  { dst := some 12, op := .mv (.t 1) },
  { dst := some 13, op := .nilck (.t 12) },
  { dst := some 14, op := .fa 0 (.t 13) },
  { dst := some 15, op := .ld none (.t 14), pre := [] },
  { dst := some 16, op := .mx (.t 11) (.t 15) },
  { dst := some 17, op := .call .thaw (.c (.fn 27 [] [])) [.t 16, .c (.sl [] 0 .rig)], pre := [] },
  { dst := some 5, op := .mv (.t 17) }])
 (.seq (.seq (.reg false [{ dst := some 6, op := .mv (.c (.i .i64 0)) }])
 (.blk 0 (.loop (.seq (.seq (.reg false [{ dst := some 18, op := .mv (.t 6) },
  { dst := some 19, op := .mv (.t 5) },
  { dst := some 20, op := .nilck (.t 19) },
  { dst := some 21, op := .fa 0 (.t 20) },
  { dst := some 22, op := .ld none (.t 21) },
  { dst := some 23, op := .bin .lss (.t 18) (.t 22) }])
 (.cond (.t 23) .skip
 (.ext 0)))
 (.seq (.blk 1 (.seq (.reg false [{ dst := some 7, op := .mv (.c (.i .i64 0)) }])
 (.blk 2 (.loop (.seq (.seq (.reg false [{ dst := some 26, op := .mv (.t 7) },
  { dst := some 27, op := .mv (.t 5) },
  { dst := some 28, op := .nilck (.t 27) },
  { dst := some 29, op := .fa 0 (.t 28) },
  { dst := some 30, op := .ld none (.t 29) },
  { dst := some 31, op := .bin .lss (.t 26) (.t 30) }])
 (.cond (.t 31) .skip
 (.ext 2)))
 (.seq (.blk 3 (.reg true [{ dst := some 34, op := .mv (.t 5) },
  { dst := some 35, op := .mv (.t 6) },
  { dst := some 36, op := .mv (.t 7) },
  { dst := some 37, op := .mv (.t 0) },
  { dst := some 38, op := .mv (.t 6) },
  { dst := some 39, op := .mv (.t 7) },
  { dst := some 40, op := .nilck (.t 37) },
  { dst := some 41, op := .fa 1 (.t 40) },
  { dst := some 42, op := .iaa 40 40 (.t 41) (.t 38) },
  { dst := some 43, op := .iaa 40 1 (.t 42) (.t 39) },
  { dst := some 44, op := .ld none (.t 43), pre := [] },
  { dst := some 45, op := .mv (.t 44) },
  { dst := some 46, op := .mv (.t 1), grd := some (45, false) },
  { dst := some 47, op := .mv (.t 6), grd := some (45, false) },
  { dst := some 48, op := .mv (.t 7), grd := some (45, false) },
  { dst := some 49, op := .nilck (.t 46), grd := some (45, false) },
  { dst := some 50, op := .fa 1 (.t 49), grd := some (45, false) },
  { dst := some 51, op := .iaa 40 40 (.t 50) (.t 47), grd := some (45, false) },
  { dst := some 52, op := .iaa 40 1 (.t 51) (.t 48), grd := some (45, false) },
  { dst := some 53, op := .ld none (.t 52), grd := some (45, false), pre := [] },
  { dst := some 54, op := .pick (.t 45) (.c (.b true)) (.t 53) },
  { dst := some 55, op := .nilck (.t 34) },
  { dst := some 56, op := .fa 1 (.t 55) },
  { dst := some 57, op := .iaa 40 40 (.t 56) (.t 35) },
  { dst := some 58, op := .iaa 40 1 (.t 57) (.t 36) },
  { dst := none, op := .st 1 (.t 58) (.t 54), pre := [] }]))
 (.reg false [{ dst := some 32, op := .mv (.t 7) },
  { dst := some 33, op := .bin .add (.t 32) (.c (.i .i64 1)) },
  { dst := some 7, op := .mv (.t 33) }])))))))
 (.reg false [{ dst := some 24, op := .mv (.t 6) },
  { dst := some 25, op := .bin .add (.t 24) (.c (.i .i64 1)) },
  { dst := some 6, op := .mv (.t 25) }]))))))
 (.seq (.reg false [{ dst := some 59, op := .mv (.t 5) },
  { dst := some 4, op := .mv (.t 59) }])
 .ret)))) }
def A_xref01_R_And : AFun := { res := [.t 4], body := (.seq (.reg false [{ dst := some 4, op := .mv (.c (.nilp)) }])
 (.seq (.reg true [{ dst := some 8, op := .mv (.t 0) },
  { dst := some 9, op := .nilck (.t 8) },
  { dst := some 10, op := .fa 0 (.t 9) },
  { dst := some 11, op := .ld none (.t 10), pre := [] },
  { dst := some 12, op := .mv (.t 1) },
  { dst := some 13, op := .nilck (.t 12) },
  { dst := some 14, op := .fa 0 (.t 13) },
  { dst := some 15, op := .ld none (.t 14), pre := [] },
  { dst := some 16, op := .mx (.t 11) (.t 15) },
  { dst := some 17, op := .call .thaw (.c (.fn 27 [] [])) [.t 16, .c (.sl [] 0 .rig)], pre := [] },
  { dst := some 5, op := .mv (.t 17) }])
 (.seq (.seq (.reg false [{ dst := some 6, op := .mv (.c (.i .i64 0)) }])
 (.blk 0 (.loop (.seq (.seq (.reg false [{ dst := some 18, op := .mv (.t 6) },
  { dst := some 19, op := .mv (.t 5) },
  { dst := some 20, op := .nilck (.t 19) },
  { dst := some 21, op := .fa 0 (.t 20) },
  { dst := some 22, op := .ld none (.t 21) },
  { dst := some 23, op := .bin .lss (.t 18) (.t 22) }])
 (.cond (.t 23) .skip
 (.ext 0)))
 (.seq (.blk 1 (.seq (.reg false [{ dst := some 7, op := .mv (.c (.i .i64 0)) }])
 (.blk 2 (.loop (.seq (.seq (.reg false [{ dst := some 26, op := .mv (.t 7) },
  { dst := some 27, op := .mv (.t 5) },
  { dst := some 28, op := .nilck (.t 27) },
  { dst := some 29, op := .fa 0 (.t 28) },
  { dst := some 30, op := .ld none (.t 29) },
  { dst := some 31, op := .bin .lss (.t 26) (.t 30) }])
 (.cond (.t 31) .skip
 (.ext 2)))
 (.seq (.blk 3 (.reg true [{ dst := some 34, op := .mv (.t 5) },
  { dst := some 35, op := .mv (.t 6) },
  { dst := some 36, op := .mv (.t 7) },
  { dst := some 37, op := .mv (.t 0) },
  { dst := some 38, op := .mv (.t 6) },
  { dst := some 39, op := .mv (.t 7) },
  { dst := some 40, op := .nilck (.t 37) },
  { dst := some 41, op := .fa 1 (.t 40) },
  { dst := some 42, op := .iaa 40 40 (.t 41) (.t 38) },
  { dst := some 43, op := .iaa 40 1 (.t 42) (.t 39) },
  { dst := some 44, op := .ld none (.t 43), pre := [] },
  { dst := some 45, op := .mv (.t 44) },
  { dst := some 46, op := .mv (.t 1), grd := some (45, true) },
  { dst := some 47, op := .mv (.t 6), grd := some (45, true) },
  { dst := some 48, op := .mv (.t 7), grd := some (45, true) },
  { dst := some 49, op := .nilck (.t 46), grd := some (45, true) },
  { dst := some 50, op := .fa 1 (.t 49), grd := some (45, true) },
  { dst := some 51, op := .iaa 40 40 (.t 50) (.t 47), grd := some (45, true) },
  { dst := some 52, op := .iaa 40 1 (.t 51) (.t 48), grd := some (45, true) },
  { dst := some 53, op := .ld none (.t 52), grd := some (45, true), pre := [] },
  { dst := some 54, op := .pick (.t 45) (.t 53) (.c (.b false)) },
  { dst := some 55, op := .nilck (.t 34) },
  { dst := some 56, op := .fa 1 (.t 55) },
  { dst := some 57, op := .iaa 40 40 (.t 56) (.t 35) },
  { dst := some 58, op := .iaa 40 1 (.t 57) (.t 36) },
  { dst := none, op := .st 1 (.t 58) (.t 54), pre := [] }]))
 (.reg false [{ dst := some 32, op := .mv (.t 7) },
  { dst := some 33, op := .bin .add (.t 32) (.c (.i .i64 1)) },
  { dst := some 7, op := .mv (.t 33) }])))))))
 (.reg false [{ dst := some 24, op := .mv (.t 6) },
  { dst := some 25, op := .bin .add (.t 24) (.c (.i .i64 1)) },
  { dst := some 6, op := .mv (.t 25) }]))))))
 (.seq (.reg false [{ dst := some 59, op := .mv (.t 5) },
  { dst := some 4, op := .mv (.t 59) }])
 .ret)))) }
def A_xref01_R_Less : AFun := { res := [.t 4], body := (.seq (.reg false [{ dst := some 4, op := .mv (.c (.nilp)) }])
 (.seq (.reg true [{ dst := some 8, op := .mv (.t 0) },
  { dst := some 9, op := .nilck (.t 8) },
  { dst := some 10, op := .fa 0 (.t 9) },
  { dst := some 11, op := .ld none (.t 10), pre := [] },
  { dst := some 12, op := .mv (.t 1) },
  { dst := some 13, op := .nilck (.t 12) },
  { dst := some 14, op := .fa 0 (.t 13) },
  { dst := some 15, op := .ld none (.t 14), pre := [] },
  { dst := some 16, op := .mx (.t 11) (.t 15) },
  { dst := some 17, op := .call .thaw (.c (.fn 27 [] [])) [.t 16, .c (.sl [] 0 .rig)], pre := [] },
  { dst := some 5, op := .mv (.t 17) }])
 (.seq (.seq (.reg false [{ dst := some 6, op := .mv (.c (.i .i64 0)) }])
 (.blk 0 (.loop (.seq (.seq (.reg false [{ dst := some 18, op := .mv (.t 6) },
  { dst := some 19, op := .mv (.t 5) },
  { dst := some 20, op := .nilck (.t 19) },
  { dst := some 21, op := .fa 0 (.t 20) },
  { dst := some 22, op := .ld none (.t 21) },
  { dst := some 23, op := .bin .lss (.t 18) (.t 22) }])
 (.cond (.t 23) .skip
 (.ext 0)))
 (.seq (.blk 1 (.seq (.reg false [{ dst := some 7, op := .mv (.c (.i .i64 0)) }])
 (.blk 2 (.loop (.seq (.seq (.reg false [{ dst := some 26, op := .mv (.t 7) },
  { dst := some 27, op := .mv (.t 5) },
  { dst := some 28, op := .nilck (.t 27) },
  { dst := some 29, op := .fa 0 (.t 28) },
  { dst := some 30, op := .ld none (.t 29) },
  { dst := some 31, op := .bin .lss (.t 26) (.t 30) }])
 (.cond (.t 31) .skip
 (.ext 2)))
 (.seq (.blk 3 (.reg true [{ dst := some 34, op := .mv (.t 5) },
  { dst := some 35, op := .mv (.t 6) },
  { dst := some 36, op := .mv (.t 7) },
  { dst := some 37, op := .mv (.t 0) },
  { dst := some 38, op := .mv (.t 6) },
  { dst := some 39, op := .mv (.t 7) },
  { dst := some 40, op := .nilck (.t 37) },
  { dst := some 41, op := .fa 1 (.t 40) },
  { dst := some 42, op := .iaa 40 40 (.t 41) (.t 38) },
  { dst := some 43, op := .iaa 40 1 (.t 42) (.t 39) },
  { dst := some 44, op := .ld none (.t 43), pre := [] },
  { dst := some 45, op := .mv (.t 44) },
  { dst := some 46, op := .mv (.t 1), grd := some (45, true) },
  { dst := some 47, op := .mv (.t 6), grd := some (45, true) },
  { dst := some 48, op := .mv (.t 7), grd := some (45, true) },
  { dst := some 49, op := .nilck (.t 46), grd := some (45, true) },
  { dst := some 50, op := .fa 1 (.t 49), grd := some (45, true) },
  { dst := some 51, op := .iaa 40 40 (.t 50) (.t 47), grd := some (45, true) },
  { dst := some 52, op := .iaa 40 1 (.t 51) (.t 48), grd := some (45, true) },
  { dst := some 53, op := .ld none (.t 52), grd := some (45, true), pre := [] },
  { dst := some 54, op := .un .not (.t 53), grd := some (45, true) },
  { dst := some 55, op := .pick (.t 45) (.t 54) (.c (.b false)) },
  { dst := some 56, op := .nilck (.t 34) },
  { dst := some 57, op := .fa 1 (.t 56) },
  { dst := some 58, op := .iaa 40 40 (.t 57) (.t 35) },
  { dst := some 59, op := .iaa 40 1 (.t 58) (.t 36) },
  { dst := none, op := .st 1 (.t 59) (.t 55), pre := [] }]))
 (.reg false [{ dst := some 32, op := .mv (.t 7) },
  { dst := some 33, op := .bin .add (.t 32) (.c (.i .i64 1)) },
  { dst := some 7, op := .mv (.t 33) }])))))))
 (.reg false [{ dst := some 24, op := .mv (.t 6) },
  { dst := some 25, op := .bin .add (.t 24) (.c (.i .i64 1)) },
  { dst := some 6, op := .mv (.t 25) }]))))))
 (.seq (.reg false [{ dst := some 60, op := .mv (.t 5) },
  { dst := some 4, op := .mv (.t 60) }])
 .ret)))) }
def A_xref01_R_Then : AFun := { res := [.t 4], body := (.seq (.reg false [{ dst := some 4, op := .mv (.c (.nilp)) }])
 (.seq (.reg true [{ dst := some 9, op := .mv (.t 0) },
  { dst := some 10, op := .nilck (.t 9) },
  { dst := some 11, op := .fa 0 (.t 10) },
  { dst := some 12, op := .ld none (.t 11), pre := [] },
  { dst := some 13, op := .mv (.t 1) },
  { dst := some 14, op := .nilck (.t 13) },
  { dst := some 15, op := .fa 0 (.t 14) },
  { dst := some 16, op := .ld none (.t 15), pre := [] },
  { dst := some 17, op := .mx (.t 12) (.t 16) },
  { dst := some 18, op := .call .thaw (.c (.fn 27 [] [])) [.t 17, .c (.sl [] 0 .rig)], pre := [] },
  { dst := some 5, op := .mv (.t 18) }])
 (.seq (.seq (.reg false [{ dst := some 6, op := .mv (.c (.i .i64 0)) }])
 (.blk 0 (.loop (.seq (.seq (.reg false [{ dst := some 19, op := .mv (.t 6) },
  { dst := some 20, op := .mv (.t 5) },
  { dst := some 21, op := .nilck (.t 20) },
  { dst := some 22, op := .fa 0 (.t 21) },
  { dst := some 23, op := .ld none (.t 22) },
  { dst := some 24, op := .bin .lss (.t 19) (.t 23) }])
 (.cond (.t 24) .skip
 (.ext 0)))
 (.seq (.blk 1 (.seq (.reg false [{ dst := some 7, op := .mv (.c (.i .i64 0)) }])
 (.blk 2 (.loop (.seq (.seq (.reg false [{ dst := some 27, op := .mv (.t 7) },
  { dst := some 28, op := .mv (.t 5) },
  { dst := some 29, op := .nilck (.t 28) },
  { dst := some 30, op := .fa 0 (.t 29) },
  { dst := some 31, op := .ld none (.t 30) },
  { dst := some 32, op := .bin .lss (.t 27) (.t 31) }])
 (.cond (.t 32) .skip
 (.ext 2)))
 (.seq (.blk 3 (.seq (.reg false [{ dst := some 8, op := .mv (.c (.i .i64 0)) }])
 (.blk 4 (.loop (.seq (.seq (.reg false [{ dst := some 35, op := .mv (.t 8) },
  { dst := some 36, op := .mv (.t 5) },
  { dst := some 37, op := .nilck (.t 36) },
  { dst := some 38, op := .fa 0 (.t 37) },
  { dst := some 39, op := .ld none (.t 38) },
  { dst := some 40, op := .bin .lss (.t 35) (.t 39) },
  { dst := some 41, op := .mv (.t 40) },
  { dst := some 42, op := .mv (.t 0), grd := some (41, true) },
  { dst := some 43, op := .mv (.t 6), grd := some (41, true) },
  { dst := some 44, op := .mv (.t 7), grd := some (41, true) },
  { dst := some 45, op := .nilck (.t 42), grd := some (41, true) },
  { dst := some 46, op := .fa 1 (.t 45), grd := some (41, true) },
  { dst := some 47, op := .iaa 40 40 (.t 46) (.t 43), grd := some (41, true) },
  { dst := some 48, op := .iaa 40 1 (.t 47) (.t 44), grd := some (41, true) },
  { dst := some 49, op := .ld none (.t 48), grd := some (41, true) },
  { dst := some 50, op := .pick (.t 41) (.t 49) (.c (.b false)) }])
 (.cond (.t 50) .skip
 (.ext 4)))
 (.seq (.blk 5 (.reg true [{ dst := some 53, op := .mv (.t 5) },
  { dst := some 54, op := .mv (.t 6) },
  { dst := some 55, op := .mv (.t 8) },
  { dst := some 56, op := .mv (.t 5) },
  { dst := some 57, op := .mv (.t 6) },
  { dst := some 58, op := .mv (.t 8) },
  { dst := some 59, op := .nilck (.t 56) },
  { dst := some 60, op := .fa 1 (.t 59) },
  { dst := some 61, op := .iaa 40 40 (.t 60) (.t 57) },
  { dst := some 62, op := .iaa 40 1 (.t 61) (.t 58) },
  { dst := some 63, op := .ld none (.t 62), pre := [] },
  { dst := some 64, op := .mv (.t 63) },
  { dst := some 65, op := .mv (.t 1), grd := some (64, false) },
  { dst := some 66, op := .mv (.t 7), grd := some (64, false) },
  { dst := some 67, op := .mv (.t 8), grd := some (64, false) },
  { dst := some 68, op := .nilck (.t 65), grd := some (64, false) },
  { dst := some 69, op := .fa 1 (.t 68), grd := some (64, false) },
  { dst := some 70, op := .iaa 40 40 (.t 69) (.t 66), grd := some (64, false) },
  { dst := some 71, op := .iaa 40 1 (.t 70) (.t 67), grd := some (64, false) },
  { dst := some 72, op := .ld none (.t 71), grd := some (64, false), pre := [] },
  { dst := some 73, op := .pick (.t 64) (.c (.b true)) (.t 72) },
  { dst := some 74, op := .nilck (.t 53) },
  { dst := some 75, op := .fa 1 (.t 74) },
  { dst := some 76, op := .iaa 40 40 (.t 75) (.t 54) },
  { dst := some 77, op := .iaa 40 1 (.t 76) (.t 55) },
  { dst := none, op := .st 1 (.t 77) (.t 73), pre := [] }]))
 (.reg false [{ dst := some 51, op := .mv (.t 8) },
  { dst := some 52, op := .bin .add (.t 51) (.c (.i .i64 1)) },
  { dst := some 8, op := .mv (.t 52) }])))))))
 (.reg false [{ dst := some 33, op := .mv (.t 7) },
  { dst := some 34, op := .bin .add (.t 33) (.c (.i .i64 1)) },
  { dst := some 7, op := .mv (.t 34) }])))))))
 (.reg false [{ dst := some 25, op := .mv (.t 6) },
  { dst := some 26, op := .bin .add (.t 25) (.c (.i .i64 1)) },
  { dst := some 6, op := .mv (.t 26) }]))))))
 (.seq (.reg false [{ dst := some 78, op := .mv (.t 5) },
  { dst := some 4, op := .mv (.t 78) }])
 .ret)))) }
def A_xref01_R_Back : AFun := { res := [.t 2], body := (.seq (.reg false [{ dst := some 2, op := .mv (.c (.nilp)) }])
 (.seq (.reg false [{ dst := some 6, op := .mv (.t 0) },
  { dst := some 7, op := .nilck (.t 6) },
  { dst := some 8, op := .fa 0 (.t 7) },
  { dst := some 9, op := .ld none (.t 8) },
  { dst := some 10, op := .call .thaw (.c (.fn 27 [] [])) [.t 9, .c (.sl [] 0 .rig)] },
  { dst := some 3, op := .mv (.t 10) }])
 (.seq (.seq (.reg false [{ dst := some 4, op := .mv (.c (.i .i64 0)) }])
 (.blk 0 (.loop (.seq (.seq (.reg false [{ dst := some 11, op := .mv (.t 4) },
  { dst := some 12, op := .mv (.t 3) },
  { dst := some 13, op := .nilck (.t 12) },
  { dst := some 14, op := .fa 0 (.t 13) },
  { dst := some 15, op := .ld none (.t 14) },
  { dst := some 16, op := .bin .lss (.t 11) (.t 15) }])
 (.cond (.t 16) .skip
 (.ext 0)))
 (.seq (.blk 1 (.seq (.reg false [{ dst := some 5, op := .mv (.c (.i .i64 0)) }])
 (.blk 2 (.loop (.seq (.seq (.reg false [{ dst := some 19, op := .mv (.t 5) },
  { dst := some 20, op := .mv (.t 3) },
  { dst := some 21, op := .nilck (.t 20) },
  { dst := some 22, op := .fa 0 (.t 21) },
  { dst := some 23, op := .ld none (.t 22) },
  { dst := some 24, op := .bin .lss (.t 19) (.t 23) }])
 (.cond (.t 24) .skip
 (.ext 2)))
 (.seq (.blk 3 (.reg true [{ dst := some 27, op := .mv (.t 3) },
  { dst := some 28, op := .mv (.t 5) },
  { dst := some 29, op := .mv (.t 4) },
  { dst := some 30, op := .mv (.t 0) },
  { dst := some 31, op := .mv (.t 4) },
  { dst := some 32, op := .mv (.t 5) },
  { dst := some 33, op := .nilck (.t 30) },
  { dst := some 34, op := .fa 1 (.t 33) },
  { dst := some 35, op := .iaa 40 40 (.t 34) (.t 31) },
  { dst := some 36, op := .iaa 40 1 (.t 35) (.t 32) },
  { dst := some 37, op := .ld none (.t 36), pre := [] },
  { dst := some 38, op := .nilck (.t 27) },
  { dst := some 39, op := .fa 1 (.t 38) },
  { dst := some 40, op := .iaa 40 40 (.t 39) (.t 28) },
  { dst := some 41, op := .iaa 40 1 (.t 40) (.t 29) },
  { dst := none, op := .st 1 (.t 41) (.t 37), pre := [] }]))
 (.reg false [{ dst := some 25, op := .mv (.t 5) },
  { dst := some 26, op := .bin .add (.t 25) (.c (.i .i64 1)) },
  { dst := some 5, op := .mv (.t 26) }])))))))
 (.reg false [{ dst := some 17, op := .mv (.t 4) },
  { dst := some 18, op := .bin .add (.t 17) (.c (.i .i64 1)) },
  { dst := some 4, op := .mv (.t 18) }]))))))
 (.seq (.reg false [{ dst := some 42, op := .mv (.t 3) },
  { dst := some 2, op := .mv (.t 42) }])
 .ret)))) }
def A_xref01_R_Plus : AFun := { res := [.t 2], body := (.seq (.reg false [{ dst := some 2, op := .mv (.c (.nilp)) }])
 (.seq (.reg false [{ dst := some 7, op := .mv (.t 0) },
  { dst := some 8, op := .nilck (.t 7) },
  { dst := some 9, op := .fa 0 (.t 8) },
  { dst := some 10, op := .ld none (.t 9) },
  { dst := some 11, op := .call .thaw (.c (.fn 27 [] [])) [.t 10, .c (.sl [] 0 .rig)] },
  { dst := some 3, op := .mv (.t 11) }])
 (.seq (.reg false [{ dst := some 12, op := .mv (.t 3) },
  { dst := some 13, op := .mv (.t 0) },
  { dst := some 14, op := .nilck (.t 13) },
  { dst := some 15, op := .fa 1 (.t 14) },
  { dst := some 16, op := .ld (some 1600) (.t 15) },
  { dst := some 17, op := .nilck (.t 12) },
  { dst := some 18, op := .fa 1 (.t 17) },
  { dst := none, op := .st 1600 (.t 18) (.t 16) }])
 (.seq (.seq (.reg false [{ dst := some 4, op := .mv (.c (.i .i64 0)) }])
 (.blk 0 (.loop (.seq (.seq (.reg false [{ dst := some 19, op := .mv (.t 4) },
  { dst := some 20, op := .mv (.t 3) },
  { dst := some 21, op := .nilck (.t 20) },
  { dst := some 22, op := .fa 0 (.t 21) },
  { dst := some 23, op := .ld none (.t 22) },
  { dst := some 24, op := .bin .lss (.t 19) (.t 23) }])
 (.cond (.t 24) .skip
 (.ext 0)))
 (.seq (.blk 1 (.seq (.reg false [{ dst := some 5, op := .mv (.c (.i .i64 0)) }])
 (.blk 2 (.loop (.seq (.seq (.reg false [{ dst := some 27, op := .mv (.t 5) },
  { dst := some 28, op := .mv (.t 3) },
  { dst := some 29, op := .nilck (.t 28) },
  { dst := some 30, op := .fa 0 (.t 29) },
  { dst := some 31, op := .ld none (.t 30) },
  { dst := some 32, op := .bin .lss (.t 27) (.t 31) }])
 (.cond (.t 32) .skip
 (.ext 2)))
 (.seq (.blk 3 (.seq (.reg false [{ dst := some 6, op := .mv (.c (.i .i64 0)) }])
 (.blk 4 (.loop (.seq (.seq (.reg false [{ dst := some 35, op := .mv (.t 6) },
  { dst := some 36, op := .mv (.t 3) },
  { dst := some 37, op := .nilck (.t 36) },
  { dst := some 38, op := .fa 0 (.t 37) },
  { dst := some 39, op := .ld none (.t 38) },
  { dst := some 40, op := .bin .lss (.t 35) (.t 39) },
  { dst := some 41, op := .mv (.t 40) },
  { dst := some 42, op := .mv (.t 3), grd := some (41, true) },
  { dst := some 43, op := .mv (.t 5), grd := some (41, true) },
  { dst := some 44, op := .mv (.t 4), grd := some (41, true) },
  { dst := some 45, op := .nilck (.t 42), grd := some (41, true) },
  { dst := some 46, op := .fa 1 (.t 45), grd := some (41, true) },
  { dst := some 47, op := .iaa 40 40 (.t 46) (.t 43), grd := some (41, true) },
  { dst := some 48, op := .iaa 40 1 (.t 47) (.t 44), grd := some (41, true) },
  { dst := some 49, op := .ld none (.t 48), grd := some (41, true) },
  { dst := some 50, op := .pick (.t 41) (.t 49) (.c (.b false)) }])
 (.cond (.t 50) .skip
 (.ext 4)))
 (.seq (.blk 5 (.reg true [{ dst := some 53, op := .mv (.t 3) },
  { dst := some 54, op := .mv (.t 5) },
  { dst := some 55, op := .mv (.t 6) },
  { dst := some 56, op := .mv (.t 3) },
  { dst := some 57, op := .mv (.t 5) },
  { dst := some 58, op := .mv (.t 6) },
  { dst := some 59, op := .nilck (.t 56) },
  { dst := some 60, op := .fa 1 (.t 59) },
  { dst := some 61, op := .iaa 40 40 (.t 60) (.t 57) },
  { dst := some 62, op := .iaa 40 1 (.t 61) (.t 58) },
  { dst := some 63, op := .ld none (.t 62), pre := [] },
  { dst := some 64, op := .mv (.t 63) },
  { dst := some 65, op := .mv (.t 3), grd := some (64, false) },
  { dst := some 66, op := .mv (.t 4), grd := some (64, false) },
  { dst := some 67, op := .mv (.t 6), grd := some (64, false) },
  { dst := some 68, op := .nilck (.t 65), grd := some (64, false) },
  { dst := some 69, op := .fa 1 (.t 68), grd := some (64, false) },
  { dst := some 70, op := .iaa 40 40 (.t 69) (.t 66), grd := some (64, false) },
  { dst := some 71, op := .iaa 40 1 (.t 70) (.t 67), grd := some (64, false) },
  { dst := some 72, op := .ld none (.t 71), grd := some (64, false), pre := [] },
  { dst := some 73, op := .pick (.t 64) (.c (.b true)) (.t 72) },
  { dst := some 74, op := .nilck (.t 53) },
  { dst := some 75, op := .fa 1 (.t 74) },
  { dst := some 76, op := .iaa 40 40 (.t 75) (.t 54) },
  { dst := some 77, op := .iaa 40 1 (.t 76) (.t 55) },
  { dst := none, op := .st 1 (.t 77) (.t 73), pre := [] }]))
 (.reg false [{ dst := some 51, op := .mv (.t 6) },
  { dst := some 52, op := .bin .add (.t 51) (.c (.i .i64 1)) },
  { dst := some 6, op := .mv (.t 52) }])))))))
 (.reg false [{ dst := some 33, op := .mv (.t 5) },
  { dst := some 34, op := .bin .add (.t 33) (.c (.i .i64 1)) },
  { dst := some 5, op := .mv (.t 34) }])))))))
 (.reg false [{ dst := some 25, op := .mv (.t 4) },
  { dst := some 26, op := .bin .add (.t 25) (.c (.i .i64 1)) },
  { dst := some 4, op := .mv (.t 26) }]))))))
 (.seq (.reg false [{ dst := some 78, op := .mv (.t 3) },
  { dst := some 2, op := .mv (.t 78) }])
 .ret))))) }
def A_xref01_R_Maybe : AFun := { res := [.t 2], body := (.seq (.reg false [{ dst := some 2, op := .mv (.c (.nilp)) }])
 (.seq (.reg false [{ dst := some 5, op := .mv (.t 0) },
  { dst := some 6, op := .nilck (.t 5) },
  { dst := some 7, op := .fa 0 (.t 6) },
  { dst := some 8, op := .ld none (.t 7) },
  { dst := some 9, op := .call .thaw (.c (.fn 27 [] [])) [.t 8, .c (.sl [] 0 .rig)] },
  { dst := some 3, op := .mv (.t 9) }])
 (.seq (.reg false [{ dst := some 10, op := .mv (.t 3) },
  { dst := some 11, op := .mv (.t 0) },
  { dst := some 12, op := .nilck (.t 11) },
  { dst := some 13, op := .fa 1 (.t 12) },
  { dst := some 14, op := .ld (some 1600) (.t 13) },
  { dst := some 15, op := .nilck (.t 10) },
  { dst := some 16, op := .fa 1 (.t 15) },
  { dst := none, op := .st 1600 (.t 16) (.t 14) }])
 (.seq (.seq (.reg false [{ dst := some 4, op := .mv (.c (.i .i64 0)) }])
 (.blk 0 (.loop (.seq (.seq (.reg false [{ dst := some 17, op := .mv (.t 4) },
  { dst := some 18, op := .mv (.t 3) },
  { dst := some 19, op := .nilck (.t 18) },
  { dst := some 20, op := .fa 0 (.t 19) },
  { dst := some 21, op := .ld none (.t 20) },
  { dst := some 22, op := .bin .lss (.t 17) (.t 21) }])
 (.cond (.t 22) .skip
 (.ext 0)))
 (.seq (.blk 1 (.reg false [{ dst := some 25, op := .mv (.t 3) },
  { dst := some 26, op := .mv (.t 4) },
  { dst := some 27, op := .mv (.t 4) },
  { dst := some 28, op := .nilck (.t 25) },
  { dst := some 29, op := .fa 1 (.t 28) },
  { dst := some 30, op := .iaa 40 40 (.t 29) (.t 26) },
  { dst := some 31, op := .iaa 40 1 (.t 30) (.t 27) },
  { dst := none, op := .st 1 (.t 31) (.c (.b true)) }]))
 (.reg false [{ dst := some 23, op := .mv (.t 4) },
  { dst := some 24, op := .bin .add (.t 23) (.c (.i .i64 1)) },
  { dst := some 4, op := .mv (.t 24) }]))))))
 (.seq (.reg false [{ dst := some 32, op := .mv (.t 3) },
  { dst := some 2, op := .mv (.t 32) }])
 .ret))))) }
def A_xref01_R_In : AFun := { res := [.t 4], body := (.seq (.reg false [{ dst := some 4, op := .mv (.c (.b false)) }])
 (.seq (.reg false [{ dst := some 5, op := .mv (.t 0) },
  { dst := some 6, op := .mv (.t 1) },
  { dst := some 7, op := .call .pure (.c (.fn 31 [] [])) [.t 5, .t 6] },
  { dst := some 8, op := .call .pure (.c (.fn 56 [] [])) [.t 7] },
  { dst := some 9, op := .len (.t 8) },
  { dst := some 10, op := .bin .eql (.t 9) (.c (.i .i64 0)) },
  { dst := some 4, op := .mv (.t 10) }])
 .ret)) }
def A_xref01_R_Loops : AFun := { res := [.t 2], body := (.seq (.reg false [{ dst := some 2, op := .mv (.c (.b false)) }])
 (.seq (.reg false [{ dst := some 5, op := .mv (.t 0) },
  { dst := some 6, op := .call .pure (.c (.fn 34 [] [])) [.t 5] },
  { dst := some 3, op := .mv (.t 6) }])
 (.seq (.seq (.reg false [{ dst := some 4, op := .mv (.c (.i .i64 0)) }])
 (.blk 0 (.loop (.seq (.seq (.reg false [{ dst := some 7, op := .mv (.t 4) },
  { dst := some 8, op := .mv (.t 3) },
  { dst := some 9, op := .nilck (.t 8) },
  { dst := some 10, op := .fa 0 (.t 9) },
  { dst := some 11, op := .ld none (.t 10) },
  { dst := some 12, op := .bin .lss (.t 7) (.t 11) }])
 (.cond (.t 12) .skip
 (.ext 0)))
 (.seq (.blk 1 (.seq (.reg false [{ dst := some 15, op := .mv (.t 3) },
  { dst := some 16, op := .mv (.t 4) },
  { dst := some 17, op := .mv (.t 4) },
  { dst := some 18, op := .nilck (.t 15) },
  { dst := some 19, op := .fa 1 (.t 18) },
  { dst := some 20, op := .iaa 40 40 (.t 19) (.t 16) },
  { dst := some 21, op := .iaa 40 1 (.t 20) (.t 17) },
  { dst := some 22, op := .ld none (.t 21) }])
 (.cond (.t 22) (.seq (.reg false [{ dst := some 2, op := .mv (.c (.b true)) }])
 .ret)
 .skip)))
 (.reg false [{ dst := some 13, op := .mv (.t 4) },
  { dst := some 14, op := .bin .add (.t 13) (.c (.i .i64 1)) },
  { dst := some 4, op := .mv (.t 14) }]))))))
 (.seq (.reg false [{ dst := some 2, op := .mv (.c (.b false)) }])
 .ret)))) }
def A_xref01_R_Has : AFun := { res := [.t 6], body := (.seq (.reg false [{ dst := some 6, op := .mv (.c (.b false)) }])
 (.seq (.reg false [{ dst := some 7, op := .mv (.t 1) },
  { dst := some 8, op := .bin .geq (.t 7) (.c (.i .i64 0)) },
  { dst := some 9, op := .mv (.t 8) },
  { dst := some 10, op := .mv (.t 2), grd := some (9, true) },
  { dst := some 11, op := .bin .geq (.t 10) (.c (.i .i64 0)), grd := some (9, true) },
  { dst := some 12, op := .pick (.t 9) (.t 11) (.c (.b false)) },
  { dst := some 13, op := .mv (.t 12) },
  { dst := some 14, op := .mv (.t 1), grd := some (13, true) },
  { dst := some 15, op := .mv (.t 0), grd := some (13, true) },
  { dst := some 16, op := .nilck (.t 15), grd := some (13, true) },
  { dst := some 17, op := .fa 0 (.t 16), grd := some (13, true) },
  { dst := some 18, op := .ld none (.t 17), grd := some (13, true) },
  { dst := some 19, op := .bin .lss (.t 14) (.t 18), grd := some (13, true) },
  { dst := some 20, op := .pick (.t 13) (.t 19) (.c (.b false)) },
  { dst := some 21, op := .mv (.t 20) },
  { dst := some 22, op := .mv (.t 2), grd := some (21, true) },
  { dst := some 23, op := .mv (.t 0), grd := some (21, true) },
  { dst := some 24, op := .nilck (.t 23), grd := some (21, true) },
  { dst := some 25, op := .fa 0 (.t 24), grd := some (21, true) },
  { dst := some 26, op := .ld none (.t 25), grd := some (21, true) },
  { dst := some 27, op := .bin .lss (.t 22) (.t 26), grd := some (21, true) },
  { dst := some 28, op := .pick (.t 21) (.t 27) (.c (.b false)) },
  { dst := some 29, op := .mv (.t 28) },
  { dst := some 30, op := .mv (.t 0), grd := some (29, true) },
  { dst := some 31, op := .mv (.t 1), grd := some (29, true) },
  { dst := some 32, op := .mv (.t 2), grd := some (29, true) },
  { dst := some 33, op := .nilck (.t 30), grd := some (29, true) },
  { dst := some 34, op := .fa 1 (.t 33), grd := some (29, true) },
  { dst := some 35, op := .iaa 40 40 (.t 34) (.t 31), grd := some (29, true) },
  { dst := some 36, op := .iaa 40 1 (.t 35) (.t 32), grd := some (29, true) },
  { dst := some 37, op := .ld none (.t 36), grd := some (29, true) },
  { dst := some 38, op := .pick (.t 29) (.t 37) (.c (.b false)) },
  { dst := some 6, op := .mv (.t 38) }])
 .ret)) }
def A_xref01_SamePairs : AFun := { res := [.t 4], body := (.seq (.reg false [{ dst := some 4, op := .mv (.c (.b false)) }])
 (.seq (.seq (.reg false [{ dst := some 6, op := .mv (.t 0) },
  { dst := some 7, op := .len (.t 6) },
  { dst := some 8, op := .mv (.t 1) },
  { dst := some 9, op := .len (.t 8) },
  { dst := some 10, op := .bin .neq (.t 7) (.t 9) }])
 (.cond (.t 10) (.seq (.reg false [{ dst := some 4, op := .mv (.c (.b false)) }])
 .ret)
 .skip))
 (.seq (.seq (.reg false [{ dst := some 5, op := .mv (.c (.i .i64 0)) }])
 (.blk 0 (.loop (.seq (.seq (.reg false [{ dst := some 11, op := .mv (.t 5) },
  { dst := some 12, op := .mv (.t 0) },
  { dst := some 13, op := .len (.t 12) },
  { dst := some 14, op := .bin .lss (.t 11) (.t 13) }])
 (.cond (.t 14) .skip
 (.ext 0)))
 (.seq (.blk 1 (.seq (.reg true [{ dst := some 17, op := .mv (.t 0) },
  { dst := some 18, op := .mv (.t 5) },
  { dst := some 19, op := .ia 2 (.t 17) (.t 18) },
  { dst := some 20, op := .fa 0 (.t 19) },
  { dst := some 21, op := .ld none (.t 20), pre := [] },
  { dst := some 22, op := .mv (.t 1) },
  { dst := some 23, op := .mv (.t 5) },
  { dst := some 24, op := .ia 2 (.t 22) (.t 23) },
  { dst := some 25, op := .fa 0 (.t 24) },
  { dst := some 26, op := .ld none (.t 25), pre := [] },
  { dst := some 27, op := .bin .neq (.t 21) (.t 26) },
  { dst := some 28, op := .mv (.t 27) },
  { dst := some 29, op := .mv (.t 0), grd := some (28, false) },
  { dst := some 30, op := .mv (.t 5), grd := some (28, false) },
  { dst := some 31, op := .ia 2 (.t 29) (.t 30), grd := some (28, false) },
  { dst := some 32, op := .fa 1 (.t 31), grd := some (28, false) },
  { dst := some 33, op := .ld none (.t 32), grd := some (28, false), pre := [] },
  { dst := some 34, op := .mv (.t 1), grd := some (28, false) },
  { dst := some 35, op := .mv (.t 5), grd := some (28, false) },
  { dst := some 36, op := .ia 2 (.t 34) (.t 35), grd := some (28, false) },
  { dst := some 37, op := .fa 1 (.t 36), grd := some (28, false) },
  { dst := some 38, op := .ld none (.t 37), grd := some (28, false), pre := [] },
  { dst := some 39, op := .bin .neq (.t 33) (.t 38), grd := some (28, false) },
  { dst := some 40, op := .pick (.t 28) (.c (.b true)) (.t 39) }])
 (.cond (.t 40) (.seq (.reg false [{ dst := some 4, op := .mv (.c (.b false)) }])
 .ret)
 .skip)))
 (.reg false [{ dst := some 15, op := .mv (.t 5) },
  { dst := some 16, op := .bin .add (.t 15) (.c (.i .i64 1)) },
  { dst := some 5, op := .mv (.t 16) }]))))))
 (.seq (.reg false [{ dst := some 4, op := .mv (.c (.b true)) }])
 .ret)))) }
def A_xref01_R_Pairs : AFun := { res := [.t 2], body := (.seq (.reg false [{ dst := some 2, op := .mv (.c (.sl [] 0 .rig)) }])
 (.seq (.reg false [{ dst := some 3, op := .mv (.c (.sl [] 0 .rig)) }])
 (.seq (.seq (.reg false [{ dst := some 4, op := .mv (.c (.i .i64 0)) }])
 (.blk 0 (.loop (.seq (.seq (.reg false [{ dst := some 6, op := .mv (.t 4) },
  { dst := some 7, op := .mv (.t 0) },
  { dst := some 8, op := .nilck (.t 7) },
  { dst := some 9, op := .fa 0 (.t 8) },
  { dst := some 10, op := .ld none (.t 9) },
  { dst := some 11, op := .bin .lss (.t 6) (.t 10) }])
 (.cond (.t 11) .skip
 (.ext 0)))
 (.seq (.blk 1 (.seq (.reg false [{ dst := some 5, op := .mv (.c (.i .i64 0)) }])
 (.blk 2 (.loop (.seq (.seq (.reg false [{ dst := some 14, op := .mv (.t 5) },
  { dst := some 15, op := .mv (.t 0) },
  { dst := some 16, op := .nilck (.t 15) },
  { dst := some 17, op := .fa 0 (.t 16) },
  { dst := some 18, op := .ld none (.t 17) },
  { dst := some 19, op := .bin .lss (.t 14) (.t 18) }])
 (.cond (.t 19) .skip
 (.ext 2)))
 (.seq (.blk 3 (.seq (.reg false [{ dst := some 22, op := .mv (.t 0) },
  { dst := some 23, op := .mv (.t 4) },
  { dst := some 24, op := .mv (.t 5) },
  { dst := some 25, op := .nilck (.t 22) },
  { dst := some 26, op := .fa 1 (.t 25) },
  { dst := some 27, op := .iaa 40 40 (.t 26) (.t 23) },
  { dst := some 28, op := .iaa 40 1 (.t 27) (.t 24) },
  { dst := some 29, op := .ld none (.t 28) }])
 (.cond (.t 29) (.reg false [{ dst := some 30, op := .mv (.t 3) },
  { dst := some 31, op := .mv (.t 4) },
  { dst := some 32, op := .mv (.t 5) },
  { dst := some 33, op := .build ([.i .i64 0, .i .i64 0]) [(0, 1, .t 31), (1, 1, .t 32)] },
  { dst := some 34, op := .bsl true 1 ([.i .i64 0, .i .i64 0]) [(0, 2, .t 33)] },
  { dst := some 35, op := .app 2 16 (.t 30) (.t 34) },
  { dst := some 3, op := .mv (.t 35) }])
 .skip)))
 (.reg false [{ dst := some 20, op := .mv (.t 5) },
  { dst := some 21, op := .bin .add (.t 20) (.c (.i .i64 1)) },
  { dst := some 5, op := .mv (.t 21) }])))))))
 (.reg false [{ dst := some 12, op := .mv (.t 4) },
  { dst := some 13, op := .bin .add (.t 12) (.c (.i .i64 1)) },
  { dst := some 4, op := .mv (.t 13) }]))))))
 (.seq (.reg false [{ dst := some 36, op := .mv (.t 3) },
  { dst := some 2, op := .mv (.t 36) }])
 .ret)))) }
structure Pk_xref01 (F : Funs) : Prop where
  xref01_New : F 27 = some A_xref01_New
  xref01_R_Or : F 29 = some A_xref01_R_Or
  xref01_R_And : F 30 = some A_xref01_R_And
  xref01_R_Less : F 31 = some A_xref01_R_Less
  xref01_R_Then : F 32 = some A_xref01_R_Then
  xref01_R_Back : F 33 = some A_xref01_R_Back
  xref01_R_Plus : F 34 = some A_xref01_R_Plus
  xref01_R_Maybe : F 35 = some A_xref01_R_Maybe
  xref01_R_In : F 36 = some A_xref01_R_In
  xref01_R_Loops : F 37 = some A_xref01_R_Loops
  xref01_R_Has : F 38 = some A_xref01_R_Has
  xref01_SamePairs : F 55 = some A_xref01_SamePairs
  xref01_R_Pairs : F 56 = some A_xref01_R_Pairs
end Go.Ab
