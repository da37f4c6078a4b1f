/- The abstract machine, its adequacy, what functions compute; lemmas, no claim of its own. -/
import Derived.Test.YtkiecemdbkjccaaGreatGA
import Derived.Test.YtkiecemdbkjccaaGreatGB
import Derived.Test.YtkiecemdbkjccaaGreatGC
section
/- Resolved functions of package xref01, written by a program (res.py). -/
namespace Go.Ab
def A_xref01_New : AFun := { res := [.t 4], body := (.seq (.reg false [{ dst := some 4, op := .mv (.c (.nilp)) }])
 (.seq (.reg false [{ dst := some 9, op := .mv (.t 0) },
  { dst := some 10, op := .mx (.t 9) (.c (.i .i64 0)) },
  { dst := some 11, op := .mn (.t 10) (.c (.i .i64 40)) },
  { dst := some 12, op := .build ([.i .i64 0] ++ List.replicate 1600 (.b false)) [(0, 1, .t 11)] },
  { dst := some 13, op := .box (.t 12) },
  { dst := some 5, op := .mv (.t 13) }])
 (.seq (.seq (.reg false [{ dst := some 6, op := .mv (.c (.i .i64 0)) }])
 (.blk 0 (.loop (.seq (.seq (.reg false [{ dst := some 14, op := .mv (.t 6) },
  { dst := some 15, op := .mv (.t 1) },
  { dst := some 16, op := .len (.t 15) },
  { dst := some 17, op := .bin .lss (.t 14) (.t 16) }])
 (.cond (.t 17) .skip
 (.ext 0)))
 (.seq (.blk 1 (.seq (.reg true [{ dst := some 20, op := .mv (.t 1) },
  { dst := some 21, op := .mv (.t 6) },
  { dst := some 22, op := .ia 2 (.t 20) (.t 21) },
  { dst := some 23, op := .fa 0 (.t 22) },
  { dst := some 24, op := .ld none (.t 23), pre := [] },
  { dst := some 25, op := .mv (.t 1) },
  { dst := some 26, op := .mv (.t 6) },
  { dst := some 27, op := .ia 2 (.t 25) (.t 26) },
  { dst := some 28, op := .fa 1 (.t 27) },
  { dst := some 29, op := .ld none (.t 28), pre := [] },
  { dst := some 7, op := .mv (.t 24) },
  { dst := some 8, op := .mv (.t 29) }])
 (.seq (.reg false [{ dst := some 30, op := .mv (.t 7) },
  { dst := some 31, op := .bin .geq (.t 30) (.c (.i .i64 0)) },
  { dst := some 32, op := .mv (.t 31) },
  { dst := some 33, op := .mv (.t 8), grd := some (32, true) },
  { dst := some 34, op := .bin .geq (.t 33) (.c (.i .i64 0)), grd := some (32, true) },
  { dst := some 35, op := .pick (.t 32) (.t 34) (.c (.b false)) },
  { dst := some 36, op := .mv (.t 35) },
  { dst := some 37, op := .mv (.t 7), grd := some (36, true) },
  { dst := some 38, op := .mv (.t 5), grd := some (36, true) },
  { dst := some 39, op := .nilck (.t 38), grd := some (36, true) },
  { dst := some 40, op := .fa 0 (.t 39), grd := some (36, true) },
  { dst := some 41, op := .ld none (.t 40), grd := some (36, true) },
  { dst := some 42, op := .bin .lss (.t 37) (.t 41), grd := some (36, true) },
  { dst := some 43, op := .pick (.t 36) (.t 42) (.c (.b false)) },
  { dst := some 44, op := .mv (.t 43) },
  { dst := some 45, op := .mv (.t 8), grd := some (44, true) },
  { dst := some 46, op := .mv (.t 5), grd := some (44, true) },
  { dst := some 47, op := .nilck (.t 46), grd := some (44, true) },
  { dst := some 48, op := .fa 0 (.t 47), grd := some (44, true) },
  { dst := some 49, op := .ld none (.t 48), grd := some (44, true) },
  { dst := some 50, op := .bin .lss (.t 45) (.t 49), grd := some (44, true) },
  { dst := some 51, op := .pick (.t 44) (.t 50) (.c (.b false)) }])
 (.cond (.t 51) (.reg false [{ dst := some 52, op := .mv (.t 5) },
  { dst := some 53, op := .mv (.t 7) },
  { dst := some 54, op := .mv (.t 8) },
  { dst := some 55, op := .nilck (.t 52) },
  { dst := some 56, op := .fa 1 (.t 55) },
  { dst := some 57, op := .iaa 40 40 (.t 56) (.t 53) },
  { dst := some 58, op := .iaa 40 1 (.t 57) (.t 54) },
  { dst := none, op := .st 1 (.t 58) (.c (.b true)) }])
 .skip))))
 (.reg false [{ dst := some 18, op := .mv (.t 6) },
  { dst := some 19, op := .bin .add (.t 18) (.c (.i .i64 1)) },
  { dst := some 6, op := .mv (.t 19) }]))))))
 (.seq (.reg false [{ dst := some 59, op := .mv (.t 5) },
  { dst := some 4, op := .mv (.t 59) }])
 .ret)))) }
def A_xref01_R_Or : AFun := { res := [.t 4], body := (.seq (.reg false [{ dst := some 4, op := .mv (.c (.nilp)) }])
 (.seq (.reg true [{ dst := some 8, op := .mv (.t 0) },
  { dst := some 9, op := .nilck (.t 8) },
  { dst := some 10, op := .fa 0 (.t 9) },
  { dst := some 11, op := .ld none (.t 10), pre := [] },
  { dst := some 12, op := .mv (.t 1) },
  { dst := some 13, op := .nilck (.t 12) },
  { dst := some 14, op := .fa 0 (.t 13) },
  { dst := some 15, op := .ld none (.t 14), pre := [] },
  { dst := some 16, op := .mx (.t 11) (.t 15) },
  { dst := some 17, op := .call .thaw (.c (.fn 27 [] [])) [.t 16, .c (.sl [] 0 .rig)], pre := [] },
  { dst := some 5, op := .mv (.t 17) }])
 (.seq (.seq (.reg false [{ dst := some 6, op := .mv (.c (.i .i64 0)) }])
 (.blk 0 (.loop (.seq (.seq (.reg false [{ dst := some 18, op := .mv (.t 6) },
  { dst := some 19, op := .mv (.t 5) },
  { dst := some 20, op := .nilck (.t 19) },
  { dst := some 21, op := .fa 0 (.t 20) },
  { dst := some 22, op := .ld none (.t 21) },
  { dst := some 23, op := .bin .lss (.t 18) (.t 22) }])
 (.cond (.t 23) .skip
 (.ext 0)))
 (.seq (.blk 1 (.seq (.reg false [{ dst := some 7, op := .mv (.c (.i .i64 0)) }])
 (.blk 2 (.loop (.seq (.seq (.reg false [{ dst := some 26, op := .mv (.t 7) },
  { dst := some 27, op := .mv (.t 5) },
  { dst := some 28, op := .nilck (.t 27) },
  { dst := some 29, op := .fa 0 (.t 28) },
  { dst := some 30, op := .ld none (.t 29) },
  { dst := some 31, op := .bin .lss (.t 26) (.t 30) }])
 (.cond (.t 31) .skip
 (.ext 2)))
 (.seq (.blk 3 (.reg true [{ dst := some 34, op := .mv (.t 5) },
  { dst := some 35, op := .mv (.t 6) },
  { dst := some 36, op := .mv (.t 7) },
  { dst := some 37, op := .mv (.t 0) },
  { dst := some 38, op := .mv (.t 6) },
  { dst := some 39, op := .mv (.t 7) },
  { dst := some 40, op := .nilck (.t 37) },
  { dst := some 41, op := .fa 1 (.t 40) },
  { dst := some 42, op := .iaa 40 40 (.t 41) (.t 38) },
  { dst := some 43, op := .iaa 40 1 (.t 42) (.t 39) },
  { dst := some 44, op := .ld none (.t 43), pre := [] },
  { dst := some 45, op := .mv (.t 44) },
  { dst := some 46, op := .mv (.t 1), grd := some (45, false) },
  { dst := some 47, op := .mv (.t 6), grd := some (45, false) },
  { dst := some 48, op := .mv (.t 7), grd := some (45, false) },
  { dst := some 49, op := .nilck (.t 46), grd := some (45, false) },
  { dst := some 50, op := .fa 1 (.t 49), grd := some (45, false) },
  { dst := some 51, op := .iaa 40 40 (.t 50) (.t 47), grd := some (45, false) },
  { dst := some 52, op := .iaa 40 1 (.t 51) (.t 48), grd := some (45, false) },
  { dst := some 53, op := .ld none (.t 52), grd := some (45, false), pre := [] },
  { dst := some 54, op := .pick (.t 45) (.c (.b true)) (.t 53) },
  { dst := some 55, op := .nilck (.t 34) },
  { dst := some 56, op := .fa 1 (.t 55) },
  { dst := some 57, op := .iaa 40 40 (.t 56) (.t 35) },
  { dst := some 58, op := .iaa 40 1 (.t 57) (.t 36) },
  { dst := none, op := .st 1 (.t 58) (.t 54), pre := [] }]))
 (.reg false [{ dst := some 32, op := .mv (.t 7) },
  { dst := some 33, op := .bin .add (.t 32) (.c (.i .i64 1)) },
  { dst := some 7, op := .mv (.t 33) }])))))))
 (.reg false [{ dst := some 24, op := .mv (.t 6) },
  { dst := some 25, op := .bin .add (.t 24) (.c (.i .i64 1)) },
  { dst := some 6, op := .mv (.t 25) }]))))))
 (.seq (.reg false [{ dst := some 59, op := .mv (.t 5) },
  { dst := some 4, op := .mv (.t 59) }])
 .ret)))) }
def A_xref01_R_And : AFun := { res := [.t 4], body := (.seq (.reg false [{ dst := some 4, op := .mv (.c (.nilp)) }])
 (.seq (.reg true [{ dst := some 8, op := .mv (.t 0) },
  { dst := some 9, op := .nilck (.t 8) },
  { dst := some 10, op := .fa 0 (.t 9) },
  { dst := some 11, op := .ld none (.t 10), pre := [] },
  { dst := some 12, op := .mv (.t 1) },
  { dst := some 13, op := .nilck (.t 12) },
  { dst := some 14, op := .fa 0 (.t 13) },
  { dst := some 15, op := .ld none (.t 14), pre := [] },
  { dst := some 16, op := .mx (.t 11) (.t 15) },
  { dst := some 17, op := .call .thaw (.c (.fn 27 [] [])) [.t 16, .c (.sl [] 0 .rig)], pre := [] },
  { dst := some 5, op := .mv (.t 17) }])
 (.seq (.seq (.reg false [{ dst := some 6, op := .mv (.c (.i .i64 0)) }])
 (.blk 0 (.loop (.seq (.seq (.reg false [{ dst := some 18, op := .mv (.t 6) },
  { dst := some 19, op := .mv (.t 5) },
  { dst := some 20, op := .nilck (.t 19) },
  { dst := some 21, op := .fa 0 (.t 20) },
  { dst := some 22, op := .ld none (.t 21) },
  { dst := some 23, op := .bin .lss (.t 18) (.t 22) }])
 (.cond (.t 23) .skip
 (.ext 0)))
 (.seq (.blk 1 (.seq (.reg false [{ dst := some 7, op := .mv (.c (.i .i64 0)) }])
 (.blk 2 (.loop (.seq (.seq (.reg false [{ dst := some 26, op := .mv (.t 7) },
  { dst := some 27, op := .mv (.t 5) },
  { dst := some 28, op := .nilck (.t 27) },
  { dst := some 29, op := .fa 0 (.t 28) },
  { dst := some 30, op := .ld none (.t 29) },
  { dst := some 31, op := .bin .lss (.t 26) (.t 30) }])
 (.cond (.t 31) .skip
 (.ext 2)))
 (.seq (.blk 3 (.reg true [{ dst := some 34, op := .mv (.t 5) },
  { dst := some 35, op := .mv (.t 6) },
  { dst := some 36, op := .mv (.t 7) },
  { dst := some 37, op := .mv (.t 0) },
  { dst := some 38, op := .mv (.t 6) },
  { dst := some 39, op := .mv (.t 7) },
  { dst := some 40, op := .nilck (.t 37) },
  { dst := some 41, op := .fa 1 (.t 40) },
  { dst := some 42, op := .iaa 40 40 (.t 41) (.t 38) },
  { dst := some 43, op := .iaa 40 1 (.t 42) (.t 39) },
  { dst := some 44, op := .ld none (.t 43), pre := [] },
  { dst := some 45, op := .mv (.t 44) },
  { dst := some 46, op := .mv (.t 1), grd := some (45, true) },
  { dst := some 47, op := .mv (.t 6), grd := some (45, true) },
  { dst := some 48, op := .mv (.t 7), grd := some (45, true) },
  { dst := some 49, op := .nilck (.t 46), grd := some (45, true) },
  { dst := some 50, op := .fa 1 (.t 49), grd := some (45, true) },
  { dst := some 51, op := .iaa 40 40 (.t 50) (.t 47), grd := some (45, true) },
  { dst := some 52, op := .iaa 40 1 (.t 51) (.t 48), grd := some (45, true) },
  { dst := some 53, op := .ld none (.t 52), grd := some (45, true), pre := [] },
  { dst := some 54, op := .pick (.t 45) (.t 53) (.c (.b false)) },
  { dst := some 55, op := .nilck (.t 34) },
  { dst := some 56, op := .fa 1 (.t 55) },
  { dst := some 57, op := .iaa 40 40 (.t 56) (.t 35) },
  { dst := some 58, op := .iaa 40 1 (.t 57) (.t 36) },
  { dst := none, op := .st 1 (.t 58) (.t 54), pre := [] }]))
 (.reg false [{ dst := some 32, op := .mv (.t 7) },
  { dst := some 33, op := .bin .add (.t 32) (.c (.i .i64 1)) },
  { dst := some 7, op := .mv (.t 33) }])))))))
 (.reg false [{ dst := some 24, op := .mv (.t 6) },
  { dst := some 25, op := .bin .add (.t 24) (.c (.i .i64 1)) },
  { dst := some 6, op := .mv (.t 25) }]))))))
 (.seq (.reg false [{ dst := some 59, op := .mv (.t 5) },
  { dst := some 4, op := .mv (.t 59) }])
 .ret)))) }
def A_xref01_R_Less : AFun := { res := [.t 4], body := (.seq (.reg false [{ dst := some 4, op := .mv (.c (.nilp)) }])
 (.seq (.reg true [{ dst := some 8, op := .mv (.t 0) },
  { dst := some 9, op := .nilck (.t 8) },
  { dst := some 10, op := .fa 0 (.t 9) },
  { dst := some 11, op := .ld none (.t 10), pre := [] },
  { dst := some 12, op := .mv (.t 1) },
  { dst := some 13, op := .nilck (.t 12) },
  { dst := some 14, op := .fa 0 (.t 13) },
  { dst := some 15, op := .ld none (.t 14), pre := [] },
  { dst := some 16, op := .mx (.t 11) (.t 15) },
  { dst := some 17, op := .call .thaw (.c (.fn 27 [] [])) [.t 16, .c (.sl [] 0 .rig)], pre := [] },
  { dst := some 5, op := .mv (.t 17) }])
 (.seq (.seq (.reg false [{ dst := some 6, op := .mv (.c (.i .i64 0)) }])
 (.blk 0 (.loop (.seq (.seq (.reg false [{ dst := some 18, op := .mv (.t 6) },
  { dst := some 19, op := .mv (.t 5) },
  { dst := some 20, op := .nilck (.t 19) },
  { dst := some 21, op := .fa 0 (.t 20) },
  { dst := some 22, op := .ld none (.t 21) },
  { dst := some 23, op := .bin .lss (.t 18) (.t 22) }])
 (.cond (.t 23) .skip
 (.ext 0)))
 (.seq (.blk 1 (.seq (.reg false [{ dst := some 7, op := .mv (.c (.i .i64 0)) }])
 (.blk 2 (.loop (.seq (.seq (.reg false [{ dst := some 26, op := .mv (.t 7) },
  { dst := some 27, op := .mv (.t 5) },
  { dst := some 28, op := .nilck (.t 27) },
  { dst := some 29, op := .fa 0 (.t 28) },
  { dst := some 30, op := .ld none (.t 29) },
  { dst := some 31, op := .bin .lss (.t 26) (.t 30) }])
 (.cond (.t 31) .skip
 (.ext 2)))
 (.seq (.blk 3 (.reg true [{ dst := some 34, op := .mv (.t 5) },
  { dst := some 35, op := .mv (.t 6) },
  { dst := some 36, op := .mv (.t 7) },
  { dst := some 37, op := .mv (.t 0) },
  { dst := some 38, op := .mv (.t 6) },
  { dst := some 39, op := .mv (.t 7) },
  { dst := some 40, op := .nilck (.t 37) },
  { dst := some 41, op := .fa 1 (.t 40) },
  { dst := some 42, op := .iaa 40 40 (.t 41) (.t 38) },
  { dst := some 43, op := .iaa 40 1 (.t 42) (.t 39) },
  { dst := some 44, op := .ld none (.t 43), pre := [] },
  { dst := some 45, op := .mv (.t 44) },
  { dst := some 46, op := .mv (.t 1), grd := some (45, true) },
  { dst := some 47, op := .mv (.t 6), grd := some (45, true) },
  { dst := some 48, op := .mv (.t 7), grd := some (45, true) },
  { dst := some 49, op := .nilck (.t 46), grd := some (45, true) },
  { dst := some 50, op := .fa 1 (.t 49), grd := some (45, true) },
  { dst := some 51, op := .iaa 40 40 (.t 50) (.t 47), grd := some (45, true) },
  { dst := some 52, op := .iaa 40 1 (.t 51) (.t 48), grd := some (45, true) },
  { dst := some 53, op := .ld none (.t 52), grd := some (45, true), pre := [] },
  { dst := some 54, op := .un .not (.t 53), grd := some (45, true) },
  { dst := some 55, op := .pick (.t 45) (.t 54) (.c (.b false)) },
  { dst := some 56, op := .nilck (.t 34) },
  { dst := some 57, op := .fa 1 (.t 56) },
  { dst := some 58, op := .iaa 40 40 (.t 57) (.t 35) },
  { dst := some 59, op := .iaa 40 1 (.t 58) (.t 36) },
  { dst := none, op := .st 1 (.t 59) (.t 55), pre := [] }]))
 (.reg false [{ dst := some 32, op := .mv (.t 7) },
  { dst := some 33, op := .bin .add (.t 32) (.c (.i .i64 1)) },
  { dst := some 7, op := .mv (.t 33) }])))))))
 (.reg false [{ dst := some 24, op := .mv (.t 6) },
  { dst := some 25, op := .bin .add (.t 24) (.c (.i .i64 1)) },
  { dst := some 6, op := .mv (.t 25) }]))))))
 (.seq (.reg false [{ dst := some 60, op := .mv (.t 5) },
  { dst := some 4, op := .mv (.t 60) }])
 .ret)))) }
def A_xref01_R_Then : AFun := { res := [.t 4], body := (.seq (.reg false [{ dst := some 4, op := .mv (.c (.nilp)) }])
 (.seq (.reg true [{ dst := some 9, op := .mv (.t 0) },
  { dst := some 10, op := .nilck (.t 9) },
  { dst := some 11, op := .fa 0 (.t 10) },
  { dst := some 12, op := .ld none (.t 11), pre := [] },
  { dst := some 13, op := .mv (.t 1) },
  { dst := some 14, op := .nilck (.t 13) },
  { dst := some 15, op := .fa 0 (.t 14) },
  { dst := some 16, op := .ld none (.t 15), pre := [] },
  { dst := some 17, op := .mx (.t 12) (.t 16) },
  { dst := some 18, op := .call .thaw (.c (.fn 27 [] [])) [.t 17, .c (.sl [] 0 .rig)], pre := [] },
  { dst := some 5, op := .mv (.t 18) }])
 (.seq (.seq (.reg false [{ dst := some 6, op := .mv (.c (.i .i64 0)) }])
 (.blk 0 (.loop (.seq (.seq (.reg false [{ dst := some 19, op := .mv (.t 6) },
  { dst := some 20, op := .mv (.t 5) },
  { dst := some 21, op := .nilck (.t 20) },
  { dst := some 22, op := .fa 0 (.t 21) },
  { dst := some 23, op := .ld none (.t 22) },
  { dst := some 24, op := .bin .lss (.t 19) (.t 23) }])
 (.cond (.t 24) .skip
 (.ext 0)))
 (.seq (.blk 1 (.seq (.reg false [{ dst := some 7, op := .mv (.c (.i .i64 0)) }])
 (.blk 2 (.loop (.seq (.seq (.reg false [{ dst := some 27, op := .mv (.t 7) },
  { dst := some 28, op := .mv (.t 5) },
  { dst := some 29, op := .nilck (.t 28) },
  { dst := some 30, op := .fa 0 (.t 29) },
  { dst := some 31, op := .ld none (.t 30) },
  { dst := some 32, op := .bin .lss (.t 27) (.t 31) }])
 (.cond (.t 32) .skip
 (.ext 2)))
 (.seq (.blk 3 (.seq (.reg false [{ dst := some 8, op := .mv (.c (.i .i64 0)) }])
 (.blk 4 (.loop (.seq (.seq (.reg false [{ dst := some 35, op := .mv (.t 8) },
  { dst := some 36, op := .mv (.t 5) },
  { dst := some 37, op := .nilck (.t 36) },
  { dst := some 38, op := .fa 0 (.t 37) },
  { dst := some 39, op := .ld none (.t 38) },
  { dst := some 40, op := .bin .lss (.t 35) (.t 39) },
  { dst := some 41, op := .mv (.t 40) },
  { dst := some 42, op := .mv (.t 0), grd := some (41, true) },
  { dst := some 43, op := .mv (.t 6), grd := some (41, true) },
  { dst := some 44, op := .mv (.t 7), grd := some (41, true) },
  { dst := some 45, op := .nilck (.t 42), grd := some (41, true) },
  { dst := some 46, op := .fa 1 (.t 45), grd := some (41, true) },
  { dst := some 47, op := .iaa 40 40 (.t 46) (.t 43), grd := some (41, true) },
  { dst := some 48, op := .iaa 40 1 (.t 47) (.t 44), grd := some (41, true) },
  { dst := some 49, op := .ld none (.t 48), grd := some (41, true) },
  { dst := some 50, op := .pick (.t 41) (.t 49) (.c (.b false)) }])
 (.cond (.t 50) .skip
 (.ext 4)))
 (.seq (.blk 5 (.reg true [{ dst := some 53, op := .mv (.t 5) },
  { dst := some 54, op := .mv (.t 6) },
  { dst := some 55, op := .mv (.t 8) },
  { dst := some 56, op := .mv (.t 5) },
  { dst := some 57, op := .mv (.t 6) },
  { dst := some 58, op := .mv (.t 8) },
  { dst := some 59, op := .nilck (.t 56) },
  { dst := some 60, op := .fa 1 (.t 59) },
  { dst := some 61, op := .iaa 40 40 (.t 60) (.t 57) },
  { dst := some 62, op := .iaa 40 1 (.t 61) (.t 58) },
  { dst := some 63, op := .ld none (.t 62), pre := [] },
  { dst := some 64, op := .mv (.t 63) },
  { dst := some 65, op := .mv (.t 1), grd := some (64, false) },
  { dst := some 66, op := .mv (.t 7), grd := some (64, false) },
  { dst := some 67, op := .mv (.t 8), grd := some (64, false) },
  { dst := some 68, op := .nilck (.t 65), grd := some (64, false) },
  { dst := some 69, op := .fa 1 (.t 68), grd := some (64, false) },
  { dst := some 70, op := .iaa 40 40 (.t 69) (.t 66), grd := some (64, false) },
  { dst := some 71, op := .iaa 40 1 (.t 70) (.t 67), grd := some (64, false) },
  { dst := some 72, op := .ld none (.t 71), grd := some (64, false), pre := [] },
  { dst := some 73, op := .pick (.t 64) (.c (.b true)) (.t 72) },
  { dst := some 74, op := .nilck (.t 53) },
  { dst := some 75, op := .fa 1 (.t 74) },
  { dst := some 76, op := .iaa 40 40 (.t 75) (.t 54) },
  { dst := some 77, op := .iaa 40 1 (.t 76) (.t 55) },
  { dst := none, op := .st 1 (.t 77) (.t 73), pre := [] }]))
 (.reg false [{ dst := some 51, op := .mv (.t 8) },
  { dst := some 52, op := .bin .add (.t 51) (.c (.i .i64 1)) },
  { dst := some 8, op := .mv (.t 52) }])))))))
 (.reg false [{ dst := some 33, op := .mv (.t 7) },
  { dst := some 34, op := .bin .add (.t 33) (.c (.i .i64 1)) },
  { dst := some 7, op := .mv (.t 34) }])))))))
 (.reg false [{ dst := some 25, op := .mv (.t 6) },
  { dst := some 26, op := .bin .add (.t 25) (.c (.i .i64 1)) },
  { dst := some 6, op := .mv (.t 26) }]))))))
 (.seq (.reg false [{ dst := some 78, op := .mv (.t 5) },
  { dst := some 4, op := .mv (.t 78) }])
 .ret)))) }
def A_xref01_R_Back : AFun := { res := [.t 2], body := (.seq (.reg false [{ dst := some 2, op := .mv (.c (.nilp)) }])
 (.seq (.reg false [{ dst := some 6, op := .mv (.t 0) },
  { dst := some 7, op := .nilck (.t 6) },
  { dst := some 8, op := .fa 0 (.t 7) },
  { dst := some 9, op := .ld none (.t 8) },
  { dst := some 10, op := .call .thaw (.c (.fn 27 [] [])) [.t 9, .c (.sl [] 0 .rig)] },
  { dst := some 3, op := .mv (.t 10) }])
 (.seq (.seq (.reg false [{ dst := some 4, op := .mv (.c (.i .i64 0)) }])
 (.blk 0 (.loop (.seq (.seq (.reg false [{ dst := some 11, op := .mv (.t 4) },
  { dst := some 12, op := .mv (.t 3) },
  { dst := some 13, op := .nilck (.t 12) },
  { dst := some 14, op := .fa 0 (.t 13) },
  { dst := some 15, op := .ld none (.t 14) },
  { dst := some 16, op := .bin .lss (.t 11) (.t 15) }])
 (.cond (.t 16) .skip
 (.ext 0)))
 (.seq (.blk 1 (.seq (.reg false [{ dst := some 5, op := .mv (.c (.i .i64 0)) }])
 (.blk 2 (.loop (.seq (.seq (.reg false [{ dst := some 19, op := .mv (.t 5) },
  { dst := some 20, op := .mv (.t 3) },
  { dst := some 21, op := .nilck (.t 20) },
  { dst := some 22, op := .fa 0 (.t 21) },
  { dst := some 23, op := .ld none (.t 22) },
  { dst := some 24, op := .bin .lss (.t 19) (.t 23) }])
 (.cond (.t 24) .skip
 (.ext 2)))
 (.seq (.blk 3 (.reg true [{ dst := some 27, op := .mv (.t 3) },
  { dst := some 28, op := .mv (.t 5) },
  { dst := some 29, op := .mv (.t 4) },
  { dst := some 30, op := .mv (.t 0) },
  { dst := some 31, op := .mv (.t 4) },
  { dst := some 32, op := .mv (.t 5) },
  { dst := some 33, op := .nilck (.t 30) },
  { dst := some 34, op := .fa 1 (.t 33) },
  { dst := some 35, op := .iaa 40 40 (.t 34) (.t 31) },
  { dst := some 36, op := .iaa 40 1 (.t 35) (.t 32) },
  { dst := some 37, op := .ld none (.t 36), pre := [] },
  { dst := some 38, op := .nilck (.t 27) },
  { dst := some 39, op := .fa 1 (.t 38) },
  { dst := some 40, op := .iaa 40 40 (.t 39) (.t 28) },
  { dst := some 41, op := .iaa 40 1 (.t 40) (.t 29) },
  { dst := none, op := .st 1 (.t 41) (.t 37), pre := [] }]))
 (.reg false [{ dst := some 25, op := .mv (.t 5) },
  { dst := some 26, op := .bin .add (.t 25) (.c (.i .i64 1)) },
  { dst := some 5, op := .mv (.t 26) }])))))))
 (.reg false [{ dst := some 17, op := .mv (.t 4) },
  { dst := some 18, op := .bin .add (.t 17) (.c (.i .i64 1)) },
  { dst := some 4, op := .mv (.t 18) }]))))))
 (.seq (.reg false [{ dst := some 42, op := .mv (.t 3) },
  { dst := some 2, op := .mv (.t 42) }])
 .ret)))) }
def A_xref01_R_Plus : AFun := { res := [.t 2], body := (.seq (.reg false [{ dst := some 2, op := .mv (.c (.nilp)) }])
 (.seq (.reg false [{ dst := some 7, op := .mv (.t 0) },
  { dst := some 8, op := .nilck (.t 7) },
  { dst := some 9, op := .fa 0 (.t 8) },
  { dst := some 10, op := .ld none (.t 9) },
  { dst := some 11, op := .call .thaw (.c (.fn 27 [] [])) [.t 10, .c (.sl [] 0 .rig)] },
  { dst := some 3, op := .mv (.t 11) }])
 (.seq (.reg false [{ dst := some 12, op := .mv (.t 3) },
  { dst := some 13, op := .mv (.t 0) },
  { dst := some 14, op := .nilck (.t 13) },
  { dst := some 15, op := .fa 1 (.t 14) },
  { dst := some 16, op := .ld (some 1600) (.t 15) },
  { dst := some 17, op := .nilck (.t 12) },
  { dst := some 18, op := .fa 1 (.t 17) },
  { dst := none, op := .st 1600 (.t 18) (.t 16) }])
 (.seq (.seq (.reg false [{ dst := some 4, op := .mv (.c (.i .i64 0)) }])
 (.blk 0 (.loop (.seq (.seq (.reg false [{ dst := some 19, op := .mv (.t 4) },
  { dst := some 20, op := .mv (.t 3) },
  { dst := some 21, op := .nilck (.t 20) },
  { dst := some 22, op := .fa 0 (.t 21) },
  { dst := some 23, op := .ld none (.t 22) },
  { dst := some 24, op := .bin .lss (.t 19) (.t 23) }])
 (.cond (.t 24) .skip
 (.ext 0)))
 (.seq (.blk 1 (.seq (.reg false [{ dst := some 5, op := .mv (.c (.i .i64 0)) }])
 (.blk 2 (.loop (.seq (.seq (.reg false [{ dst := some 27, op := .mv (.t 5) },
  { dst := some 28, op := .mv (.t 3) },
  { dst := some 29, op := .nilck (.t 28) },
  { dst := some 30, op := .fa 0 (.t 29) },
  { dst := some 31, op := .ld none (.t 30) },
  { dst := some 32, op := .bin .lss (.t 27) (.t 31) }])
 (.cond (.t 32) .skip
 (.ext 2)))
 (.seq (.blk 3 (.seq (.reg false [{ dst := some 6, op := .mv (.c (.i .i64 0)) }])
 (.blk 4 (.loop (.seq (.seq (.reg false [{ dst := some 35, op := .mv (.t 6) },
  { dst := some 36, op := .mv (.t 3) },
  { dst := some 37, op := .nilck (.t 36) },
  { dst := some 38, op := .fa 0 (.t 37) },
  { dst := some 39, op := .ld none (.t 38) },
  { dst := some 40, op := .bin .lss (.t 35) (.t 39) },
  { dst := some 41, op := .mv (.t 40) },
  { dst := some 42, op := .mv (.t 3), grd := some (41, true) },
  { dst := some 43, op := .mv (.t 5), grd := some (41, true) },
  { dst := some 44, op := .mv (.t 4), grd := some (41, true) },
  { dst := some 45, op := .nilck (.t 42), grd := some (41, true) },
  { dst := some 46, op := .fa 1 (.t 45), grd := some (41, true) },
  { dst := some 47, op := .iaa 40 40 (.t 46) (.t 43), grd := some (41, true) },
  { dst := some 48, op := .iaa 40 1 (.t 47) (.t 44), grd := some (41, true) },
  { dst := some 49, op := .ld none (.t 48), grd := some (41, true) },
  { dst := some 50, op := .pick (.t 41) (.t 49) (.c (.b false)) }])
 (.cond (.t 50) .skip
 (.ext 4)))
 (.seq (.blk 5 (.reg true [{ dst := some 53, op := .mv (.t 3) },
  { dst := some 54, op := .mv (.t 5) },
  { dst := some 55, op := .mv (.t 6) },
  { dst := some 56, op := .mv (.t 3) },
  { dst := some 57, op := .mv (.t 5) },
  { dst := some 58, op := .mv (.t 6) },
  { dst := some 59, op := .nilck (.t 56) },
  { dst := some 60, op := .fa 1 (.t 59) },
  { dst := some 61, op := .iaa 40 40 (.t 60) (.t 57) },
  { dst := some 62, op := .iaa 40 1 (.t 61) (.t 58) },
  { dst := some 63, op := .ld none (.t 62), pre := [] },
  { dst := some 64, op := .mv (.t 63) },
  { dst := some 65, op := .mv (.t 3), grd := some (64, false) },
  { dst := some 66, op := .mv (.t 4), grd := some (64, false) },
  { dst := some 67, op := .mv (.t 6), grd := some (64, false) },
  { dst := some 68, op := .nilck (.t 65), grd := some (64, false) },
  { dst := some 69, op := .fa 1 (.t 68), grd := some (64, false) },
  { dst := some 70, op := .iaa 40 40 (.t 69) (.t 66), grd := some (64, false) },
  { dst := some 71, op := .iaa 40 1 (.t 70) (.t 67), grd := some (64, false) },
  { dst := some 72, op := .ld none (.t 71), grd := some (64, false), pre := [] },
  { dst := some 73, op := .pick (.t 64) (.c (.b true)) (.t 72) },
  { dst := some 74, op := .nilck (.t 53) },
  { dst := some 75, op := .fa 1 (.t 74) },
  { dst := some 76, op := .iaa 40 40 (.t 75) (.t 54) },
  { dst := some 77, op := .iaa 40 1 (.t 76) (.t 55) },
  { dst := none, op := .st 1 (.t 77) (.t 73), pre := [] }]))
 (.reg false [{ dst := some 51, op := .mv (.t 6) },
  { dst := some 52, op := .bin .add (.t 51) (.c (.i .i64 1)) },
  { dst := some 6, op := .mv (.t 52) }])))))))
 (.reg false [{ dst := some 33, op := .mv (.t 5) },
  { dst := some 34, op := .bin .add (.t 33) (.c (.i .i64 1)) },
  { dst := some 5, op := .mv (.t 34) }])))))))
 (.reg false [{ dst := some 25, op := .mv (.t 4) },
  { dst := some 26, op := .bin .add (.t 25) (.c (.i .i64 1)) },
  { dst := some 4, op := .mv (.t 26) }]))))))
 (.seq (.reg false [{ dst := some 78, op := .mv (.t 3) },
  { dst := some 2, op := .mv (.t 78) }])
 .ret))))) }
def A_xref01_R_Maybe : AFun := { res := [.t 2], body := (.seq (.reg false [{ dst := some 2, op := .mv (.c (.nilp)) }])
 (.seq (.reg false [{ dst := some 5, op := .mv (.t 0) },
  { dst := some 6, op := .nilck (.t 5) },
  { dst := some 7, op := .fa 0 (.t 6) },
  { dst := some 8, op := .ld none (.t 7) },
  { dst := some 9, op := .call .thaw (.c (.fn 27 [] [])) [.t 8, .c (.sl [] 0 .rig)] },
  { dst := some 3, op := .mv (.t 9) }])
 (.seq (.reg false [{ dst := some 10, op := .mv (.t 3) },
  { dst := some 11, op := .mv (.t 0) },
  { dst := some 12, op := .nilck (.t 11) },
  { dst := some 13, op := .fa 1 (.t 12) },
  { dst := some 14, op := .ld (some 1600) (.t 13) },
  { dst := some 15, op := .nilck (.t 10) },
  { dst := some 16, op := .fa 1 (.t 15) },
  { dst := none, op := .st 1600 (.t 16) (.t 14) }])
 (.seq (.seq (.reg false [{ dst := some 4, op := .mv (.c (.i .i64 0)) }])
 (.blk 0 (.loop (.seq (.seq (.reg false [{ dst := some 17, op := .mv (.t 4) },
  { dst := some 18, op := .mv (.t 3) },
  { dst := some 19, op := .nilck (.t 18) },
  { dst := some 20, op := .fa 0 (.t 19) },
  { dst := some 21, op := .ld none (.t 20) },
  { dst := some 22, op := .bin .lss (.t 17) (.t 21) }])
 (.cond (.t 22) .skip
 (.ext 0)))
 (.seq (.blk 1 (.reg false [{ dst := some 25, op := .mv (.t 3) },
  { dst := some 26, op := .mv (.t 4) },
  { dst := some 27, op := .mv (.t 4) },
  { dst := some 28, op := .nilck (.t 25) },
  { dst := some 29, op := .fa 1 (.t 28) },
  { dst := some 30, op := .iaa 40 40 (.t 29) (.t 26) },
  { dst := some 31, op := .iaa 40 1 (.t 30) (.t 27) },
  { dst := none, op := .st 1 (.t 31) (.c (.b true)) }]))
 (.reg false [{ dst := some 23, op := .mv (.t 4) },
  { dst := some 24, op := .bin .add (.t 23) (.c (.i .i64 1)) },
  { dst := some 4, op := .mv (.t 24) }]))))))
 (.seq (.reg false [{ dst := some 32, op := .mv (.t 3) },
  { dst := some 2, op := .mv (.t 32) }])
 .ret))))) }
def A_xref01_R_In : AFun := { res := [.t 4], body := (.seq (.reg false [{ dst := some 4, op := .mv (.c (.b false)) }])
 (.seq (.reg false [{ dst := some 5, op := .mv (.t 0) },
  { dst := some 6, op := .mv (.t 1) },
  { dst := some 7, op := .call .pure (.c (.fn 31 [] [])) [.t 5, .t 6] },
  { dst := some 8, op := .call .pure (.c (.fn 56 [] [])) [.t 7] },
  { dst := some 9, op := .len (.t 8) },
  { dst := some 10, op := .bin .eql (.t 9) (.c (.i .i64 0)) },
  { dst := some 4, op := .mv (.t 10) }])
 .ret)) }
def A_xref01_R_Loops : AFun := { res := [.t 2], body := (.seq (.reg false [{ dst := some 2, op := .mv (.c (.b false)) }])
 (.seq (.reg false [{ dst := some 5, op := .mv (.t 0) },
  { dst := some 6, op := .call .pure (.c (.fn 34 [] [])) [.t 5] },
  { dst := some 3, op := .mv (.t 6) }])
 (.seq (.seq (.reg false [{ dst := some 4, op := .mv (.c (.i .i64 0)) }])
 (.blk 0 (.loop (.seq (.seq (.reg false [{ dst := some 7, op := .mv (.t 4) },
  { dst := some 8, op := .mv (.t 3) },
  { dst := some 9, op := .nilck (.t 8) },
  { dst := some 10, op := .fa 0 (.t 9) },
  { dst := some 11, op := .ld none (.t 10) },
  { dst := some 12, op := .bin .lss (.t 7) (.t 11) }])
 (.cond (.t 12) .skip
 (.ext 0)))
 (.seq (.blk 1 (.seq (.reg false [{ dst := some 15, op := .mv (.t 3) },
  { dst := some 16, op := .mv (.t 4) },
  { dst := some 17, op := .mv (.t 4) },
  { dst := some 18, op := .nilck (.t 15) },
  { dst := some 19, op := .fa 1 (.t 18) },
  { dst := some 20, op := .iaa 40 40 (.t 19) (.t 16) },
  { dst := some 21, op := .iaa 40 1 (.t 20) (.t 17) },
  { dst := some 22, op := .ld none (.t 21) }])
 (.cond (.t 22) (.seq (.reg false [{ dst := some 2, op := .mv (.c (.b true)) }])
 .ret)
 .skip)))
 (.reg false [{ dst := some 13, op := .mv (.t 4) },
  { dst := some 14, op := .bin .add (.t 13) (.c (.i .i64 1)) },
  { dst := some 4, op := .mv (.t 14) }]))))))
 (.seq (.reg false [{ dst := some 2, op := .mv (.c (.b false)) }])
 .ret)))) }
def A_xref01_R_Has : AFun := { res := [.t 6], body := (.seq (.reg false [{ dst := some 6, op := .mv (.c (.b false)) }])
 (.seq (.reg false [{ dst := some 7, op := .mv (.t 1) },
  { dst := some 8, op := .bin .geq (.t 7) (.c (.i .i64 0)) },
  { dst := some 9, op := .mv (.t 8) },
  { dst := some 10, op := .mv (.t 2), grd := some (9, true) },
  { dst := some 11, op := .bin .geq (.t 10) (.c (.i .i64 0)), grd := some (9, true) },
  { dst := some 12, op := .pick (.t 9) (.t 11) (.c (.b false)) },
  { dst := some 13, op := .mv (.t 12) },
  { dst := some 14, op := .mv (.t 1), grd := some (13, true) },
  { dst := some 15, op := .mv (.t 0), grd := some (13, true) },
  { dst := some 16, op := .nilck (.t 15), grd := some (13, true) },
  { dst := some 17, op := .fa 0 (.t 16), grd := some (13, true) },
  { dst := some 18, op := .ld none (.t 17), grd := some (13, true) },
  { dst := some 19, op := .bin .lss (.t 14) (.t 18), grd := some (13, true) },
  { dst := some 20, op := .pick (.t 13) (.t 19) (.c (.b false)) },
  { dst := some 21, op := .mv (.t 20) },
  { dst := some 22, op := .mv (.t 2), grd := some (21, true) },
  { dst := some 23, op := .mv (.t 0), grd := some (21, true) },
  { dst := some 24, op := .nilck (.t 23), grd := some (21, true) },
  { dst := some 25, op := .fa 0 (.t 24), grd := some (21, true) },
  { dst := some 26, op := .ld none (.t 25), grd := some (21, true) },
  { dst := some 27, op := .bin .lss (.t 22) (.t 26), grd := some (21, true) },
  { dst := some 28, op := .pick (.t 21) (.t 27) (.c (.b false)) },
  { dst := some 29, op := .mv (.t 28) },
  { dst := some 30, op := .mv (.t 0), grd := some (29, true) },
  { dst := some 31, op := .mv (.t 1), grd := some (29, true) },
  { dst := some 32, op := .mv (.t 2), grd := some (29, true) },
  { dst := some 33, op := .nilck (.t 30), grd := some (29, true) },
  { dst := some 34, op := .fa 1 (.t 33), grd := some (29, true) },
  { dst := some 35, op := .iaa 40 40 (.t 34) (.t 31), grd := some (29, true) },
  { dst := some 36, op := .iaa 40 1 (.t 35) (.t 32), grd := some (29, true) },
  { dst := some 37, op := .ld none (.t 36), grd := some (29, true) },
  { dst := some 38, op := .pick (.t 29) (.t 37) (.c (.b false)) },
  { dst := some 6, op := .mv (.t 38) }])
 .ret)) }
def A_xref01_SamePairs : AFun := { res := [.t 4], body := (.seq (.reg false [{ dst := some 4, op := .mv (.c (.b false)) }])
 (.seq (.seq (.reg false [{ dst := some 6, op := .mv (.t 0) },
  { dst := some 7, op := .len (.t 6) },
  { dst := some 8, op := .mv (.t 1) },
  { dst := some 9, op := .len (.t 8) },
  { dst := some 10, op := .bin .neq (.t 7) (.t 9) }])
 (.cond (.t 10) (.seq (.reg false [{ dst := some 4, op := .mv (.c (.b false)) }])
 .ret)
 .skip))
 (.seq (.seq (.reg false [{ dst := some 5, op := .mv (.c (.i .i64 0)) }])
 (.blk 0 (.loop (.seq (.seq (.reg false [{ dst := some 11, op := .mv (.t 5) },
  { dst := some 12, op := .mv (.t 0) },
  { dst := some 13, op := .len (.t 12) },
  { dst := some 14, op := .bin .lss (.t 11) (.t 13) }])
 (.cond (.t 14) .skip
 (.ext 0)))
 (.seq (.blk 1 (.seq (.reg true [{ dst := some 17, op := .mv (.t 0) },
  { dst := some 18, op := .mv (.t 5) },
  { dst := some 19, op := .ia 2 (.t 17) (.t 18) },
  { dst := some 20, op := .fa 0 (.t 19) },
  { dst := some 21, op := .ld none (.t 20), pre := [] },
  { dst := some 22, op := .mv (.t 1) },
  { dst := some 23, op := .mv (.t 5) },
  { dst := some 24, op := .ia 2 (.t 22) (.t 23) },
  { dst := some 25, op := .fa 0 (.t 24) },
  { dst := some 26, op := .ld none (.t 25), pre := [] },
  { dst := some 27, op := .bin .neq (.t 21) (.t 26) },
  { dst := some 28, op := .mv (.t 27) },
  { dst := some 29, op := .mv (.t 0), grd := some (28, false) },
  { dst := some 30, op := .mv (.t 5), grd := some (28, false) },
  { dst := some 31, op := .ia 2 (.t 29) (.t 30), grd := some (28, false) },
  { dst := some 32, op := .fa 1 (.t 31), grd := some (28, false) },
  { dst := some 33, op := .ld none (.t 32), grd := some (28, false), pre := [] },
  { dst := some 34, op := .mv (.t 1), grd := some (28, false) },
  { dst := some 35, op := .mv (.t 5), grd := some (28, false) },
  { dst := some 36, op := .ia 2 (.t 34) (.t 35), grd := some (28, false) },
  { dst := some 37, op := .fa 1 (.t 36), grd := some (28, false) },
  { dst := some 38, op := .ld none (.t 37), grd := some (28, false), pre := [] },
  { dst := some 39, op := .bin .neq (.t 33) (.t 38), grd := some (28, false) },
  { dst := some 40, op := .pick (.t 28) (.c (.b true)) (.t 39) }])
 (.cond (.t 40) (.seq (.reg false [{ dst := some 4, op := .mv (.c (.b false)) }])
 .ret)
 .skip)))
 (.reg false [{ dst := some 15, op := .mv (.t 5) },
  { dst := some 16, op := .bin .add (.t 15) (.c (.i .i64 1)) },
  { dst := some 5, op := .mv (.t 16) }]))))))
 (.seq (.reg false [{ dst := some 4, op := .mv (.c (.b true)) }])
 .ret)))) }
def A_xref01_R_Pairs : AFun := { res := [.t 2], body := (.seq (.reg false [{ dst := some 2, op := .mv (.c (.sl [] 0 .rig)) }])
 (.seq (.reg false [{ dst := some 3, op := .mv (.c (.sl [] 0 .rig)) }])
 (.seq (.seq (.reg false [{ dst := some 4, op := .mv (.c (.i .i64 0)) }])
 (.blk 0 (.loop (.seq (.seq (.reg false [{ dst := some 6, op := .mv (.t 4) },
  { dst := some 7, op := .mv (.t 0) },
  { dst := some 8, op := .nilck (.t 7) },
  { dst := some 9, op := .fa 0 (.t 8) },
  { dst := some 10, op := .ld none (.t 9) },
  { dst := some 11, op := .bin .lss (.t 6) (.t 10) }])
 (.cond (.t 11) .skip
 (.ext 0)))
 (.seq (.blk 1 (.seq (.reg false [{ dst := some 5, op := .mv (.c (.i .i64 0)) }])
 (.blk 2 (.loop (.seq (.seq (.reg false [{ dst := some 14, op := .mv (.t 5) },
  { dst := some 15, op := .mv (.t 0) },
  { dst := some 16, op := .nilck (.t 15) },
  { dst := some 17, op := .fa 0 (.t 16) },
  { dst := some 18, op := .ld none (.t 17) },
  { dst := some 19, op := .bin .lss (.t 14) (.t 18) }])
 (.cond (.t 19) .skip
 (.ext 2)))
 (.seq (.blk 3 (.seq (.reg false [{ dst := some 22, op := .mv (.t 0) },
  { dst := some 23, op := .mv (.t 4) },
  { dst := some 24, op := .mv (.t 5) },
  { dst := some 25, op := .nilck (.t 22) },
  { dst := some 26, op := .fa 1 (.t 25) },
  { dst := some 27, op := .iaa 40 40 (.t 26) (.t 23) },
  { dst := some 28, op := .iaa 40 1 (.t 27) (.t 24) },
  { dst := some 29, op := .ld none (.t 28) }])
 (.cond (.t 29) (.reg false [{ dst := some 30, op := .mv (.t 3) },
  { dst := some 31, op := .mv (.t 4) },
  { dst := some 32, op := .mv (.t 5) },
  { dst := some 33, op := .build ([.i .i64 0, .i .i64 0]) [(0, 1, .t 31), (1, 1, .t 32)] },
  { dst := some 34, op := .bsl true 1 ([.i .i64 0, .i .i64 0]) [(0, 2, .t 33)] },
  { dst := some 35, op := .app 2 16 (.t 30) (.t 34) },
  { dst := some 3, op := .mv (.t 35) }])
 .skip)))
 (.reg false [{ dst := some 20, op := .mv (.t 5) },
  { dst := some 21, op := .bin .add (.t 20) (.c (.i .i64 1)) },
  { dst := some 5, op := .mv (.t 21) }])))))))
 (.reg false [{ dst := some 12, op := .mv (.t 4) },
  { dst := some 13, op := .bin .add (.t 12) (.c (.i .i64 1)) },
  { dst := some 4, op := .mv (.t 13) }]))))))
 (.seq (.reg false [{ dst := some 36, op := .mv (.t 3) },
  { dst := some 2, op := .mv (.t 36) }])
 .ret)))) }
def A_xref01_R_Star : AFun := { res := [.t 2], body := (.seq (.reg false [{ dst := some 2, op := .mv (.c (.nilp)) }])
 (.seq (.reg false [{ dst := some 3, op := .mv (.t 0) },
  { dst := some 4, op := .call .pure (.c (.fn 34 [] [])) [.t 3] },
  { dst := some 5, op := .call .pure (.c (.fn 35 [] [])) [.t 4] },
  { dst := some 2, op := .mv (.t 5) }])
 .ret)) }
structure Pk_xref01 (F : Funs) : Prop where
  xref01_New : F 27 = some A_xref01_New
  xref01_R_Or : F 29 = some A_xref01_R_Or
  xref01_R_And : F 30 = some A_xref01_R_And
  xref01_R_Then : F 32 = some A_xref01_R_Then
  xref01_R_Back : F 33 = some A_xref01_R_Back
  xref01_R_Plus : F 34 = some A_xref01_R_Plus
  xref01_R_Maybe : F 35 = some A_xref01_R_Maybe
  xref01_SamePairs : F 55 = some A_xref01_SamePairs
  xref01_R_Pairs : F 56 = some A_xref01_R_Pairs
end Go.Ab
end
section
/- The document's relations: a matrix of bools. -/
set_option linter.unusedVariables false
set_option linter.unusedSimpArgs false
namespace Go.Ab
abbrev Mx := Nat → Nat → Bool
def matR (M : Mx) : List AV := (List.range 1600).map fun i => .b (M (i / 40) (i % 40))
def matC (n : Nat) (M : Mx) : List AV := .i .i64 n :: matR M
theorem matR_len (M : Mx) : (matR M).length = 1600 := by simp [matR]
theorem matC_len (n : Nat) (M : Mx) : (matC n M).length = 1601 := by simp [matC, matR_len]
theorem matR_get {M : Mx} {a b : Nat} (ha : a < 40) (hb : b < 40) : (matR M)[a * 40 + b]? = some (.b (M a b)) := by
  have h : a * 40 + b < 1600 := by omega
  simp only [matR, List.getElem?_map, List.getElem?_range h, Option.map_some]
  rw [show (a * 40 + b) / 40 = a by omega, show (a * 40 + b) % 40 = b by omega]
theorem matC_n (n : Nat) (M : Mx) : part (matC n M) 0 none = some (.i .i64 n) := rfl
theorem matC_drop1 (n : Nat) (M : Mx) : (matC n M).drop 1 = matR M := rfl
theorem matC_at {n : Nat} {M : Mx} {a b : Nat} (h : a < 40 ∧ b < 40) : part (matC n M) (0 + 1 + a * 40 + b * 1) none = some (.b (M a b)) := by
  rw [show 0 + 1 + a * 40 + b * 1 = (a * 40 + b) + 1 by omega]
  simp only [part, matC, List.getElem?_cons_succ, matR_get h.1 h.2]
theorem matR_at {M : Mx} {a b : Nat} (h : a < 40 ∧ b < 40) : part (((matR M).drop (a * 40)).drop (b * 1)) 0 none = some (.b (M a b)) := by
  simp only [part, List.getElem?_drop, Nat.mul_one, Nat.add_zero, matR_get h.1 h.2]
def upd2 (M : Mx) (a b : Nat) (x : Bool) : Mx := fun i j => if i = a ∧ j = b then x else M i j
theorem matC_set {n : Nat} {M : Mx} {a b : Nat} {x : Bool} (h : a < 40 ∧ b < 40) : (matC n M).set (0 + 1 + a * 40 + b * 1) (.b x) = matC n (upd2 M a b x) := by
  rw [show 0 + 1 + a * 40 + b * 1 = (a * 40 + b) + 1 by omega]
  simp only [matC, List.set_cons_succ]
  refine congrArg (List.cons _) ?_
  refine List.ext_getElem? fun i => ?_
  rw [List.getElem?_set, matR_len]
  by_cases hi : i < 1600
  · have e1 : (matR M)[i]? = some (.b (M (i / 40) (i % 40))) := by simp [matR, hi]
    have e2 : (matR (upd2 M a b x))[i]? = some (.b (upd2 M a b x (i / 40) (i % 40))) := by simp [matR, hi]
    rw [e1, e2]
    by_cases hab : a * 40 + b = i
    · rw [if_pos hab, if_pos (by omega)]
      unfold upd2
      rw [if_pos (by omega)]
    · rw [if_neg hab]
      unfold upd2
      rw [if_neg (by omega)]
  · have e1 : (matR M)[i]? = none := by rw [List.getElem?_eq_none]; rw [matR_len]; omega
    have e2 : (matR (upd2 M a b x))[i]? = none := by rw [List.getElem?_eq_none]; rw [matR_len]; omega
    rw [e1, e2, if_neg (by omega)]
theorem matC_flat (n : Nat) (M : Mx) : (matC n M).all flat = true := by simp [matC, matR, flat]
theorem matC_one (n : Nat) (M : Mx) : (matC n M).all one = true := by simp [matC, matR, one]
theorem matR_one (M : Mx) : (matR M).all one = true := by simp [matR, one]
theorem part_matR (M : Mx) : part (matR M) 0 (some 1600) = some (.agg (matR M)) := by
  simp [part, matR_len]
  rw [List.take_of_length_le (by rw [matR_len]; omega)]
theorem splice_mat (n : Nat) (M M' : Mx) : splice (matC n M) 1 (matR M') = matC n M' := by
  have h : ∀ (vs : List AV) (a : AV) (cs : List AV), 2 ≤ vs.length → vs.length = cs.length → splice (a :: cs) 1 vs = a :: vs := by
    intro vs a cs h2 h
    match vs, h2 with
    | u :: v :: vs, _ =>
      show List.take 1 (a :: cs) ++ (u :: v :: vs) ++ List.drop (1 + (u :: v :: vs).length) (a :: cs) = _
      rw [List.drop_eq_nil_of_le (by simp at h ⊢; omega)]
      simp
  exact h _ _ _ (by rw [matR_len]; omega) (by rw [matR_len, matR_len])
theorem zero_mat (n : Nat) : AV.i .i64 n :: List.replicate 1600 (.b false) = matC n (fun _ _ => false) := by
  unfold matC matR
  refine congrArg (List.cons _) ?_
  refine List.ext_getElem? fun i => ?_
  by_cases hi : i < 1600
  · rw [List.getElem?_replicate, if_pos hi, List.getElem?_map, List.getElem?_range hi]; rfl
  · rw [List.getElem?_eq_none (by rw [List.length_replicate]; omega), List.getElem?_eq_none (by rw [List.length_map, List.length_range]; omega)]
theorem matC_congr {n : Nat} {M M' : Mx} (h : ∀ a b, a < 40 → b < 40 → M a b = M' a b) : matC n M = matC n M' := by
  unfold matC matR
  refine congrArg (List.cons _) ?_
  refine List.map_congr_left fun i hi => ?_
  have := List.mem_range.1 hi
  rw [h _ _ (by omega) (by omega)]
/-! bundle -/
set_option maxRecDepth 10000 in
theorem ml : type_of% (And.intro (And.intro (And.intro @matC_n (And.intro @matC_at @matR_at)) (And.intro (And.intro @matC_drop1 @matC_len) (And.intro @matR_len @matC_one))) (And.intro (And.intro (And.intro @matR_one @matC_flat) (And.intro @part_matR @splice_mat)) (And.intro (And.intro @matC_set @retT_nrm) (And.intro @retT_ret @o_thaw)))) := (And.intro (And.intro (And.intro @matC_n (And.intro @matC_at @matR_at)) (And.intro (And.intro @matC_drop1 @matC_len) (And.intro @matR_len @matC_one))) (And.intro (And.intro (And.intro @matR_one @matC_flat) (And.intro @part_matR @splice_mat)) (And.intro (And.intro @matC_set @retT_nrm) (And.intro @retT_ret @o_thaw))))
/-! end of bundle -/
end Go.Ab
end
section
/- The document's relations: New. -/
set_option linter.unusedVariables false
set_option linter.unusedSimpArgs false
namespace Go.Ab
variable {F : Funs}
theorem pairs_a : ∀ {l : List (Int × Int)} {k : Nat} (h : k < l.length), part ((pairsC l).drop (k * 2)) 0 none = some (.i .i64 (l.getD k (0, 0)).1)
  | p :: l, 0, _ => by simp [pairsC, part]
  | p :: l, k + 1, h => by
    have := pairs_a (l := l) (k := k) (by simpa using h)
    simp only [List.getD_cons_succ]
    rw [← this]
    simp [pairsC, Nat.succ_mul]
theorem pairs_b : ∀ {l : List (Int × Int)} {k : Nat} (h : k < l.length), part (((pairsC l).drop (k * 2)).drop 1) 0 none = some (.i .i64 (l.getD k (0, 0)).2)
  | p :: l, 0, _ => by simp [pairsC, part]
  | p :: l, k + 1, h => by
    have := pairs_b (l := l) (k := k) (by simpa using h)
    simp only [List.getD_cons_succ]
    rw [← this]
    simp [pairsC, Nat.succ_mul]
def addM (n : Nat) (M : Mx) (p : Int × Int) : Mx := if inR n p then upd2 M p.1.toNat p.2.toNat true else M
def newM (n : Nat) (l : List (Int × Int)) : Mx := l.foldl (addM n) (fun _ _ => false)
theorem newM_take {n : Nat} {l : List (Int × Int)} {k : Nat} (h : k < l.length) : newM n (l.take (k + 1)) = addM n (newM n (l.take k)) (l.getD k (0, 0)) := by
  unfold newM
  rw [List.take_add_one, List.foldl_append, List.getElem?_eq_getElem h, List.getD_eq_getElem?_getD, List.getElem?_eq_getElem h]
  rfl
set_option maxHeartbeats 4000000 in
set_option maxRecDepth 100000 in
theorem new_W (n : Int) (l : List (Int × Int)) (t : Tok) (hlen : l.length < 9000000000000000000) : W F A_xref01_New.body (argEnv [.i .i64 n, .sl (pairsC l) l.length t]) g0 (retT A_xref01_New.res (matC (clamp n) (newM (clamp n) l))) := by
  have c1 : (if (40 : Int) < (if n < 0 then (0 : Int) else n) then (40 : Int) else (if n < 0 then (0 : Int) else n)) = clamp n := by unfold clamp; split <;> split <;> omega
  have hcl := clamp_le n
  simp (disch := omega) only [A_xref01_New, wp, Nat.reduceAdd, Nat.reduceMul, Nat.reduceSub, c1, List.all_append, List.all_replicate, zero_mat, ml]
  generalize clamp n = N at hcl
  refine W_loop (fun m e g => ∃ k, m = l.length - k ∧ k ≤ l.length ∧ e 1 = .sl (pairsC l) l.length t ∧ e 6 = .i .i64 k ∧ e 5 = .mp 5 0 ∧ g.hp 5 = some (.cells (matC N (newM N (l.take k))) false) ∧ 5 < g.nx) l.length ?_ ?_
  · refine ⟨0, rfl, Nat.zero_le _, ?_⟩
    simp (disch := omega) only [wp, Nat.reduceAdd, Nat.reduceMul, Nat.reduceSub]
    exact ⟨rfl, rfl, by omega⟩
  · rintro m e g ⟨k, rfl, hk, h1, h6, h5, hg, hn⟩
    by_cases hk' : k < l.length
    · have hk1 : (k : Int) < l.length := by omega
      have hpa := pairs_a hk'
      have hpb := pairs_b hk'
      have hw := succ_wrap (k := k) (by omega)
      have ht := newM_take (n := N) hk'
      generalize l.getD k (0, 0) = p at hpa hpb ht
      obtain ⟨a, b⟩ := p
      by_cases i1 : 0 ≤ a
      · by_cases i2 : 0 ≤ b
        · by_cases i3 : a < N
          · by_cases i4 : b < N
            · have hset := matC_set (n := N) (M := newM N (l.take k)) (a := a.toNat) (b := b.toNat) (x := true) (by omega)
              simp (disch := omega) only [wp, Nat.reduceAdd, Nat.reduceMul, Nat.reduceSub, h1, h5, h6, hk1, hpa, hpb, hg, i1, i2, i3, i4, hw, ml, List.length_drop, pairsC_len, hset]
              refine ⟨_, ?_, k + 1, rfl, by omega, rfl, ?_, by first | omega | (dsimp only; omega)⟩
              · omega
              · rw [ht]; simp [addM, inR, i1, i2, i3, i4]
            · simp (disch := omega) only [wp, Nat.reduceAdd, Nat.reduceMul, Nat.reduceSub, h1, h5, h6, hk1, hpa, hpb, hg, i1, i2, i3, i4, hw, ml, List.length_drop, pairsC_len]
              refine ⟨_, ?_, k + 1, rfl, by omega, rfl, ?_, by first | omega | (dsimp only; omega)⟩
              · omega
              · rw [ht]; simp [addM, inR, i4]
          · simp (disch := omega) only [wp, Nat.reduceAdd, Nat.reduceMul, Nat.reduceSub, h1, h5, h6, hk1, hpa, hpb, hg, i1, i2, i3, hw, ml, List.length_drop, pairsC_len]
            refine ⟨_, ?_, k + 1, rfl, by omega, rfl, ?_, by first | omega | (dsimp only; omega)⟩
            · omega
            · rw [ht]; simp [addM, inR, i3]
        · simp (disch := omega) only [wp, Nat.reduceAdd, Nat.reduceMul, Nat.reduceSub, h1, h5, h6, hk1, hpa, hpb, hg, i1, i2, hw, ml, List.length_drop, pairsC_len]
          refine ⟨_, ?_, k + 1, rfl, by omega, rfl, ?_, by first | omega | (dsimp only; omega)⟩
          · omega
          · rw [ht]; simp [addM, inR, i2]
      · simp (disch := omega) only [wp, Nat.reduceAdd, Nat.reduceMul, Nat.reduceSub, h1, h5, h6, hk1, hpa, hpb, hg, i1, hw, ml, List.length_drop, pairsC_len]
        refine ⟨_, ?_, k + 1, rfl, by omega, rfl, ?_, by first | omega | (dsimp only; omega)⟩
        · omega
        · rw [ht]; simp [addM, inR, i1]
    · obtain rfl : k = l.length := by omega
      have hk1 : ¬ ((l.length : Int) < l.length) := by omega
      simp (disch := omega) only [wp, Nat.reduceAdd, Nat.reduceMul, Nat.reduceSub, h1, h5, h6, hk1, hg, retT_ret, List.take_length]
      exact ⟨5, rfl, hg.trans (by rw [List.take_length])⟩
theorem sp_newM (h27 : F 27 = some A_xref01_New) (n : Int) (l : List (Int × Int)) (t : Tok) (hlen : l.length < 9000000000000000000) : pureS F 27 [.i .i64 n, .sl (pairsC l) l.length t] = some (.ptr (matC (clamp n) (newM (clamp n) l))) :=
  pure_of_thaw h27 (matC_flat _ _) (new_W n l t hlen)
theorem sp_newT (h27 : F 27 = some A_xref01_New) {n : Nat} (hn : n ≤ 40) (t : Tok) : thawS F 27 [.i .i64 n, .sl [] 0 t] = some (matC n fun _ _ => false) := by
  have := thaw_of h27 (matC_flat _ _) (new_W (F := F) (n : Int) [] t (by simp))
  rw [show clamp (n : Int) = n by unfold clamp; omega] at this
  exact this
end Go.Ab
end
section
/- Or, And, Less of the document. -/
set_option linter.unusedVariables false
set_option linter.unusedSimpArgs false
namespace Go.Ab
variable {F : Funs}
theorem thaw27 (h27 : F 27 = some A_xref01_New) {n : Nat} (hn : n ≤ 40) (al : Nat → Bool) (id : Nat) (g : G) : vThaw F al id (.fn 27 [] []) [.i .i64 n, .sl [] 0 .rig] g = some (.mp id 0, ⟨upd g.hp id (some (.cells (matC n fun _ _ => false) false)), g.nx⟩) :=
  vThaw_S (bs := [.i .i64 n, .sl [] 0 .non]) (by rw [frzL_cons, frzL_cons, frzL_nil, frz_d_i, frz_d_sl]; rfl) (sp_newT h27 hn .non) (by rw [List.flatMap_cons, List.flatMap_cons, vis_i, vis_sl]; rfl)
def stM (φ : Bool → Bool → Bool) (A B : Mx) (N a b : Nat) : Mx := fun i j => if (i < a ∧ j < N) ∨ (i = a ∧ j < b) then φ (A i j) (B i j) else false
theorem stM_succ (φ A B N a b) : upd2 (stM φ A B N a b) a b (φ (A a b) (B a b)) = stM φ A B N a (b + 1) := by
  funext i j
  unfold upd2 stM
  by_cases h : i = a ∧ j = b
  · obtain ⟨rfl, rfl⟩ := h
    rw [if_pos ⟨rfl, rfl⟩, if_pos (.inr ⟨rfl, by omega⟩)]
  · rw [if_neg h]
    by_cases h2 : (i < a ∧ j < N) ∨ (i = a ∧ j < b)
    · rw [if_pos h2, if_pos (by omega)]
    · rw [if_neg h2, if_neg (by omega)]
theorem stM_row (φ A B N a) : stM φ A B N a N = stM φ A B N (a + 1) 0 := by
  funext i j
  unfold stM
  by_cases h2 : (i < a ∧ j < N) ∨ (i = a ∧ j < N)
  · rw [if_pos h2, if_pos (by omega)]
  · rw [if_neg h2, if_neg (by omega)]
theorem stM_0 (φ A B N) : stM φ A B N 0 0 = fun _ _ => false := by
  funext i j
  unfold stM
  rw [if_neg (by omega)]
def opM (φ : Bool → Bool → Bool) (A B : Mx) (N : Nat) : Mx := stM φ A B N N 0

set_option maxRecDepth 100000 in
set_option maxHeartbeats 4000000 in
theorem sp_mor (h : F 29 = some A_xref01_R_Or) (h27 : F 27 = some A_xref01_New) {n m : Nat} (hn : n ≤ 40) (hm : m ≤ 40) (A B : Mx) : pureS F 29 [.ptr (matC n A), .ptr (matC m B)] = some (.ptr (matC (max n m) (opM (fun x y => x || y) A B (max n m)))) := by
  refine pure_of_thaw h (matC_flat _ _) ?_
  have hN : max n m ≤ 40 := by omega
  simp (disch := omega) only [A_xref01_R_Or, wp, Nat.reduceAdd, Nat.reduceMul, Nat.reduceSub, ml, maxI, thaw27 h27]
  generalize max n m = N at hN
  refine W_loop (fun q e g => ∃ a, q = N - a ∧ a ≤ N ∧ e 0 = .ptr (matC n A) ∧ e 1 = .ptr (matC m B) ∧ e 5 = .mp 10 0 ∧ e 6 = .i .i64 a ∧ g.hp 10 = some (.cells (matC N (stM (fun x y => x || y) A B N a 0)) false) ∧ 10 < g.nx) N ?_ ?_
  · refine ⟨0, rfl, Nat.zero_le _, ?_⟩
    simp (disch := omega) only [wp, Nat.reduceAdd, Nat.reduceMul, Nat.reduceSub, stM_0]
    exact ⟨rfl, by first | omega | (dsimp only; omega)⟩
  · rintro q e g ⟨a, rfl, ha, h0, h1, h5, h6, hg, hnx⟩
    by_cases ha' : a < N
    · have ha1 : (a : Int) < N := by omega
      have hwa := succ_wrap (k := a) (by omega)
      simp (disch := omega) only [wp, Nat.reduceAdd, Nat.reduceMul, Nat.reduceSub, ml, h0, h1, h5, h6, hg, ha1]
      refine W_loop (fun q e g => ∃ b, q = N - b ∧ b ≤ N ∧ e 0 = .ptr (matC n A) ∧ e 1 = .ptr (matC m B) ∧ e 5 = .mp 10 0 ∧ e 6 = .i .i64 a ∧ e 7 = .i .i64 b ∧ g.hp 10 = some (.cells (matC N (stM (fun x y => x || y) A B N a b)) false) ∧ 10 < g.nx) N ?_ ?_
      · refine ⟨0, rfl, Nat.zero_le _, ?_⟩
        simp (disch := omega) only [wp, Nat.reduceAdd, Nat.reduceMul, Nat.reduceSub, h0, h1, h5, h6, hg]
        exact ⟨rfl, by first | omega | (dsimp only; omega)⟩
      · rintro q e g ⟨b, rfl, hb, h0, h1, h5, h6, h7, hg, hnx⟩
        by_cases hb' : b < N
        · have hb1 : (b : Int) < N := by omega
          have hwb := succ_wrap (k := b) (by omega)
          have hs := stM_succ (fun x y => x || y) A B N a b
          cases hA : A a b with
          | true =>
            simp only [hA, Bool.true_or, Bool.true_and] at hs
            simp (disch := omega) only [wp, Nat.reduceAdd, Nat.reduceMul, Nat.reduceSub, ml, h0, h1, h5, h6, h7, hg, hb1, hA, hwb, hs]
            exact ⟨N - (b + 1), by omega, b + 1, rfl, by omega, rfl, rfl, by first | omega | (dsimp only; omega)⟩
          | false =>
            simp only [hA, Bool.false_or, Bool.false_and] at hs
            simp (disch := omega) only [wp, Nat.reduceAdd, Nat.reduceMul, Nat.reduceSub, ml, h0, h1, h5, h6, h7, hg, hb1, hA, hwb, hs]
            exact ⟨N - (b + 1), by omega, b + 1, rfl, by omega, rfl, rfl, by first | omega | (dsimp only; omega)⟩
        · obtain rfl : b = N := by omega
          have hb1 : ¬ ((b : Int) < b) := by omega
          rw [stM_row] at hg
          simp (disch := omega) only [wp, Nat.reduceAdd, Nat.reduceMul, Nat.reduceSub, ml, h0, h1, h5, h6, h7, hg, hb1, hwa]
          exact ⟨b - (a + 1), by omega, a + 1, rfl, by omega, rfl, rfl, by first | omega | (dsimp only; omega)⟩
    · obtain rfl : a = N := by omega
      have ha1 : ¬ ((a : Int) < a) := by omega
      simp (disch := omega) only [wp, Nat.reduceAdd, Nat.reduceMul, Nat.reduceSub, ml, h0, h1, h5, h6, hg, ha1]
      exact ⟨10, rfl, hg⟩

set_option maxRecDepth 100000 in
set_option maxHeartbeats 4000000 in
theorem sp_mand (h : F 30 = some A_xref01_R_And) (h27 : F 27 = some A_xref01_New) {n m : Nat} (hn : n ≤ 40) (hm : m ≤ 40) (A B : Mx) : pureS F 30 [.ptr (matC n A), .ptr (matC m B)] = some (.ptr (matC (max n m) (opM (fun x y => x && y) A B (max n m)))) := by
  refine pure_of_thaw h (matC_flat _ _) ?_
  have hN : max n m ≤ 40 := by omega
  simp (disch := omega) only [A_xref01_R_And, wp, Nat.reduceAdd, Nat.reduceMul, Nat.reduceSub, ml, maxI, thaw27 h27]
  generalize max n m = N at hN
  refine W_loop (fun q e g => ∃ a, q = N - a ∧ a ≤ N ∧ e 0 = .ptr (matC n A) ∧ e 1 = .ptr (matC m B) ∧ e 5 = .mp 10 0 ∧ e 6 = .i .i64 a ∧ g.hp 10 = some (.cells (matC N (stM (fun x y => x && y) A B N a 0)) false) ∧ 10 < g.nx) N ?_ ?_
  · refine ⟨0, rfl, Nat.zero_le _, ?_⟩
    simp (disch := omega) only [wp, Nat.reduceAdd, Nat.reduceMul, Nat.reduceSub, stM_0]
    exact ⟨rfl, by first | omega | (dsimp only; omega)⟩
  · rintro q e g ⟨a, rfl, ha, h0, h1, h5, h6, hg, hnx⟩
    by_cases ha' : a < N
    · have ha1 : (a : Int) < N := by omega
      have hwa := succ_wrap (k := a) (by omega)
      simp (disch := omega) only [wp, Nat.reduceAdd, Nat.reduceMul, Nat.reduceSub, ml, h0, h1, h5, h6, hg, ha1]
      refine W_loop (fun q e g => ∃ b, q = N - b ∧ b ≤ N ∧ e 0 = .ptr (matC n A) ∧ e 1 = .ptr (matC m B) ∧ e 5 = .mp 10 0 ∧ e 6 = .i .i64 a ∧ e 7 = .i .i64 b ∧ g.hp 10 = some (.cells (matC N (stM (fun x y => x && y) A B N a b)) false) ∧ 10 < g.nx) N ?_ ?_
      · refine ⟨0, rfl, Nat.zero_le _, ?_⟩
        simp (disch := omega) only [wp, Nat.reduceAdd, Nat.reduceMul, Nat.reduceSub, h0, h1, h5, h6, hg]
        exact ⟨rfl, by first | omega | (dsimp only; omega)⟩
      · rintro q e g ⟨b, rfl, hb, h0, h1, h5, h6, h7, hg, hnx⟩
        by_cases hb' : b < N
        · have hb1 : (b : Int) < N := by omega
          have hwb := succ_wrap (k := b) (by omega)
          have hs := stM_succ (fun x y => x && y) A B N a b
          cases hA : A a b with
          | true =>
            simp only [hA, Bool.true_or, Bool.true_and] at hs
            simp (disch := omega) only [wp, Nat.reduceAdd, Nat.reduceMul, Nat.reduceSub, ml, h0, h1, h5, h6, h7, hg, hb1, hA, hwb, hs]
            exact ⟨N - (b + 1), by omega, b + 1, rfl, by omega, rfl, rfl, by first | omega | (dsimp only; omega)⟩
          | false =>
            simp only [hA, Bool.false_or, Bool.false_and] at hs
            simp (disch := omega) only [wp, Nat.reduceAdd, Nat.reduceMul, Nat.reduceSub, ml, h0, h1, h5, h6, h7, hg, hb1, hA, hwb, hs]
            exact ⟨N - (b + 1), by omega, b + 1, rfl, by omega, rfl, rfl, by first | omega | (dsimp only; omega)⟩
        · obtain rfl : b = N := by omega
          have hb1 : ¬ ((b : Int) < b) := by omega
          rw [stM_row] at hg
          simp (disch := omega) only [wp, Nat.reduceAdd, Nat.reduceMul, Nat.reduceSub, ml, h0, h1, h5, h6, h7, hg, hb1, hwa]
          exact ⟨b - (a + 1), by omega, a + 1, rfl, by omega, rfl, rfl, by first | omega | (dsimp only; omega)⟩
    · obtain rfl : a = N := by omega
      have ha1 : ¬ ((a : Int) < a) := by omega
      simp (disch := omega) only [wp, Nat.reduceAdd, Nat.reduceMul, Nat.reduceSub, ml, h0, h1, h5, h6, hg, ha1]
      exact ⟨10, rfl, hg⟩

set_option maxRecDepth 100000 in
set_option maxHeartbeats 4000000 in
theorem sp_mless (h : F 31 = some A_xref01_R_Less) (h27 : F 27 = some A_xref01_New) {n m : Nat} (hn : n ≤ 40) (hm : m ≤ 40) (A B : Mx) : pureS F 31 [.ptr (matC n A), .ptr (matC m B)] = some (.ptr (matC (max n m) (opM (fun x y => x && !y) A B (max n m)))) := by
  refine pure_of_thaw h (matC_flat _ _) ?_
  have hN : max n m ≤ 40 := by omega
  simp (disch := omega) only [A_xref01_R_Less, wp, Nat.reduceAdd, Nat.reduceMul, Nat.reduceSub, ml, maxI, thaw27 h27]
  generalize max n m = N at hN
  refine W_loop (fun q e g => ∃ a, q = N - a ∧ a ≤ N ∧ e 0 = .ptr (matC n A) ∧ e 1 = .ptr (matC m B) ∧ e 5 = .mp 10 0 ∧ e 6 = .i .i64 a ∧ g.hp 10 = some (.cells (matC N (stM (fun x y => x && !y) A B N a 0)) false) ∧ 10 < g.nx) N ?_ ?_
  · refine ⟨0, rfl, Nat.zero_le _, ?_⟩
    simp (disch := omega) only [wp, Nat.reduceAdd, Nat.reduceMul, Nat.reduceSub, stM_0]
    exact ⟨rfl, by first | omega | (dsimp only; omega)⟩
  · rintro q e g ⟨a, rfl, ha, h0, h1, h5, h6, hg, hnx⟩
    by_cases ha' : a < N
    · have ha1 : (a : Int) < N := by omega
      have hwa := succ_wrap (k := a) (by omega)
      simp (disch := omega) only [wp, Nat.reduceAdd, Nat.reduceMul, Nat.reduceSub, ml, h0, h1, h5, h6, hg, ha1]
      refine W_loop (fun q e g => ∃ b, q = N - b ∧ b ≤ N ∧ e 0 = .ptr (matC n A) ∧ e 1 = .ptr (matC m B) ∧ e 5 = .mp 10 0 ∧ e 6 = .i .i64 a ∧ e 7 = .i .i64 b ∧ g.hp 10 = some (.cells (matC N (stM (fun x y => x && !y) A B N a b)) false) ∧ 10 < g.nx) N ?_ ?_
      · refine ⟨0, rfl, Nat.zero_le _, ?_⟩
        simp (disch := omega) only [wp, Nat.reduceAdd, Nat.reduceMul, Nat.reduceSub, h0, h1, h5, h6, hg]
        exact ⟨rfl, by first | omega | (dsimp only; omega)⟩
      · rintro q e g ⟨b, rfl, hb, h0, h1, h5, h6, h7, hg, hnx⟩
        by_cases hb' : b < N
        · have hb1 : (b : Int) < N := by omega
          have hwb := succ_wrap (k := b) (by omega)
          have hs := stM_succ (fun x y => x && !y) A B N a b
          cases hA : A a b with
          | true =>
            simp only [hA, Bool.true_or, Bool.true_and] at hs
            simp (disch := omega) only [wp, Nat.reduceAdd, Nat.reduceMul, Nat.reduceSub, ml, h0, h1, h5, h6, h7, hg, hb1, hA, hwb, hs]
            exact ⟨N - (b + 1), by omega, b + 1, rfl, by omega, rfl, rfl, by first | omega | (dsimp only; omega)⟩
          | false =>
            simp only [hA, Bool.false_or, Bool.false_and] at hs
            simp (disch := omega) only [wp, Nat.reduceAdd, Nat.reduceMul, Nat.reduceSub, ml, h0, h1, h5, h6, h7, hg, hb1, hA, hwb, hs]
            exact ⟨N - (b + 1), by omega, b + 1, rfl, by omega, rfl, rfl, by first | omega | (dsimp only; omega)⟩
        · obtain rfl : b = N := by omega
          have hb1 : ¬ ((b : Int) < b) := by omega
          rw [stM_row] at hg
          simp (disch := omega) only [wp, Nat.reduceAdd, Nat.reduceMul, Nat.reduceSub, ml, h0, h1, h5, h6, h7, hg, hb1, hwa]
          exact ⟨b - (a + 1), by omega, a + 1, rfl, by omega, rfl, rfl, by first | omega | (dsimp only; omega)⟩
    · obtain rfl : a = N := by omega
      have ha1 : ¬ ((a : Int) < a) := by omega
      simp (disch := omega) only [wp, Nat.reduceAdd, Nat.reduceMul, Nat.reduceSub, ml, h0, h1, h5, h6, hg, ha1]
      exact ⟨10, rfl, hg⟩
end Go.Ab
end
section
/- Then, Back, Plus, Maybe of the document. -/
set_option linter.unusedVariables false
set_option linter.unusedSimpArgs false
namespace Go.Ab
variable {F : Funs}
/-! ### Then -/
def t1M (A B : Mx) (a b c : Nat) (T : Mx) : Mx := fun i j => if i = a ∧ j < c then T i j || B b j else T i j
def t2M (A B : Mx) (N a : Nat) (T : Mx) (b : Nat) : Mx := if A a b then t1M A B a b N T else T
def t3M (A B : Mx) (N a k : Nat) (T : Mx) : Mx := (List.range k).foldl (t2M A B N a) T
def thM (A B : Mx) (N k : Nat) : Mx := (List.range k).foldl (fun T a => t3M A B N a N T) (fun _ _ => false)
theorem t3M_succ (A B N a k T) : t3M A B N a (k + 1) T = t2M A B N a (t3M A B N a k T) k := by simp [t3M, List.range_succ]
theorem thM_succ (A B N k) : thM A B N (k + 1) = t3M A B N k N (thM A B N k) := by simp [thM, List.range_succ]
theorem t1M_succ (A B a b c T) : upd2 (t1M A B a b c T) a c (T a c || B b c) = t1M A B a b (c + 1) T := by
  funext i j
  unfold upd2 t1M
  by_cases h : i = a ∧ j = c
  · obtain ⟨rfl, rfl⟩ := h; rw [if_pos ⟨rfl, rfl⟩, if_pos ⟨rfl, by omega⟩]
  · rw [if_neg h]
    by_cases h2 : i = a ∧ j < c
    · rw [if_pos h2, if_pos (by omega)]
    · rw [if_neg h2, if_neg (by omega)]
theorem t1M_at (A B a b c T) : t1M A B a b c T a c = T a c := by unfold t1M; rw [if_neg (by omega)]
theorem t1M_0 (A B a b T) : t1M A B a b 0 T = T := by funext i j; unfold t1M; rw [if_neg (by omega)]
set_option maxRecDepth 100000 in
set_option maxHeartbeats 4000000 in
theorem sp_mthen (h : F 32 = some A_xref01_R_Then) (h27 : F 27 = some A_xref01_New) {n m : Nat} (hn : n ≤ 40) (hm : m ≤ 40) (A B : Mx) : pureS F 32 [.ptr (matC n A), .ptr (matC m B)] = some (.ptr (matC (max n m) (thM A B (max n m) (max n m)))) := by
  refine pure_of_thaw h (matC_flat _ _) ?_
  have hN : max n m ≤ 40 := by omega
  simp (disch := omega) only [A_xref01_R_Then, wp, Nat.reduceAdd, Nat.reduceMul, Nat.reduceSub, ml, maxI, thaw27 h27]
  generalize max n m = N at hN
  refine W_loop (fun q e g => ∃ a, q = N - a ∧ a ≤ N ∧ e 0 = .ptr (matC n A) ∧ e 1 = .ptr (matC m B) ∧ e 5 = .mp 10 0 ∧ e 6 = .i .i64 a ∧ g.hp 10 = some (.cells (matC N (thM A B N a)) false) ∧ 10 < g.nx) N ?_ ?_
  · refine ⟨0, rfl, Nat.zero_le _, ?_⟩
    simp (disch := omega) only [wp, Nat.reduceAdd, Nat.reduceMul, Nat.reduceSub]
    exact ⟨rfl, rfl, by first | omega | (dsimp only; omega)⟩
  · rintro q e g ⟨a, rfl, ha, h0, h1, h5, h6, hg, hnx⟩
    by_cases ha' : a < N
    · have ha1 : (a : Int) < N := by omega
      have hwa := succ_wrap (k := a) (by omega)
      simp (disch := omega) only [wp, Nat.reduceAdd, Nat.reduceMul, Nat.reduceSub, ml, h0, h1, h5, h6, hg, ha1]
      refine W_loop (fun q e g => ∃ b, q = N - b ∧ b ≤ N ∧ e 0 = .ptr (matC n A) ∧ e 1 = .ptr (matC m B) ∧ e 5 = .mp 10 0 ∧ e 6 = .i .i64 a ∧ e 7 = .i .i64 b ∧ g.hp 10 = some (.cells (matC N (t3M A B N a b (thM A B N a))) false) ∧ 10 < g.nx) N ?_ ?_
      · refine ⟨0, rfl, Nat.zero_le _, ?_⟩
        simp (disch := omega) only [wp, Nat.reduceAdd, Nat.reduceMul, Nat.reduceSub, h0, h1, h5, h6, hg]
        exact ⟨rfl, rfl, by first | omega | (dsimp only; omega)⟩
      · rintro q e g ⟨b, rfl, hb, h0, h1, h5, h6, h7, hg, hnx⟩
        by_cases hb' : b < N
        · have hb1 : (b : Int) < N := by omega
          have hwb := succ_wrap (k := b) (by omega)
          have hs := t3M_succ A B N a b (thM A B N a)
          generalize t3M A B N a b (thM A B N a) = T at hg hs
          cases hA : A a b with
          | true =>
            rw [t2M, if_pos hA] at hs
            simp (disch := omega) only [wp, Nat.reduceAdd, Nat.reduceMul, Nat.reduceSub, ml, h0, h1, h5, h6, h7, hg, hb1]
            refine W_loop (fun q e g => ∃ c, q = N - c ∧ c ≤ N ∧ e 0 = .ptr (matC n A) ∧ e 1 = .ptr (matC m B) ∧ e 5 = .mp 10 0 ∧ e 6 = .i .i64 a ∧ e 7 = .i .i64 b ∧ e 8 = .i .i64 c ∧ g.hp 10 = some (.cells (matC N (t1M A B a b c T)) false) ∧ 10 < g.nx) N ?_ ?_
            · refine ⟨0, rfl, Nat.zero_le _, ?_⟩
              simp (disch := omega) only [wp, Nat.reduceAdd, Nat.reduceMul, Nat.reduceSub, h0, h1, h5, h6, h7, hg, t1M_0]
              exact ⟨rfl, by first | omega | (dsimp only; omega)⟩
            · rintro q e g ⟨c, rfl, hc, h0, h1, h5, h6, h7, h8, hg, hnx⟩
              by_cases hc' : c < N
              · have hc1 : (c : Int) < N := by omega
                have hwc := succ_wrap (k := c) (by omega)
                have hs1 := t1M_succ A B a b c T
                have hat := t1M_at A B a b c T
                cases hT : T a c with
                | true =>
                  rw [hT] at hat hs1
                  simp only [Bool.true_or] at hs1
                  simp (disch := omega) only [wp, Nat.reduceAdd, Nat.reduceMul, Nat.reduceSub, ml, h0, h1, h5, h6, h7, h8, hg, hc1, hA, hat, hwc, hs1]
                  exact ⟨N - (c + 1), by omega, c + 1, rfl, by omega, rfl, rfl, by first | omega | (dsimp only; omega)⟩
                | false =>
                  rw [hT] at hat hs1
                  simp only [Bool.false_or] at hs1
                  simp (disch := omega) only [wp, Nat.reduceAdd, Nat.reduceMul, Nat.reduceSub, ml, h0, h1, h5, h6, h7, h8, hg, hc1, hA, hat, hwc, hs1]
                  exact ⟨N - (c + 1), by omega, c + 1, rfl, by omega, rfl, rfl, by first | omega | (dsimp only; omega)⟩
              · obtain rfl : c = N := by omega
                have hc1 : ¬ ((c : Int) < c) := by omega
                rw [← hs] at hg
                simp (disch := omega) only [wp, Nat.reduceAdd, Nat.reduceMul, Nat.reduceSub, ml, h0, h1, h5, h6, h7, h8, hg, hc1, hwb]
                exact ⟨c - (b + 1), by omega, b + 1, rfl, by omega, rfl, rfl, by first | omega | (dsimp only; omega)⟩
          | false =>
            rw [t2M, if_neg (by rw [hA]; simp)] at hs
            have h0N : (0 : Int) < N := by omega
            have hA0 : part (((matR A).drop (a * 40)).drop (b * 1)) 0 none = some (.b false) := by rw [matR_at (by omega), hA]
            simp (disch := omega) only [wp, Nat.reduceAdd, Nat.reduceMul, Nat.reduceSub, ml, h0, h1, h5, h6, h7, hg, hb1]
            refine W_loop (fun q e g => e 0 = .ptr (matC n A) ∧ e 1 = .ptr (matC m B) ∧ e 5 = .mp 10 0 ∧ e 6 = .i .i64 a ∧ e 7 = .i .i64 b ∧ e 8 = .i .i64 0 ∧ g.hp 10 = some (.cells (matC N T) false) ∧ 10 < g.nx) 0 ?_ ?_
            · simp (disch := omega) only [wp, Nat.reduceAdd, Nat.reduceMul, Nat.reduceSub, h0, h1, h5, h6, h7, hg]
              first | omega | (dsimp only; omega)
            · rintro q e g ⟨h0, h1, h5, h6, h7, h8, hg, hnx⟩
              rw [← hs] at hg
              simp (disch := omega) only [wp, Nat.reduceAdd, Nat.reduceMul, Nat.reduceSub, ml, h0, h1, h5, h6, h7, h8, hg, h0N, hA, hwb]
              exact ⟨N - (b + 1), by omega, b + 1, rfl, by omega, rfl, rfl, by first | omega | (dsimp only; omega)⟩
        · obtain rfl : b = N := by omega
          have hb1 : ¬ ((b : Int) < b) := by omega
          rw [← thM_succ] at hg
          simp (disch := omega) only [wp, Nat.reduceAdd, Nat.reduceMul, Nat.reduceSub, ml, h0, h1, h5, h6, h7, hg, hb1, hwa]
          exact ⟨b - (a + 1), by omega, a + 1, rfl, by omega, rfl, rfl, by first | omega | (dsimp only; omega)⟩
    · obtain rfl : a = N := by omega
      have ha1 : ¬ ((a : Int) < a) := by omega
      simp (disch := omega) only [wp, Nat.reduceAdd, Nat.reduceMul, Nat.reduceSub, ml, h0, h1, h5, h6, hg, ha1]
      exact ⟨10, rfl, hg⟩

/-! ### Back -/
def bkM (A : Mx) (N a b : Nat) : Mx := fun i j => if (j < a ∧ i < N) ∨ (j = a ∧ i < b) then A j i else false
theorem bkM_succ (A N a b) : upd2 (bkM A N a b) b a (A a b) = bkM A N a (b + 1) := by
  funext i j
  unfold upd2 bkM
  by_cases h : i = b ∧ j = a
  · obtain ⟨rfl, rfl⟩ := h
    rw [if_pos ⟨rfl, rfl⟩, if_pos (.inr ⟨rfl, by omega⟩)]
  · rw [if_neg h]
    by_cases h2 : (j < a ∧ i < N) ∨ (j = a ∧ i < b)
    · rw [if_pos h2, if_pos (by omega)]
    · rw [if_neg h2, if_neg (by omega)]
theorem bkM_row (A N a) : bkM A N a N = bkM A N (a + 1) 0 := by
  funext i j
  unfold bkM
  by_cases h2 : (j < a ∧ i < N) ∨ (j = a ∧ i < N)
  · rw [if_pos h2, if_pos (by omega)]
  · rw [if_neg h2, if_neg (by omega)]
theorem bkM_0 (A N) : bkM A N 0 0 = fun _ _ => false := by
  funext i j
  unfold bkM
  rw [if_neg (by omega)]
set_option maxRecDepth 100000 in
set_option maxHeartbeats 4000000 in
theorem sp_mback (h : F 33 = some A_xref01_R_Back) (h27 : F 27 = some A_xref01_New) {n : Nat} (hn : n ≤ 40) (A : Mx) : pureS F 33 [.ptr (matC n A)] = some (.ptr (matC n (bkM A n n 0))) := by
  refine pure_of_thaw h (matC_flat _ _) ?_
  simp (disch := omega) only [A_xref01_R_Back, wp, Nat.reduceAdd, Nat.reduceMul, Nat.reduceSub, ml, thaw27 h27]
  refine W_loop (fun q e g => ∃ a, q = n - a ∧ a ≤ n ∧ e 0 = .ptr (matC n A) ∧ e 3 = .mp 5 0 ∧ e 4 = .i .i64 a ∧ g.hp 5 = some (.cells (matC n (bkM A n a 0)) false) ∧ 5 < g.nx) n ?_ ?_
  · refine ⟨0, rfl, Nat.zero_le _, ?_⟩
    simp (disch := omega) only [wp, Nat.reduceAdd, Nat.reduceMul, Nat.reduceSub, bkM_0]
    exact ⟨rfl, by first | omega | (dsimp only; omega)⟩
  · rintro q e g ⟨a, rfl, ha, h0, h3, h4, hg, hnx⟩
    by_cases ha' : a < n
    · have ha1 : (a : Int) < n := by omega
      have hwa := succ_wrap (k := a) (by omega)
      simp (disch := omega) only [wp, Nat.reduceAdd, Nat.reduceMul, Nat.reduceSub, ml, h0, h3, h4, hg, ha1]
      refine W_loop (fun q e g => ∃ b, q = n - b ∧ b ≤ n ∧ e 0 = .ptr (matC n A) ∧ e 3 = .mp 5 0 ∧ e 4 = .i .i64 a ∧ e 5 = .i .i64 b ∧ g.hp 5 = some (.cells (matC n (bkM A n a b)) false) ∧ 5 < g.nx) n ?_ ?_
      · refine ⟨0, rfl, Nat.zero_le _, ?_⟩
        simp (disch := omega) only [wp, Nat.reduceAdd, Nat.reduceMul, Nat.reduceSub, h0, h3, h4, hg]
        exact ⟨rfl, by first | omega | (dsimp only; omega)⟩
      · rintro q e g ⟨b, rfl, hb, h0, h3, h4, h5, hg, hnx⟩
        by_cases hb' : b < n
        · have hb1 : (b : Int) < n := by omega
          have hwb := succ_wrap (k := b) (by omega)
          have hs := bkM_succ A n a b
          simp (disch := omega) only [wp, Nat.reduceAdd, Nat.reduceMul, Nat.reduceSub, ml, h0, h3, h4, h5, hg, hb1, hwb, hs]
          exact ⟨n - (b + 1), by omega, b + 1, rfl, by omega, rfl, rfl, by first | omega | (dsimp only; omega)⟩
        · obtain rfl : b = n := by omega
          have hb1 : ¬ ((b : Int) < b) := by omega
          rw [bkM_row] at hg
          simp (disch := omega) only [wp, Nat.reduceAdd, Nat.reduceMul, Nat.reduceSub, ml, h0, h3, h4, h5, hg, hb1, hwa]
          exact ⟨b - (a + 1), by omega, a + 1, rfl, by omega, rfl, rfl, by first | omega | (dsimp only; omega)⟩
    · obtain rfl : a = n := by omega
      have ha1 : ¬ ((a : Int) < a) := by omega
      simp (disch := omega) only [wp, Nat.reduceAdd, Nat.reduceMul, Nat.reduceSub, ml, h0, h3, h4, hg, ha1]
      exact ⟨5, rfl, hg⟩

/-! ### Maybe -/
def mbM (A : Mx) (k : Nat) : Mx := fun i j => A i j || decide (i < k ∧ i = j)
theorem mbM_succ (A k) : upd2 (mbM A k) k k true = mbM A (k + 1) := by
  funext i j
  unfold upd2 mbM
  by_cases h : i = k ∧ j = k
  · obtain ⟨rfl, rfl⟩ := h; rw [if_pos ⟨rfl, rfl⟩]; simp
  · rw [if_neg h]
    congr 1
    rw [decide_eq_decide]; omega
theorem mbM_0 (A) : mbM A 0 = A := by funext i j; simp [mbM]
set_option maxRecDepth 100000 in
set_option maxHeartbeats 4000000 in
theorem sp_mmaybe (h : F 35 = some A_xref01_R_Maybe) (h27 : F 27 = some A_xref01_New) {n : Nat} (hn : n ≤ 40) (A : Mx) : pureS F 35 [.ptr (matC n A)] = some (.ptr (matC n (mbM A n))) := by
  refine pure_of_thaw h (matC_flat _ _) ?_
  simp (disch := omega) only [A_xref01_R_Maybe, wp, Nat.reduceAdd, Nat.reduceMul, Nat.reduceSub, ml, thaw27 h27]
  refine W_loop (fun q e g => ∃ a, q = n - a ∧ a ≤ n ∧ e 3 = .mp 5 0 ∧ e 4 = .i .i64 a ∧ g.hp 5 = some (.cells (matC n (mbM A a)) false) ∧ 5 < g.nx) n ?_ ?_
  · refine ⟨0, rfl, Nat.zero_le _, ?_⟩
    simp (disch := omega) only [wp, Nat.reduceAdd, Nat.reduceMul, Nat.reduceSub, mbM_0]
    exact ⟨rfl, by first | omega | (dsimp only; omega)⟩
  · rintro q e g ⟨a, rfl, ha, h3, h4, hg, hnx⟩
    by_cases ha' : a < n
    · have ha1 : (a : Int) < n := by omega
      have hwa := succ_wrap (k := a) (by omega)
      have hs := mbM_succ A a
      simp (disch := omega) only [wp, Nat.reduceAdd, Nat.reduceMul, Nat.reduceSub, ml, h3, h4, hg, ha1, hwa, hs]
      exact ⟨n - (a + 1), by omega, a + 1, rfl, by omega, rfl, rfl, by first | omega | (dsimp only; omega)⟩
    · obtain rfl : a = n := by omega
      have ha1 : ¬ ((a : Int) < a) := by omega
      simp (disch := omega) only [wp, Nat.reduceAdd, Nat.reduceMul, Nat.reduceSub, ml, h3, h4, hg, ha1]
      exact ⟨5, rfl, hg⟩
end Go.Ab
end
section
/- Plus, Pairs, SamePairs, Has, In, Loops of the document. -/
set_option linter.unusedVariables false
set_option linter.unusedSimpArgs false
namespace Go.Ab
variable {F : Funs}
def p1M (k a c : Nat) (T : Mx) : Mx := fun i j => if i = a ∧ j < c then T i j || T k j else T i j
def p2M (N k : Nat) (T : Mx) (a : Nat) : Mx := if T a k then p1M k a N T else T
def p3M (N k m : Nat) (T : Mx) : Mx := (List.range m).foldl (p2M N k) T
def plM (N : Nat) (A : Mx) (m : Nat) : Mx := (List.range m).foldl (fun T k => p3M N k N T) A
theorem p3M_succ (N k m T) : p3M N k (m + 1) T = p2M N k (p3M N k m T) m := by simp [p3M, List.range_succ]
theorem plM_succ (N A m) : plM N A (m + 1) = p3M N m N (plM N A m) := by simp [plM, List.range_succ]
theorem p1M_succ (k a c T) : upd2 (p1M k a c T) a c (T a c || T k c) = p1M k a (c + 1) T := by
  funext i j
  unfold upd2 p1M
  by_cases h : i = a ∧ j = c
  · obtain ⟨rfl, rfl⟩ := h; rw [if_pos ⟨rfl, rfl⟩, if_pos ⟨rfl, by omega⟩]
  · rw [if_neg h]
    by_cases h2 : i = a ∧ j < c
    · rw [if_pos h2, if_pos (by omega)]
    · rw [if_neg h2, if_neg (by omega)]
theorem p1M_at (k a c T) : p1M k a c T a c = T a c := by unfold p1M; rw [if_neg (by omega)]
theorem p1M_k (k a c T) : p1M k a c T k c = T k c := by unfold p1M; rw [if_neg (by omega)]
theorem p1M_cond {k a c T} (h : T a k = true) : p1M k a c T a k = true := by unfold p1M; split <;> simp [h]
theorem p1M_0 (k a T) : p1M k a 0 T = T := by funext i j; unfold p1M; rw [if_neg (by omega)]
set_option maxRecDepth 100000 in
set_option maxHeartbeats 4000000 in
theorem sp_mplus (h : F 34 = some A_xref01_R_Plus) (h27 : F 27 = some A_xref01_New) {N : Nat} (hN : N ≤ 40) (A : Mx) : pureS F 34 [.ptr (matC N A)] = some (.ptr (matC N (plM N A N))) := by
  refine pure_of_thaw h (matC_flat _ _) ?_
  simp (disch := omega) only [A_xref01_R_Plus, wp, Nat.reduceAdd, Nat.reduceMul, Nat.reduceSub, ml, thaw27 h27]
  refine W_loop (fun q e g => ∃ k, q = N - k ∧ k ≤ N ∧ e 3 = .mp 5 0 ∧ e 4 = .i .i64 k ∧ g.hp 5 = some (.cells (matC N (plM N A k)) false) ∧ 5 < g.nx) N ?_ ?_
  · refine ⟨0, rfl, Nat.zero_le _, ?_⟩
    simp (disch := omega) only [wp, Nat.reduceAdd, Nat.reduceMul, Nat.reduceSub]
    exact ⟨rfl, rfl, by first | omega | (dsimp only; omega)⟩
  · rintro q e g ⟨k, rfl, hk, h3, h4, hg, hnx⟩
    by_cases hk' : k < N
    · have hk1 : (k : Int) < N := by omega
      have hwk := succ_wrap (k := k) (by omega)
      simp (disch := omega) only [wp, Nat.reduceAdd, Nat.reduceMul, Nat.reduceSub, ml, h3, h4, hg, hk1]
      refine W_loop (fun q e g => ∃ a, q = N - a ∧ a ≤ N ∧ e 3 = .mp 5 0 ∧ e 4 = .i .i64 k ∧ e 5 = .i .i64 a ∧ g.hp 5 = some (.cells (matC N (p3M N k a (plM N A k))) false) ∧ 5 < g.nx) N ?_ ?_
      · refine ⟨0, rfl, Nat.zero_le _, ?_⟩
        simp (disch := omega) only [wp, Nat.reduceAdd, Nat.reduceMul, Nat.reduceSub, h3, h4, hg]
        exact ⟨rfl, rfl, by first | omega | (dsimp only; omega)⟩
      · rintro q e g ⟨a, rfl, ha, h3, h4, h5, hg, hnx⟩
        by_cases ha' : a < N
        · have ha1 : (a : Int) < N := by omega
          have hwa := succ_wrap (k := a) (by omega)
          have hs := p3M_succ N k a (plM N A k)
          generalize p3M N k a (plM N A k) = T at hg hs
          cases hA : T a k with
          | true =>
            rw [p2M, if_pos hA] at hs
            simp (disch := omega) only [wp, Nat.reduceAdd, Nat.reduceMul, Nat.reduceSub, ml, h3, h4, h5, hg, ha1]
            refine W_loop (fun q e g => ∃ c, q = N - c ∧ c ≤ N ∧ e 3 = .mp 5 0 ∧ e 4 = .i .i64 k ∧ e 5 = .i .i64 a ∧ e 6 = .i .i64 c ∧ g.hp 5 = some (.cells (matC N (p1M k a c T)) false) ∧ 5 < g.nx) N ?_ ?_
            · refine ⟨0, rfl, Nat.zero_le _, ?_⟩
              simp (disch := omega) only [wp, Nat.reduceAdd, Nat.reduceMul, Nat.reduceSub, h3, h4, h5, hg, p1M_0]
              exact ⟨rfl, by first | omega | (dsimp only; omega)⟩
            · rintro q e g ⟨c, rfl, hc, h3, h4, h5, h6, hg, hnx⟩
              by_cases hc' : c < N
              · have hc1 : (c : Int) < N := by omega
                have hwc := succ_wrap (k := c) (by omega)
                have hs1 := p1M_succ k a c T
                have hat := p1M_at k a c T
                have hkc := p1M_k k a c T
                have hco := p1M_cond (c := c) hA
                generalize p1M k a c T = M at hg hs1 hat hkc hco
                cases hT : T a c with
                | true =>
                  rw [hT] at hat hs1
                  simp only [Bool.true_or] at hs1
                  simp (disch := omega) only [wp, Nat.reduceAdd, Nat.reduceMul, Nat.reduceSub, ml, h3, h4, h5, h6, hg, hc1, hco, hat, hwc, hs1]
                  exact ⟨N - (c + 1), by omega, c + 1, rfl, by omega, rfl, rfl, by first | omega | (dsimp only; omega)⟩
                | false =>
                  rw [hT] at hat hs1
                  simp only [Bool.false_or] at hs1
                  simp (disch := omega) only [wp, Nat.reduceAdd, Nat.reduceMul, Nat.reduceSub, ml, h3, h4, h5, h6, hg, hc1, hco, hat, hkc, hwc, hs1]
                  exact ⟨N - (c + 1), by omega, c + 1, rfl, by omega, rfl, rfl, by first | omega | (dsimp only; omega)⟩
              · obtain rfl : c = N := by omega
                have hc1 : ¬ ((c : Int) < c) := by omega
                rw [← hs] at hg
                simp (disch := omega) only [wp, Nat.reduceAdd, Nat.reduceMul, Nat.reduceSub, ml, h3, h4, h5, h6, hg, hc1, hwa]
                exact ⟨c - (a + 1), by omega, a + 1, rfl, by omega, rfl, rfl, by first | omega | (dsimp only; omega)⟩
          | false =>
            rw [p2M, if_neg (by rw [hA]; simp)] at hs
            have h0N : (0 : Int) < N := by omega
            simp (disch := omega) only [wp, Nat.reduceAdd, Nat.reduceMul, Nat.reduceSub, ml, h3, h4, h5, hg, ha1]
            refine W_loop (fun q e g => e 3 = .mp 5 0 ∧ e 4 = .i .i64 k ∧ e 5 = .i .i64 a ∧ e 6 = .i .i64 0 ∧ g.hp 5 = some (.cells (matC N T) false) ∧ 5 < g.nx) 0 ?_ ?_
            · simp (disch := omega) only [wp, Nat.reduceAdd, Nat.reduceMul, Nat.reduceSub, h3, h4, h5, hg]
              first | omega | (dsimp only; omega)
            · rintro q e g ⟨h3, h4, h5, h6, hg, hnx⟩
              simp (disch := omega) only [wp, Nat.reduceAdd, Nat.reduceMul, Nat.reduceSub, ml, h3, h4, h5, h6, hg, h0N, hA, hwa]
              exact ⟨N - (a + 1), by omega, a + 1, rfl, by omega, rfl, by rw [hs], by first | omega | (dsimp only; omega)⟩
        · obtain rfl : a = N := by omega
          have ha1 : ¬ ((a : Int) < a) := by omega
          rw [← plM_succ] at hg
          simp (disch := omega) only [wp, Nat.reduceAdd, Nat.reduceMul, Nat.reduceSub, ml, h3, h4, h5, hg, ha1, hwk]
          exact ⟨a - (k + 1), by omega, k + 1, rfl, by omega, rfl, rfl, by first | omega | (dsimp only; omega)⟩
    · obtain rfl : k = N := by omega
      have hk1 : ¬ ((k : Int) < k) := by omega
      simp (disch := omega) only [wp, Nat.reduceAdd, Nat.reduceMul, Nat.reduceSub, ml, h3, h4, hg, hk1]
      exact ⟨5, rfl, hg⟩

set_option maxRecDepth 100000 in
set_option maxHeartbeats 4000000 in
theorem sp_mpairs (h : F 56 = some A_xref01_R_Pairs) {n : Nat} (hn : n ≤ 40) (M : Mx) (R : Rw) (hM : ∀ a b : Nat, a < n → b < n → M a b = has n R a b) : pureS F 56 [.ptr (matC n M)] = some (.sl (pairsC (pairsR n R)) (pairsR n R).length .non) := by
  refine pure_of h ?_
  simp (disch := omega) only [A_xref01_R_Pairs, wp, Nat.reduceAdd, Nat.reduceMul, Nat.reduceSub, ml]
  refine W_loop (fun m e g => ∃ k t, m = n - k ∧ k ≤ n ∧ e 0 = .ptr (matC n M) ∧ e 4 = .i .i64 k ∧ e 3 = .sl (pairsC (pairsK n k R)) (pairsK n k R).length t ∧ Live g 2 t ∧ (pairsK n k R).length ≤ 40 * k) n ?_ ?_
  · refine ⟨0, .rig, rfl, Nat.zero_le _, ?_⟩
    simp (disch := omega) only [wp, Nat.reduceAdd, Nat.reduceMul, Nat.reduceSub]
    exact ⟨rfl, rfl, .inl rfl, Nat.zero_le _⟩
  · rintro m e g ⟨k, t, rfl, hk, h0, h4, h3, ht, hl⟩
    by_cases hk' : k < n
    · have hk1 : (k : Int) < n := by omega
      have hw := succ_wrap (k := k) (by omega)
      simp (disch := omega) only [wp, Nat.reduceAdd, Nat.reduceMul, Nat.reduceSub, ml, h0, h4, h3, hk1]
      refine W_loop (fun m e g => ∃ j t, m = n - j ∧ j ≤ n ∧ e 0 = .ptr (matC n M) ∧ e 4 = .i .i64 k ∧ e 5 = .i .i64 j ∧ e 3 = .sl (pairsC (partL n k j R)) (partL n k j R).length t ∧ Live g 2 t ∧ (partL n k j R).length ≤ 40 * k + j) n ?_ ?_
      · refine ⟨0, t, rfl, Nat.zero_le _, ?_⟩
        simp (disch := omega) only [wp, Nat.reduceAdd, Nat.reduceMul, Nat.reduceSub, h0, h4, h3]
        rw [partL_0]
        refine ⟨rfl, rfl, ?_, by omega⟩
        rcases ht with rfl | ⟨τ, rfl, hτ, hlt⟩
        · exact .inl rfl
        · exact .inr ⟨τ, rfl, hτ, Nat.lt_of_lt_of_le hlt (by dsimp only; omega)⟩
      · rintro m e g ⟨j, t, rfl, hj, h0, h4, h5, h3, ht, hl⟩
        have hLn := partL_succ n k j R
        by_cases hj' : j < n
        · have hj1 : (j : Int) < n := by omega
          have hwj := succ_wrap (k := j) (by omega)
          have hMh := hM k j hk' hj'
          by_cases hh : has n R k j = true
          · rw [if_pos hh] at hLn
            rw [hh] at hMh
            rcases ht with rfl | ⟨τ, rfl, hτ, hlt⟩
            · simp (disch := omega) only [wp, Nat.reduceAdd, Nat.reduceMul, Nat.reduceSub, ml, h0, h4, h5, h3, hj1, hMh, hwj, pairsC_len]
              refine ⟨n - (j + 1), ?_, j + 1, ?_⟩
              · omega
              · rw [hLn, pairsC_app, pairsC_one, List.length_append]
                exact ⟨_, rfl, by omega, rfl, rfl, .inr ⟨_, rfl, upd_same _ _ _, by dsimp only; omega⟩, by simp; omega⟩
            · simp (disch := omega) only [wp, Nat.reduceAdd, Nat.reduceMul, Nat.reduceSub, ml, h0, h4, h5, h3, hj1, hMh, hwj, pairsC_len, hτ]
              refine ⟨n - (j + 1), ?_, j + 1, ?_⟩
              · omega
              · rw [hLn, pairsC_app, pairsC_one, List.length_append]
                exact ⟨_, rfl, by omega, rfl, rfl, .inr ⟨_, rfl, upd_same _ _ _, by dsimp only; omega⟩, by simp; omega⟩
          · rw [if_neg hh] at hLn
            rw [Bool.not_eq_true] at hh
            rw [hh] at hMh
            simp (disch := omega) only [wp, Nat.reduceAdd, Nat.reduceMul, Nat.reduceSub, ml, h0, h4, h5, h3, hj1, hMh, hwj]
            refine ⟨_, ?_, j + 1, t, rfl, by omega, rfl, ?_⟩
            · omega
            · rw [hLn]
              refine ⟨rfl, ?_, by omega⟩
              rcases ht with rfl | ⟨τ, rfl, hτ, hlt⟩
              · exact .inl rfl
              · exact .inr ⟨τ, rfl, hτ, Nat.lt_of_lt_of_le hlt (by dsimp only; omega)⟩
        · obtain rfl : j = n := by omega
          have hj1 : ¬ ((j : Int) < j) := by omega
          simp (disch := omega) only [wp, Nat.reduceAdd, Nat.reduceMul, Nat.reduceSub, ml, h0, h4, h5, h3, hj1, hw]
          refine ⟨_, ?_, k + 1, t, rfl, by omega, rfl, ?_⟩
          · omega
          · rw [← partL_n]
            refine ⟨rfl, ?_, by omega⟩
            rcases ht with rfl | ⟨τ, rfl, hτ, hlt⟩
            · exact .inl rfl
            · exact .inr ⟨τ, rfl, hτ, Nat.lt_of_lt_of_le hlt (by dsimp only; omega)⟩
    · obtain rfl : k = n := by omega
      have hk1 : ¬ ((k : Int) < k) := by omega
      simp (disch := omega) only [wp, Nat.reduceAdd, Nat.reduceMul, Nat.reduceSub, ml, h0, h4, h3, hk1]
      rfl

set_option maxRecDepth 100000 in
set_option maxHeartbeats 4000000 in
theorem sp_samePairs (h : F 55 = some A_xref01_SamePairs) (l : List (Int × Int)) (hl : l.length < 9000000000000000000) (t t' : Tok) : pureS F 55 [.sl (pairsC l) l.length t, .sl (pairsC l) l.length t'] = some (.b true) := by
  refine pure_of h ?_
  simp (disch := omega) only [A_xref01_SamePairs, wp, Nat.reduceAdd, Nat.reduceMul, Nat.reduceSub, bne_self_eq_false]
  refine W_loop (fun m e g => ∃ k, m = l.length - k ∧ k ≤ l.length ∧ e 0 = .sl (pairsC l) l.length t ∧ e 1 = .sl (pairsC l) l.length t' ∧ e 5 = .i .i64 k) l.length ?_ ?_
  · refine ⟨0, rfl, Nat.zero_le _, ?_⟩
    simp (disch := omega) only [wp, Nat.reduceAdd, Nat.reduceMul, Nat.reduceSub]
    rfl
  · rintro m e g ⟨k, rfl, hk, h0, h1, h5⟩
    by_cases hk' : k < l.length
    · have hk1 : (k : Int) < l.length := by omega
      have hw := succ_wrap (k := k) (by omega)
      have hpa := pairs_a hk'
      have hpb := pairs_b hk'
      simp (disch := omega) only [wp, Nat.reduceAdd, Nat.reduceMul, Nat.reduceSub, h0, h1, h5, hk1, hpa, hpb, List.length_drop, pairsC_len, bne_self_eq_false, hw]
      exact ⟨l.length - (k + 1), by omega, k + 1, rfl, by omega, rfl⟩
    · obtain rfl : k = l.length := by omega
      have hk1 : ¬ ((l.length : Int) < l.length) := by omega
      simp (disch := omega) only [wp, Nat.reduceAdd, Nat.reduceMul, Nat.reduceSub, h0, h1, h5, hk1]

def hasM (n : Nat) (M : Mx) (a b : Int) : Bool := decide (0 ≤ a ∧ a < n ∧ 0 ≤ b ∧ b < n) && M a.toNat b.toNat
set_option maxRecDepth 100000 in
theorem sp_mhas (h : F 38 = some A_xref01_R_Has) {n : Nat} (hn : n ≤ 40) (M : Mx) (a b : Int) : pureS F 38 [.ptr (matC n M), .i .i64 a, .i .i64 b] = some (.b (hasM n M a b)) := by
  refine pure_of h ?_
  by_cases h1 : 0 ≤ a
  · by_cases h2 : 0 ≤ b
    · by_cases h3 : a < n
      · by_cases h4 : b < n
        · have hat := matR_at (M := M) (a := a.toNat) (b := b.toNat) (by omega)
          simp (disch := omega) only [A_xref01_R_Has, wp, Nat.reduceAdd, Nat.reduceMul, Nat.reduceSub, ml, h1, h2, h3, h4, hat]
          simp [hasM, h1, h2, h3, h4]
        · simp (disch := omega) only [A_xref01_R_Has, wp, Nat.reduceAdd, Nat.reduceMul, Nat.reduceSub, ml, h1, h2, h3, h4]
          simp [hasM, h4]
      · simp (disch := omega) only [A_xref01_R_Has, wp, Nat.reduceAdd, Nat.reduceMul, Nat.reduceSub, ml, h1, h2, h3]
        simp [hasM, h3]
    · simp (disch := omega) only [A_xref01_R_Has, wp, Nat.reduceAdd, Nat.reduceMul, Nat.reduceSub, ml, h1, h2]
      simp [hasM, h2]
  · simp (disch := omega) only [A_xref01_R_Has, wp, Nat.reduceAdd, Nat.reduceMul, Nat.reduceSub, ml, h1]
    simp [hasM, h1]

set_option maxRecDepth 100000 in
set_option maxHeartbeats 1000000 in
theorem sp_mloops (h : F 37 = some A_xref01_R_Loops) (h34 : F 34 = some A_xref01_R_Plus) (h27 : F 27 = some A_xref01_New) {n : Nat} (hn : n ≤ 40) (M : Mx) : pureS F 37 [.ptr (matC n M)] = some (.b ((List.range n).any fun a => plM n M n a a)) := by
  refine pure_of h ?_
  simp (disch := omega) only [A_xref01_R_Loops, wp, Nat.reduceAdd, Nat.reduceMul, Nat.reduceSub, ml, sp_mplus h34 h27 hn]
  generalize plM n M n = T
  refine W_loop (fun m e g => ∃ k, m = n - k ∧ k ≤ n ∧ e 3 = .ptr (matC n T) ∧ e 4 = .i .i64 k ∧ ∀ a, a < k → T a a = false) n ?_ ?_
  · refine ⟨0, rfl, Nat.zero_le _, ?_⟩
    simp (disch := omega) only [wp, Nat.reduceAdd, Nat.reduceMul, Nat.reduceSub]
    exact ⟨rfl, fun a ha => absurd ha (Nat.not_lt_zero _)⟩
  · rintro m e g ⟨k, rfl, hk, h3, h4, hall⟩
    by_cases hk' : k < n
    · have hk1 : (k : Int) < n := by omega
      have hw := succ_wrap (k := k) (by omega)
      cases hh : T k k with
      | true =>
        simp (disch := omega) only [wp, Nat.reduceAdd, Nat.reduceMul, Nat.reduceSub, ml, h3, h4, hk1, hw, hh]
        have : (List.range n).any (fun a => T a a) = true := List.any_eq_true.2 ⟨k, List.mem_range.2 hk', hh⟩
        rw [this]
      | false =>
        simp (disch := omega) only [wp, Nat.reduceAdd, Nat.reduceMul, Nat.reduceSub, ml, h3, h4, hk1, hw, hh]
        refine ⟨n - (k + 1), by omega, k + 1, rfl, by omega, rfl, fun a ha => ?_⟩
        by_cases hak : a = k
        · subst hak; exact hh
        · exact hall a (by omega)
    · obtain rfl : k = n := by omega
      have hk1 : ¬ ((k : Int) < k) := by omega
      simp (disch := omega) only [wp, Nat.reduceAdd, Nat.reduceMul, Nat.reduceSub, ml, h3, h4, hk1]
      have : (List.range k).any (fun a => T a a) = false := List.any_eq_false.2 fun a ha => by rw [hall a (List.mem_range.1 ha)]; simp
      rw [this]
end Go.Ab
end
section
/- exegesislaw01.RelAll: the law holds of what the functions compute; the walk. -/
set_option linter.unusedVariables false
set_option linter.unusedSimpArgs false
namespace Go.Ab
variable {F : Funs}
/-- The matrix has the relation's pairs. -/
def Eqv (A : Mx) (R : Rw) : Prop := ∀ a b, A a b = hb R a b
theorem upd2_get (M : Mx) (a b : Nat) (x : Bool) (i j : Nat) : upd2 M a b x i j = if i = a ∧ j = b then x else M i j := rfl
theorem eqv_new {n : Nat} (hn : n ≤ 40) (l : List (Int × Int)) : Eqv (newM n l) (newR n l) := by
  have key : ∀ (l : List (Int × Int)) (M : Mx) (R : Rw), Eqv M R → Eqv (l.foldl (addM n) M) (l.foldl (addR n) R) := by
    intro l
    induction l with
    | nil => intro M R h; exact h
    | cons p l ih =>
      intro M R h
      refine ih _ _ fun a b => ?_
      rw [hb_add hn]
      unfold addM
      by_cases hi : inR n p = true
      · rw [if_pos hi, upd2_get, hi]
        have hi' := hi
        simp only [inR, decide_eq_true_eq] at hi'
        by_cases h2 : a = p.1.toNat ∧ b = p.2.toNat
        · rw [if_pos h2]
          have : p = ((a : Int), (b : Int)) := by
            obtain ⟨x, y⟩ := p
            simp only at h2 hi'
            simp only [Prod.mk.injEq]; omega
          simp [this]
        · rw [if_neg h2, h a b]
          have : ¬ p = ((a : Int), (b : Int)) := by
            rintro rfl
            exact h2 ⟨by simp, by simp⟩
          simp [this]
      · rw [if_neg hi, h a b]
        simp only [Bool.not_eq_true] at hi
        simp [hi]
  exact key l _ _ fun a b => by rw [hb_zero]
/-- What 'same' asks. -/
def Same (n : Nat) (M : Mx) (R : Rw) : Prop := ∀ a b : Nat, a < n → b < n → M a b = has n R a b
theorem same_of {n : Nat} {M : Mx} {R : Rw} (h : ∀ a b, a < n → b < n → M a b = hb R a b) : Same n M R := fun a b ha hb' => by
  rw [h a b ha hb', has_N]
  simp [hN, ha, hb']
theorem opM_get (φ : Bool → Bool → Bool) (A B : Mx) (N a b : Nat) (ha : a < N) (hb' : b < N) : opM φ A B N a b = φ (A a b) (B a b) := by
  unfold opM stM; rw [if_pos (.inl ⟨ha, hb'⟩)]
theorem mback_get (A : Mx) (N a b : Nat) (ha : a < N) (hb' : b < N) : bkM A N N 0 a b = A b a := by
  unfold bkM; rw [if_pos (.inl ⟨hb', ha⟩)]
theorem t3M_get (A B : Mx) (N a k : Nat) (T : Mx) (i j : Nat) (hj : j < N) : t3M A B N a k T i j = (T i j || (decide (i = a) && (List.range k).any fun c => A a c && B c j)) := by
  induction k with
  | zero => simp [t3M]
  | succ k ih =>
    rw [t3M_succ, t2M, List.range_succ, List.any_append]
    cases hA : A a k with
    | true =>
      rw [if_pos rfl]
      unfold t1M
      by_cases hi : i = a
      · subst hi
        rw [if_pos ⟨rfl, hj⟩, ih]
        simp [hA, Bool.or_assoc]
      · rw [if_neg (fun h => hi h.1), ih]
        simp [hi]
    | false =>
      rw [if_neg (by simp), ih]
      simp [hA]
theorem thM_get (A B : Mx) (N k : Nat) (i j : Nat) (hj : j < N) : thM A B N k i j = (decide (i < k) && (List.range N).any fun c => A i c && B c j) := by
  induction k with
  | zero => simp [thM]
  | succ k ih =>
    rw [thM_succ, t3M_get _ _ _ _ _ _ _ _ hj, ih]
    by_cases hi : i = k
    · subst hi; simp
    · have : decide (i < k) = decide (i < k + 1) := by rw [decide_eq_decide]; omega
      rw [this]; simp [hi]
theorem p3M_get (N k m : Nat) (T : Mx) (i j : Nat) (hj : j < N) (hk : k < N) : p3M N k m T i j = (T i j || (decide (i < m) && T i k && T k j)) := by
  have key : ∀ m i j, p3M N k m T i j = (T i j || (decide (i < m) && decide (j < N) && T i k && T k j)) := by
    intro m
    induction m with
    | zero => intro i j; simp [p3M]
    | succ m ih =>
      intro i j
      rw [p3M_succ, p2M]
      have hmk : p3M N k m T m k = T m k := by rw [ih]; simp
      have hkj : ∀ j, p3M N k m T k j = T k j := fun j => by
        rw [ih]
        cases T k j <;> simp
      rw [hmk]
      cases hc : T m k with
      | true =>
        rw [if_pos rfl]
        unfold p1M
        by_cases hi : i = m
        · subst hi
          by_cases hjN : j < N
          · rw [if_pos ⟨rfl, hjN⟩, ih, hkj]
            simp [hjN, hc]
          · rw [if_neg (by omega), ih]
            simp [hjN]
        · rw [if_neg (fun h => hi h.1), ih]
          have : decide (i < m) = decide (i < m + 1) := by rw [decide_eq_decide]; omega
          rw [this]
      | false =>
        rw [if_neg (by simp), ih]
        by_cases hi : i = m
        · subst hi; simp [hc]
        · have : decide (i < m) = decide (i < m + 1) := by rw [decide_eq_decide]; omega
          rw [this]
  rw [key]; simp [hj]
theorem plM_get {N : Nat} {A : Mx} {R : Rw} (h : Eqv A R) (hR : Wf N R) : ∀ k, k ≤ N → ∀ i j, i < N → j < N → plM N A k i j = hb (plusK N k R) i j
  | 0, _, i, j, _, _ => h i j
  | k + 1, hk, i, j, hi, hj => by
    have ih := plM_get h hR k (by omega)
    rw [plM_succ, p3M_get _ _ _ _ _ _ hj (by omega), plusK_succ, hb_rowP (by omega) _ (wf_plusK hR k (by omega)) N (Nat.le_refl _), ih i j hi hj, ih i k hi (by omega), ih k j (by omega) hj]
theorem Wf.mono {n m : Nat} (h : n ≤ m) {R : Rw} (hR : Wf n R) : Wf m R := fun a b hh => by obtain ⟨h1, h2⟩ := hR a b hh; omega

set_option maxRecDepth 100000 in
theorem sp_same (h : F 28 = some A_xlaw01_same) (h55 : F 55 = some A_xref01_SamePairs) (h56 : F 56 = some A_xref01_R_Pairs) (pr : Pk_rel F) {n : Nat} (hn : n ≤ 40) {M : Mx} {R : Rw} (hM : Same n M R) : pureS F 28 [.ptr (relC n R), .ptr (matC n M)] = some (.b true) := by
  refine pure_of h ?_
  have hl := pairsR_len hn R
  simp (disch := omega) only [A_xlaw01_same, wp, Nat.reduceAdd, Nat.reduceMul, Nat.reduceSub, ml, sp_len pr, sp_pairs pr hn, sp_mpairs h56 hn M R hM, sp_samePairs h55]
set_option maxRecDepth 100000 in
theorem sp_min (h : F 36 = some A_xref01_R_In) (h31 : F 31 = some A_xref01_R_Less) (h27 : F 27 = some A_xref01_New) (h56 : F 56 = some A_xref01_R_Pairs) {n m : Nat} (hn : n ≤ 40) (hm : m ≤ 40) {A B : Mx} {R S : Rw} (hA : Eqv A R) (hB : Eqv B S) (hR : Wf n R) : pureS F 36 [.ptr (matC n A), .ptr (matC m B)] = some (.b (noneR (lessR R S))) := by
  refine pure_of h ?_
  have hs : Same (max n m) (opM (fun x y => x && !y) A B (max n m)) (lessR R S) := same_of fun a b ha hb' => by rw [opM_get _ _ _ _ _ _ ha hb', hA, hB, hb_less]
  have hw : Wf (max n m) (lessR R S) := wf_less (hR.mono (by omega))
  have e : (((pairsR (max n m) (lessR R S)).length : Int) == 0) = noneR (lessR R S) := by
    cases hc : noneR (lessR R S) with
    | true => exact pairs_none ((noneR_iff (n := max n m) (by omega) hw).1 hc)
    | false =>
      rw [Bool.eq_false_iff, ne_eq, beq_iff_eq]
      intro h0
      have h0 : (pairsR (max n m) (lessR R S)).length = 0 := by omega
      have hnil := List.eq_nil_of_length_eq_zero h0
      have : noneR (lessR R S) = true := (noneR_iff (n := max n m) (by omega) hw).2 fun a b => by
        cases hab : hb (lessR R S) a b with
        | false => rfl
        | true =>
          have : ((a : Int), (b : Int)) ∈ pairsR (max n m) (lessR R S) := mem_pairsR.2 ⟨a, b, rfl, by rw [hN_wf hw]; exact hab⟩
          rw [hnil] at this; cases this
      rw [hc] at this; cases this
  simp (disch := omega) only [A_xref01_R_In, wp, Nat.reduceAdd, Nat.reduceMul, Nat.reduceSub, sp_mless h31 h27 hn hm, sp_mpairs h56 (show max n m ≤ 40 by omega) _ _ hs, e]

def appT (m id esz : Nat) : Tok := if m = 0 then .rig else .own id esz
def appG (m id : Nat) (g : G) : G := if m = 0 then g else ⟨upd g.hp id (some (.tok true)), g.nx⟩
theorem vApp_copy {al : Nat → Bool} {id : Nat} {g : G} (l : List (Int × Int)) (t : Tok) (hl : l.length ≤ 200) : vApp al id 2 16 (.sl [] 0 .rig) (.sl (pairsC l) l.length t) g = some (.sl (pairsC l) l.length (appT l.length id 2), appG l.length id g) := by
  have hp := pairsC_len l
  unfold appT appG
  by_cases h0 : l.length = 0
  · rw [if_pos h0, if_pos h0]
    have : l = [] := List.eq_nil_of_length_eq_zero h0
    subst this
    have := vApp_rig0 (al := al) (g := g) (id := id) (esz := 2) (bytes := 16) (cs := []) (n := 0) (ds := []) (t2 := t)
    rw [appD_ok (by decide)] at this
    exact this
  · rw [if_neg h0, if_neg h0, vApp_rig h0, appD_ok (by
      refine ⟨by omega, by omega, by simp, hp⟩)]
    simp
end Go.Ab
end
