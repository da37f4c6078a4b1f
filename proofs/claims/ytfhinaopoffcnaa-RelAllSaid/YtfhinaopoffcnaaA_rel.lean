/- Resolved functions of package rel, written by a program (res.py). -/
import Derived.Test.YtfhinaopoffcnaaAb
namespace Go.Ab
def A_rel_New : AFun := { res := [.t 4], body := (.seq (.reg false [{ dst := some 4, op := .mv (.c (.nilp)) }])
 (.seq (.reg false [{ dst := some 8, op := .mv (.t 0) },
  { dst := some 9, op := .mn (.t 8) (.c (.i .i64 40)) },
  { dst := some 10, op := .mx (.c (.i .i64 0)) (.t 9) },
  { dst := some 11, op := .build ([.i .i64 0] ++ List.replicate 40 (.i .u64 0)) [(0, 1, .t 10)] },
  { dst := some 12, op := .box (.t 11) },
  { dst := some 5, op := .mv (.t 12) }])
 (.seq (.seq (.reg false [{ dst := some 13, op := .mv (.t 1) },
  { dst := some 14, op := .len (.t 13) },
  { dst := some 15, op := .mv (.c (.i .i64 0)) }])
 (.blk 0 (.loop (.seq (.reg false [{ dst := some 16, op := .bin .lss (.t 15) (.t 14) }])
 (.seq (.cond (.t 16) .skip
 (.ext 0))
 (.seq (.blk 1 (.seq (.reg false [{ dst := some 17, op := .ia 2 (.t 13) (.t 15) },
  { dst := some 18, op := .ld (some 2) (.t 17) },
  { dst := some 7, op := .new ([.i .i64 0, .i .i64 0]) },
  { dst := none, op := .st 2 (.t 7) (.t 18) }])
 (.seq (.reg true [{ dst := some 19, op := .fa 0 (.t 7) },
  { dst := some 20, op := .ld none (.t 19), pre := [] },
  { dst := some 21, op := .bin .geq (.t 20) (.c (.i .i64 0)) },
  { dst := some 22, op := .mv (.t 21) },
  { dst := some 23, op := .fa 0 (.t 7), grd := some (22, true) },
  { dst := some 24, op := .ld none (.t 23), grd := some (22, true), pre := [] },
  { dst := some 25, op := .mv (.t 5), grd := some (22, true) },
  { dst := some 26, op := .nilck (.t 25), grd := some (22, true) },
  { dst := some 27, op := .fa 0 (.t 26), grd := some (22, true) },
  { dst := some 28, op := .ld none (.t 27), grd := some (22, true), pre := [] },
  { dst := some 29, op := .bin .lss (.t 24) (.t 28), grd := some (22, true) },
  { dst := some 30, op := .pick (.t 22) (.t 29) (.c (.b false)) },
  { dst := some 31, op := .mv (.t 30) },
  { dst := some 32, op := .fa 1 (.t 7), grd := some (31, true) },
  { dst := some 33, op := .ld none (.t 32), grd := some (31, true), pre := [] },
  { dst := some 34, op := .bin .geq (.t 33) (.c (.i .i64 0)), grd := some (31, true) },
  { dst := some 35, op := .pick (.t 31) (.t 34) (.c (.b false)) },
  { dst := some 36, op := .mv (.t 35) },
  { dst := some 37, op := .fa 1 (.t 7), grd := some (36, true) },
  { dst := some 38, op := .ld none (.t 37), grd := some (36, true), pre := [] },
  { dst := some 39, op := .mv (.t 5), grd := some (36, true) },
  { dst := some 40, op := .nilck (.t 39), grd := some (36, true) },
  { dst := some 41, op := .fa 0 (.t 40), grd := some (36, true) },
  { dst := some 42, op := .ld none (.t 41), grd := some (36, true), pre := [] },
  { dst := some 43, op := .bin .lss (.t 38) (.t 42), grd := some (36, true) },
  { dst := some 44, op := .pick (.t 36) (.t 43) (.c (.b false)) }])
 (.cond (.t 44) (.reg true [{ dst := some 45, op := .mv (.t 5) },
  { dst := some 46, op := .fa 0 (.t 7) },
  { dst := some 47, op := .ld none (.t 46), pre := [] },
  { dst := some 48, op := .nilck (.t 45) },
  { dst := some 49, op := .fa 1 (.t 48) },
  { dst := some 50, op := .iaa 40 1 (.t 49) (.t 47) },
  { dst := some 51, op := .ld none (.t 50), pre := [] },
  { dst := some 52, op := .fa 1 (.t 7) },
  { dst := some 53, op := .ld none (.t 52), pre := [] },
  { dst := some 54, op := .bin .shl (.c (.i .u64 1)) (.t 53) },
  { dst := some 55, op := .bin .or (.t 51) (.t 54) },
  { dst := some 56, op := .nilck (.t 45) },
  { dst := some 57, op := .fa 1 (.t 56) },
  { dst := some 58, op := .iaa 40 1 (.t 57) (.t 47) },
  { dst := none, op := .st 1 (.t 58) (.t 55), pre := [] }])
 .skip))))
 (.reg false [{ dst := some 59, op := .bin .add (.t 15) (.c (.i .i64 1)) },
  { dst := some 15, op := .mv (.t 59) }])))))))
 (.seq (.reg false [{ dst := some 60, op := .mv (.t 5) },
  { dst := some 4, op := .mv (.t 60) }])
 .ret)))) }
def A_rel_Rel_Plus : AFun := { res := [.t 2], body := (.seq (.reg false [{ dst := some 2, op := .mv (.c (.nilp)) }])
 (.seq (.reg false [{ dst := some 6, op := .mv (.t 0) },
  { dst := some 7, op := .nilck (.t 6) },
  { dst := some 8, op := .ld (some 41) (.t 7) },
  { dst := some 3, op := .new ([.i .i64 0] ++ List.replicate 40 (.i .u64 0)) },
  { dst := none, op := .st 41 (.t 3) (.t 8) }])
 (.seq (.seq (.reg false [{ dst := some 9, op := .mv (.t 0) },
  { dst := some 10, op := .nilck (.t 9) },
  { dst := some 11, op := .fa 0 (.t 10) },
  { dst := some 12, op := .ld none (.t 11) },
  { dst := some 13, op := .mv (.c (.i .i64 0)) }])
 (.blk 0 (.loop (.seq (.reg false [{ dst := some 14, op := .bin .lss (.t 13) (.t 12) }])
 (.seq (.cond (.t 14) .skip
 (.ext 0))
 (.seq (.blk 1 (.seq (.reg false [{ dst := some 15, op := .mv (.t 13) },
  { dst := some 4, op := .mv (.t 15) }])
 (.seq (.reg false [{ dst := some 16, op := .mv (.t 0) },
  { dst := some 17, op := .nilck (.t 16) },
  { dst := some 18, op := .fa 0 (.t 17) },
  { dst := some 19, op := .ld none (.t 18) },
  { dst := some 20, op := .mv (.c (.i .i64 0)) }])
 (.blk 2 (.loop (.seq (.reg false [{ dst := some 21, op := .bin .lss (.t 20) (.t 19) }])
 (.seq (.cond (.t 21) .skip
 (.ext 2))
 (.seq (.blk 3 (.seq (.reg false [{ dst := some 22, op := .mv (.t 20) },
  { dst := some 5, op := .mv (.t 22) }])
 (.seq (.reg false [{ dst := some 23, op := .mv (.t 5) },
  { dst := some 24, op := .mv (.t 4) },
  { dst := some 25, op := .call .pure (.c (.fn 13 [] [])) [.t 3, .t 23, .t 24] }])
 (.cond (.t 25) (.reg true [{ dst := some 26, op := .mv (.t 5) },
  { dst := some 27, op := .fa 1 (.t 3) },
  { dst := some 28, op := .iaa 40 1 (.t 27) (.t 26) },
  { dst := some 29, op := .ld none (.t 28), pre := [] },
  { dst := some 30, op := .mv (.t 4) },
  { dst := some 31, op := .fa 1 (.t 3) },
  { dst := some 32, op := .iaa 40 1 (.t 31) (.t 30) },
  { dst := some 33, op := .ld none (.t 32), pre := [] },
  { dst := some 34, op := .bin .or (.t 29) (.t 33) },
  { dst := some 35, op := .fa 1 (.t 3) },
  { dst := some 36, op := .iaa 40 1 (.t 35) (.t 26) },
  { dst := none, op := .st 1 (.t 36) (.t 34), pre := [] }])
 .skip))))
 (.reg false [{ dst := some 37, op := .bin .add (.t 20) (.c (.i .i64 1)) },
  { dst := some 20, op := .mv (.t 37) }])))))))))
 (.reg false [{ dst := some 38, op := .bin .add (.t 13) (.c (.i .i64 1)) },
  { dst := some 13, op := .mv (.t 38) }])))))))
 (.seq (.reg false [{ dst := some 2, op := .mv (.t 3) }])
 .ret)))) }
def A_rel_Rel_Has : AFun := { res := [.t 6], body := (.seq (.reg false [{ dst := some 6, op := .mv (.c (.b false)) }])
 (.seq (.reg false [{ dst := some 7, op := .mv (.t 1) },
  { dst := some 8, op := .bin .geq (.t 7) (.c (.i .i64 0)) },
  { dst := some 9, op := .mv (.t 8) },
  { dst := some 10, op := .mv (.t 1), grd := some (9, true) },
  { dst := some 11, op := .mv (.t 0), grd := some (9, true) },
  { dst := some 12, op := .nilck (.t 11), grd := some (9, true) },
  { dst := some 13, op := .fa 0 (.t 12), grd := some (9, true) },
  { dst := some 14, op := .ld none (.t 13), grd := some (9, true) },
  { dst := some 15, op := .bin .lss (.t 10) (.t 14), grd := some (9, true) },
  { dst := some 16, op := .pick (.t 9) (.t 15) (.c (.b false)) },
  { dst := some 17, op := .mv (.t 16) },
  { dst := some 18, op := .mv (.t 2), grd := some (17, true) },
  { dst := some 19, op := .bin .geq (.t 18) (.c (.i .i64 0)), grd := some (17, true) },
  { dst := some 20, op := .pick (.t 17) (.t 19) (.c (.b false)) },
  { dst := some 21, op := .mv (.t 20) },
  { dst := some 22, op := .mv (.t 2), grd := some (21, true) },
  { dst := some 23, op := .mv (.t 0), grd := some (21, true) },
  { dst := some 24, op := .nilck (.t 23), grd := some (21, true) },
  { dst := some 25, op := .fa 0 (.t 24), grd := some (21, true) },
  { dst := some 26, op := .ld none (.t 25), grd := some (21, true) },
  { dst := some 27, op := .bin .lss (.t 22) (.t 26), grd := some (21, true) },
  { dst := some 28, op := .pick (.t 21) (.t 27) (.c (.b false)) },
  { dst := some 29, op := .mv (.t 28) },
  { dst := some 30, op := .mv (.t 0), grd := some (29, true) },
  { dst := some 31, op := .mv (.t 1), grd := some (29, true) },
  { dst := some 32, op := .nilck (.t 30), grd := some (29, true) },
  { dst := some 33, op := .fa 1 (.t 32), grd := some (29, true) },
  { dst := some 34, op := .iaa 40 1 (.t 33) (.t 31), grd := some (29, true) },
  { dst := some 35, op := .ld none (.t 34), grd := some (29, true) },
  { dst := some 36, op := .mv (.t 2), grd := some (29, true) },
  { dst := some 37, op := .bin .shr (.t 35) (.t 36), grd := some (29, true) },
  { dst := some 38, op := .bin .and (.t 37) (.c (.i .u64 1)), grd := some (29, true) },
  { dst := some 39, op := .bin .neq (.t 38) (.c (.i .u64 0)), grd := some (29, true) },
  { dst := some 40, op := .pick (.t 29) (.t 39) (.c (.b false)) },
  { dst := some 6, op := .mv (.t 40) }])
 .ret)) }
def A_rel_Rel_Loops : AFun := { res := [.t 2], body := (.seq (.reg false [{ dst := some 2, op := .mv (.c (.b false)) }])
 (.seq (.reg false [{ dst := some 5, op := .mv (.t 0) },
  { dst := some 6, op := .call .pure (.c (.fn 12 [] [])) [.t 5] },
  { dst := some 3, op := .mv (.t 6) }])
 (.seq (.seq (.reg false [{ dst := some 7, op := .mv (.t 0) },
  { dst := some 8, op := .nilck (.t 7) },
  { dst := some 9, op := .fa 0 (.t 8) },
  { dst := some 10, op := .ld none (.t 9) },
  { dst := some 11, op := .mv (.c (.i .i64 0)) }])
 (.blk 0 (.loop (.seq (.reg false [{ dst := some 12, op := .bin .lss (.t 11) (.t 10) }])
 (.seq (.cond (.t 12) .skip
 (.ext 0))
 (.seq (.blk 1 (.seq (.reg false [{ dst := some 13, op := .mv (.t 11) },
  { dst := some 4, op := .mv (.t 13) }])
 (.seq (.reg false [{ dst := some 14, op := .mv (.t 3) },
  { dst := some 15, op := .mv (.t 4) },
  { dst := some 16, op := .mv (.t 4) },
  { dst := some 17, op := .call .pure (.c (.fn 13 [] [])) [.t 14, .t 15, .t 16] }])
 (.cond (.t 17) (.seq (.reg false [{ dst := some 2, op := .mv (.c (.b true)) }])
 .ret)
 .skip))))
 (.reg false [{ dst := some 18, op := .bin .add (.t 11) (.c (.i .i64 1)) },
  { dst := some 11, op := .mv (.t 18) }])))))))
 (.seq (.reg false [{ dst := some 2, op := .mv (.c (.b false)) }])
 .ret)))) }
def A_rel_Rel_Pairs : AFun := { res := [.t 2], body := (.seq (.reg false [{ dst := some 2, op := .mv (.c (.sl [] 0 .rig)) }])
 (.seq (.reg false [{ dst := some 3, op := .mv (.c (.sl [] 0 .rig)) }])
 (.seq (.seq (.reg false [{ dst := some 6, op := .mv (.t 0) },
  { dst := some 7, op := .nilck (.t 6) },
  { dst := some 8, op := .fa 0 (.t 7) },
  { dst := some 9, op := .ld none (.t 8) },
  { dst := some 10, op := .mv (.c (.i .i64 0)) }])
 (.blk 0 (.loop (.seq (.reg false [{ dst := some 11, op := .bin .lss (.t 10) (.t 9) }])
 (.seq (.cond (.t 11) .skip
 (.ext 0))
 (.seq (.blk 1 (.seq (.reg false [{ dst := some 12, op := .mv (.t 10) },
  { dst := some 4, op := .mv (.t 12) }])
 (.seq (.reg false [{ dst := some 13, op := .mv (.t 0) },
  { dst := some 14, op := .nilck (.t 13) },
  { dst := some 15, op := .fa 0 (.t 14) },
  { dst := some 16, op := .ld none (.t 15) },
  { dst := some 17, op := .mv (.c (.i .i64 0)) }])
 (.blk 2 (.loop (.seq (.reg false [{ dst := some 18, op := .bin .lss (.t 17) (.t 16) }])
 (.seq (.cond (.t 18) .skip
 (.ext 2))
 (.seq (.blk 3 (.seq (.reg false [{ dst := some 19, op := .mv (.t 17) },
  { dst := some 5, op := .mv (.t 19) }])
 (.seq (.reg false [{ dst := some 20, op := .mv (.t 0) },
  { dst := some 21, op := .mv (.t 4) },
  { dst := some 22, op := .mv (.t 5) },
  { dst := some 23, op := .call .pure (.c (.fn 13 [] [])) [.t 20, .t 21, .t 22] }])
 (.cond (.t 23) (.reg false [{ dst := some 24, op := .mv (.t 3) },
  { dst := some 25, op := .mv (.t 4) },
  { dst := some 26, op := .mv (.t 5) },
  { dst := some 27, op := .build ([.i .i64 0, .i .i64 0]) [(0, 1, .t 25), (1, 1, .t 26)] },
  { dst := some 28, op := .bsl true 1 ([.i .i64 0, .i .i64 0]) [(0, 2, .t 27)] },
  { dst := some 29, op := .app 2 16 (.t 24) (.t 28) },
  { dst := some 3, op := .mv (.t 29) }])
 .skip))))
 (.reg false [{ dst := some 30, op := .bin .add (.t 17) (.c (.i .i64 1)) },
  { dst := some 17, op := .mv (.t 30) }])))))))))
 (.reg false [{ dst := some 31, op := .bin .add (.t 10) (.c (.i .i64 1)) },
  { dst := some 10, op := .mv (.t 31) }])))))))
 (.seq (.reg false [{ dst := some 32, op := .mv (.t 3) },
  { dst := some 2, op := .mv (.t 32) }])
 .ret)))) }
def A_rel_Rel_Maybe : AFun := { res := [.t 2], body := (.seq (.reg false [{ dst := some 2, op := .mv (.c (.nilp)) }])
 (.seq (.reg false [{ dst := some 5, op := .mv (.t 0) },
  { dst := some 6, op := .nilck (.t 5) },
  { dst := some 7, op := .ld (some 41) (.t 6) },
  { dst := some 3, op := .new ([.i .i64 0] ++ List.replicate 40 (.i .u64 0)) },
  { dst := none, op := .st 41 (.t 3) (.t 7) }])
 (.seq (.seq (.reg false [{ dst := some 8, op := .mv (.t 0) },
  { dst := some 9, op := .nilck (.t 8) },
  { dst := some 10, op := .fa 0 (.t 9) },
  { dst := some 11, op := .ld none (.t 10) },
  { dst := some 12, op := .mv (.c (.i .i64 0)) }])
 (.blk 0 (.loop (.seq (.reg false [{ dst := some 13, op := .bin .lss (.t 12) (.t 11) }])
 (.seq (.cond (.t 13) .skip
 (.ext 0))
 (.seq (.blk 1 (.seq (.reg false [{ dst := some 14, op := .mv (.t 12) },
  { dst := some 4, op := .mv (.t 14) }])
 (.reg true [{ dst := some 15, op := .mv (.t 4) },
  { dst := some 16, op := .fa 1 (.t 3) },
  { dst := some 17, op := .iaa 40 1 (.t 16) (.t 15) },
  { dst := some 18, op := .ld none (.t 17), pre := [] },
  { dst := some 19, op := .mv (.t 4) },
  { dst := some 20, op := .bin .shl (.c (.i .u64 1)) (.t 19) },
  { dst := some 21, op := .bin .or (.t 18) (.t 20) },
  { dst := some 22, op := .fa 1 (.t 3) },
  { dst := some 23, op := .iaa 40 1 (.t 22) (.t 15) },
  { dst := none, op := .st 1 (.t 23) (.t 21), pre := [] }])))
 (.reg false [{ dst := some 24, op := .bin .add (.t 12) (.c (.i .i64 1)) },
  { dst := some 12, op := .mv (.t 24) }])))))))
 (.seq (.reg false [{ dst := some 2, op := .mv (.t 3) }])
 .ret)))) }
def A_rel_Rel_Len : AFun := { res := [.t 2], body := (.seq (.reg false [{ dst := some 2, op := .mv (.c (.i .i64 0)) }])
 (.seq (.reg false [{ dst := some 3, op := .mv (.t 0) },
  { dst := some 4, op := .nilck (.t 3) },
  { dst := some 5, op := .fa 0 (.t 4) },
  { dst := some 6, op := .ld none (.t 5) },
  { dst := some 2, op := .mv (.t 6) }])
 .ret)) }
def A_rel_Rel_And : AFun := { res := [.t 4], body := (.seq (.reg false [{ dst := some 4, op := .mv (.c (.nilp)) }])
 (.seq (.reg false [{ dst := some 5, op := .mv (.t 0) },
  { dst := some 6, op := .mv (.t 1) },
  { dst := some 7, op := .call .pure (.c (.fn 51 [] [])) [.t 5, .t 6, .c (.fn 52 [] [])] },
  { dst := some 4, op := .mv (.t 7) }])
 .ret)) }
def A_rel_Rel_In : AFun := { res := [.t 4], body := (.seq (.reg false [{ dst := some 4, op := .mv (.c (.b false)) }])
 (.seq (.reg false [{ dst := some 5, op := .mv (.t 0) },
  { dst := some 6, op := .mv (.t 1) },
  { dst := some 7, op := .call .pure (.c (.fn 26 [] [])) [.t 5, .t 6] },
  { dst := some 8, op := .nilck (.t 7) },
  { dst := some 9, op := .fa 1 (.t 8) },
  { dst := some 10, op := .ld (some 40) (.t 9) },
  { dst := some 11, op := .build (List.replicate 40 (.i .u64 0)) [] },
  { dst := some 12, op := .eqa false (List.replicate 40 0) (.t 10) (.t 11) },
  { dst := some 4, op := .mv (.t 12) }])
 .ret)) }
def A_rel_Rel_Then : AFun := { res := [.t 4], body := (.seq (.reg false [{ dst := some 4, op := .mv (.c (.nilp)) }])
 (.seq (.reg true [{ dst := some 8, op := .mv (.t 0) },
  { dst := some 9, op := .nilck (.t 8) },
  { dst := some 10, op := .fa 0 (.t 9) },
  { dst := some 11, op := .ld none (.t 10), pre := [] },
  { dst := some 12, op := .mv (.t 1) },
  { dst := some 13, op := .nilck (.t 12) },
  { dst := some 14, op := .fa 0 (.t 13) },
  { dst := some 15, op := .ld none (.t 14), pre := [] },
  { dst := some 16, op := .mx (.t 11) (.t 15) },
  { dst := some 17, op := .build ([.i .i64 0] ++ List.replicate 40 (.i .u64 0)) [(0, 1, .t 16)] },
  { dst := some 18, op := .box (.t 17) },
  { dst := some 5, op := .mv (.t 18) }])
 (.seq (.seq (.reg false [{ dst := some 19, op := .mv (.t 0) },
  { dst := some 20, op := .nilck (.t 19) },
  { dst := some 21, op := .fa 0 (.t 20) },
  { dst := some 22, op := .ld none (.t 21) },
  { dst := some 23, op := .mv (.c (.i .i64 0)) }])
 (.blk 0 (.loop (.seq (.reg false [{ dst := some 24, op := .bin .lss (.t 23) (.t 22) }])
 (.seq (.cond (.t 24) .skip
 (.ext 0))
 (.seq (.blk 1 (.seq (.reg false [{ dst := some 25, op := .mv (.t 23) },
  { dst := some 6, op := .mv (.t 25) }])
 (.seq (.reg false [{ dst := some 26, op := .mv (.t 0) },
  { dst := some 27, op := .nilck (.t 26) },
  { dst := some 28, op := .fa 0 (.t 27) },
  { dst := some 29, op := .ld none (.t 28) },
  { dst := some 30, op := .mv (.c (.i .i64 0)) }])
 (.blk 2 (.loop (.seq (.reg false [{ dst := some 31, op := .bin .lss (.t 30) (.t 29) }])
 (.seq (.cond (.t 31) .skip
 (.ext 2))
 (.seq (.blk 3 (.seq (.reg false [{ dst := some 32, op := .mv (.t 30) },
  { dst := some 7, op := .mv (.t 32) }])
 (.seq (.reg false [{ dst := some 33, op := .mv (.t 0) },
  { dst := some 34, op := .mv (.t 6) },
  { dst := some 35, op := .mv (.t 7) },
  { dst := some 36, op := .call .pure (.c (.fn 13 [] [])) [.t 33, .t 34, .t 35] }])
 (.cond (.t 36) (.reg true [{ dst := some 37, op := .mv (.t 5) },
  { dst := some 38, op := .mv (.t 6) },
  { dst := some 39, op := .nilck (.t 37) },
  { dst := some 40, op := .fa 1 (.t 39) },
  { dst := some 41, op := .iaa 40 1 (.t 40) (.t 38) },
  { dst := some 42, op := .ld none (.t 41), pre := [] },
  { dst := some 43, op := .mv (.t 1) },
  { dst := some 44, op := .mv (.t 7) },
  { dst := some 45, op := .nilck (.t 43) },
  { dst := some 46, op := .fa 1 (.t 45) },
  { dst := some 47, op := .iaa 40 1 (.t 46) (.t 44) },
  { dst := some 48, op := .ld none (.t 47), pre := [] },
  { dst := some 49, op := .bin .or (.t 42) (.t 48) },
  { dst := some 50, op := .nilck (.t 37) },
  { dst := some 51, op := .fa 1 (.t 50) },
  { dst := some 52, op := .iaa 40 1 (.t 51) (.t 38) },
  { dst := none, op := .st 1 (.t 52) (.t 49), pre := [] }])
 .skip))))
 (.reg false [{ dst := some 53, op := .bin .add (.t 30) (.c (.i .i64 1)) },
  { dst := some 30, op := .mv (.t 53) }])))))))))
 (.reg false [{ dst := some 54, op := .bin .add (.t 23) (.c (.i .i64 1)) },
  { dst := some 23, op := .mv (.t 54) }])))))))
 (.seq (.reg false [{ dst := some 55, op := .mv (.t 5) },
  { dst := some 4, op := .mv (.t 55) }])
 .ret)))) }
def A_rel_Rel_Or : AFun := { res := [.t 4], body := (.seq (.reg false [{ dst := some 4, op := .mv (.c (.nilp)) }])
 (.seq (.reg false [{ dst := some 5, op := .mv (.t 0) },
  { dst := some 6, op := .mv (.t 1) },
  { dst := some 7, op := .call .pure (.c (.fn 51 [] [])) [.t 5, .t 6, .c (.fn 53 [] [])] },
  { dst := some 4, op := .mv (.t 7) }])
 .ret)) }
def A_rel_Rel_Back : AFun := { res := [.t 2], body := (.seq (.reg false [{ dst := some 2, op := .mv (.c (.nilp)) }])
 (.seq (.reg false [{ dst := some 6, op := .mv (.t 0) },
  { dst := some 7, op := .nilck (.t 6) },
  { dst := some 8, op := .fa 0 (.t 7) },
  { dst := some 9, op := .ld none (.t 8) },
  { dst := some 10, op := .build ([.i .i64 0] ++ List.replicate 40 (.i .u64 0)) [(0, 1, .t 9)] },
  { dst := some 11, op := .box (.t 10) },
  { dst := some 3, op := .mv (.t 11) }])
 (.seq (.seq (.reg false [{ dst := some 12, op := .mv (.t 0) },
  { dst := some 13, op := .call .pure (.c (.fn 15 [] [])) [.t 12] },
  { dst := some 14, op := .len (.t 13) },
  { dst := some 15, op := .mv (.c (.i .i64 0)) }])
 (.blk 0 (.loop (.seq (.reg false [{ dst := some 16, op := .bin .lss (.t 15) (.t 14) }])
 (.seq (.cond (.t 16) .skip
 (.ext 0))
 (.seq (.blk 1 (.seq (.reg false [{ dst := some 17, op := .ia 2 (.t 13) (.t 15) },
  { dst := some 18, op := .ld (some 2) (.t 17) },
  { dst := some 5, op := .new ([.i .i64 0, .i .i64 0]) },
  { dst := none, op := .st 2 (.t 5) (.t 18) }])
 (.reg true [{ dst := some 19, op := .mv (.t 3) },
  { dst := some 20, op := .fa 1 (.t 5) },
  { dst := some 21, op := .ld none (.t 20), pre := [] },
  { dst := some 22, op := .nilck (.t 19) },
  { dst := some 23, op := .fa 1 (.t 22) },
  { dst := some 24, op := .iaa 40 1 (.t 23) (.t 21) },
  { dst := some 25, op := .ld none (.t 24), pre := [] },
  { dst := some 26, op := .fa 0 (.t 5) },
  { dst := some 27, op := .ld none (.t 26), pre := [] },
  { dst := some 28, op := .bin .shl (.c (.i .u64 1)) (.t 27) },
  { dst := some 29, op := .bin .or (.t 25) (.t 28) },
  { dst := some 30, op := .nilck (.t 19) },
  { dst := some 31, op := .fa 1 (.t 30) },
  { dst := some 32, op := .iaa 40 1 (.t 31) (.t 21) },
  { dst := none, op := .st 1 (.t 32) (.t 29), pre := [] }])))
 (.reg false [{ dst := some 33, op := .bin .add (.t 15) (.c (.i .i64 1)) },
  { dst := some 15, op := .mv (.t 33) }])))))))
 (.seq (.reg false [{ dst := some 34, op := .mv (.t 3) },
  { dst := some 2, op := .mv (.t 34) }])
 .ret)))) }
def A_rel_Rel_Less : AFun := { res := [.t 4], body := (.seq (.reg false [{ dst := some 4, op := .mv (.c (.nilp)) }])
 (.seq (.reg false [{ dst := some 5, op := .mv (.t 0) },
  { dst := some 6, op := .mv (.t 1) },
  { dst := some 7, op := .call .pure (.c (.fn 51 [] [])) [.t 5, .t 6, .c (.fn 54 [] [])] },
  { dst := some 4, op := .mv (.t 7) }])
 .ret)) }
def A_rel_Rel_by : AFun := { res := [.t 6], body := (.seq (.reg false [{ dst := some 6, op := .mv (.c (.nilp)) }])
 (.seq (.reg true [{ dst := some 9, op := .mv (.t 0) },
  { dst := some 10, op := .nilck (.t 9) },
  { dst := some 11, op := .fa 0 (.t 10) },
  { dst := some 12, op := .ld none (.t 11), pre := [] },
  { dst := some 13, op := .mv (.t 1) },
  { dst := some 14, op := .nilck (.t 13) },
  { dst := some 15, op := .fa 0 (.t 14) },
  { dst := some 16, op := .ld none (.t 15), pre := [] },
  { dst := some 17, op := .mx (.t 12) (.t 16) },
  { dst := some 18, op := .build ([.i .i64 0] ++ List.replicate 40 (.i .u64 0)) [(0, 1, .t 17)] },
  { dst := some 19, op := .box (.t 18) },
  { dst := some 7, op := .mv (.t 19) }])
 (.seq (.seq (.reg false [{ dst := some 20, op := .mv (.c (.i .i64 0)) }])
 (.blk 0 (.loop (.seq (.reg false [{ dst := some 21, op := .bin .lss (.t 20) (.c (.i .i64 40)) }])
 (.seq (.cond (.t 21) .skip
 (.ext 0))
 (.seq (.blk 1 (.seq (.reg false [{ dst := some 22, op := .mv (.t 20) },
  { dst := some 8, op := .mv (.t 22) }])
 (.reg true [{ dst := some 23, op := .mv (.t 7) },
  { dst := some 24, op := .mv (.t 8) },
  { dst := some 25, op := .mv (.t 2) },
  { dst := some 26, op := .mv (.t 0) },
  { dst := some 27, op := .mv (.t 8) },
  { dst := some 28, op := .nilck (.t 26) },
  { dst := some 29, op := .fa 1 (.t 28) },
  { dst := some 30, op := .iaa 40 1 (.t 29) (.t 27) },
  { dst := some 31, op := .ld none (.t 30), pre := [] },
  { dst := some 32, op := .mv (.t 1) },
  { dst := some 33, op := .mv (.t 8) },
  { dst := some 34, op := .nilck (.t 32) },
  { dst := some 35, op := .fa 1 (.t 34) },
  { dst := some 36, op := .iaa 40 1 (.t 35) (.t 33) },
  { dst := some 37, op := .ld none (.t 36), pre := [] },
  { dst := some 38, op := .call .pure (.t 25) [.t 31, .t 37], pre := [] },
  { dst := some 39, op := .nilck (.t 23) },
  { dst := some 40, op := .fa 1 (.t 39) },
  { dst := some 41, op := .iaa 40 1 (.t 40) (.t 24) },
  { dst := none, op := .st 1 (.t 41) (.t 38), pre := [] }])))
 (.reg false [{ dst := some 42, op := .bin .add (.t 20) (.c (.i .i64 1)) },
  { dst := some 20, op := .mv (.t 42) }])))))))
 (.seq (.reg false [{ dst := some 43, op := .mv (.t 7) },
  { dst := some 6, op := .mv (.t 43) }])
 .ret)))) }
def A_rel_Rel_And_1 : AFun := { res := [.t 4], body := (.seq (.reg false [{ dst := some 4, op := .mv (.c (.i .u64 0)) }])
 (.seq (.reg false [{ dst := some 5, op := .mv (.t 0) },
  { dst := some 6, op := .mv (.t 1) },
  { dst := some 7, op := .bin .and (.t 5) (.t 6) },
  { dst := some 4, op := .mv (.t 7) }])
 .ret)) }
def A_rel_Rel_Or_1 : AFun := { res := [.t 4], body := (.seq (.reg false [{ dst := some 4, op := .mv (.c (.i .u64 0)) }])
 (.seq (.reg false [{ dst := some 5, op := .mv (.t 0) },
  { dst := some 6, op := .mv (.t 1) },
  { dst := some 7, op := .bin .or (.t 5) (.t 6) },
  { dst := some 4, op := .mv (.t 7) }])
 .ret)) }
def A_rel_Rel_Less_1 : AFun := { res := [.t 4], body := (.seq (.reg false [{ dst := some 4, op := .mv (.c (.i .u64 0)) }])
 (.seq (.reg false [{ dst := some 5, op := .mv (.t 0) },
  { dst := some 6, op := .mv (.t 1) },
  { dst := some 7, op := .bin .andNot (.t 5) (.t 6) },
  { dst := some 4, op := .mv (.t 7) }])
 .ret)) }
structure Pk_rel (F : Funs) : Prop where
  rel_New : F 11 = some A_rel_New
  rel_Rel_Plus : F 12 = some A_rel_Rel_Plus
  rel_Rel_Has : F 13 = some A_rel_Rel_Has
  rel_Rel_Loops : F 14 = some A_rel_Rel_Loops
  rel_Rel_Pairs : F 15 = some A_rel_Rel_Pairs
  rel_Rel_Maybe : F 16 = some A_rel_Rel_Maybe
  rel_Rel_Len : F 17 = some A_rel_Rel_Len
  rel_Rel_And : F 18 = some A_rel_Rel_And
  rel_Rel_In : F 22 = some A_rel_Rel_In
  rel_Rel_Then : F 23 = some A_rel_Rel_Then
  rel_Rel_Or : F 24 = some A_rel_Rel_Or
  rel_Rel_Back : F 25 = some A_rel_Rel_Back
  rel_Rel_Less : F 26 = some A_rel_Rel_Less
  rel_Rel_by : F 51 = some A_rel_Rel_by
  rel_Rel_And_1 : F 52 = some A_rel_Rel_And_1
  rel_Rel_Or_1 : F 53 = some A_rel_Rel_Or_1
  rel_Rel_Less_1 : F 54 = some A_rel_Rel_Less_1
end Go.Ab
