/- The abstract machine, its adequacy, what functions compute; lemmas, no claim of its own. -/
import Derived.Test.YtfhinaopoffcnaaGA
import Derived.Test.YtfhinaopoffcnaaGB
section
/- Resolved functions of package rel, written by a program (res.py). -/
namespace Go.Ab
def A_rel_New : AFun := { res := [.t 4], body := (.seq (.reg false [{ dst := some 4, op := .mv (.c (.nilp)) }])
 (.seq (.reg false [{ dst := some 8, op := .mv (.t 0) },
  { dst := some 9, op := .mn (.t 8) (.c (.i .i64 40)) },
  { dst := some 10, op := .mx (.c (.i .i64 0)) (.t 9) },
  { dst := some 11, op := .build ([.i .i64 0] ++ List.replicate 40 (.i .u64 0)) [(0, 1, .t 10)] },
  { dst := some 12, op := .box (.t 11) },
  { dst := some 5, op := .mv (.t 12) }])
 (.seq (.seq (.reg false [{ dst := some 13, op := .mv (.t 1) },
  { dst := some 14, op := .len (.t 13) },
  { dst := some 15, op := .mv (.c (.i .i64 0)) }])
 (.blk 0 (.loop (.seq (.reg false [{ dst := some 16, op := .bin .lss (.t 15) (.t 14) }])
 (.seq (.cond (.t 16) .skip
 (.ext 0))
 (.seq (.blk 1 (.seq (.reg false [{ dst := some 17, op := .ia 2 (.t 13) (.t 15) },
  { dst := some 18, op := .ld (some 2) (.t 17) },
  { dst := some 7, op := .new ([.i .i64 0, .i .i64 0]) },
  { dst := none, op := .st 2 (.t 7) (.t 18) }])
 (.seq (.reg true [{ dst := some 19, op := .fa 0 (.t 7) },
  { dst := some 20, op := .ld none (.t 19), pre := [] },
  { dst := some 21, op := .bin .geq (.t 20) (.c (.i .i64 0)) },
  { dst := some 22, op := .mv (.t 21) },
  { dst := some 23, op := .fa 0 (.t 7), grd := some (22, true) },
  { dst := some 24, op := .ld none (.t 23), grd := some (22, true), pre := [] },
  { dst := some 25, op := .mv (.t 5), grd := some (22, true) },
  { dst := some 26, op := .nilck (.t 25), grd := some (22, true) },
  { dst := some 27, op := .fa 0 (.t 26), grd := some (22, true) },
  { dst := some 28, op := .ld none (.t 27), grd := some (22, true), pre := [] },
  { dst := some 29, op := .bin .lss (.t 24) (.t 28), grd := some (22, true) },
  { dst := some 30, op := .pick (.t 22) (.t 29) (.c (.b false)) },
  { dst := some 31, op := .mv (.t 30) },
  { dst := some 32, op := .fa 1 (.t 7), grd := some (31, true) },
  { dst := some 33, op := .ld none (.t 32), grd := some (31, true), pre := [] },
  { dst := some 34, op := .bin .geq (.t 33) (.c (.i .i64 0)), grd := some (31, true) },
  { dst := some 35, op := .pick (.t 31) (.t 34) (.c (.b false)) },
  { dst := some 36, op := .mv (.t 35) },
  { dst := some 37, op := .fa 1 (.t 7), grd := some (36, true) },
  { dst := some 38, op := .ld none (.t 37), grd := some (36, true), pre := [] },
  { dst := some 39, op := .mv (.t 5), grd := some (36, true) },
  { dst := some 40, op := .nilck (.t 39), grd := some (36, true) },
  { dst := some 41, op := .fa 0 (.t 40), grd := some (36, true) },
  { dst := some 42, op := .ld none (.t 41), grd := some (36, true), pre := [] },
  { dst := some 43, op := .bin .lss (.t 38) (.t 42), grd := some (36, true) },
  { dst := some 44, op := .pick (.t 36) (.t 43) (.c (.b false)) }])
 (.cond (.t 44) (.reg true [{ dst := some 45, op := .mv (.t 5) },
  { dst := some 46, op := .fa 0 (.t 7) },
  { dst := some 47, op := .ld none (.t 46), pre := [] },
  { dst := some 48, op := .nilck (.t 45) },
  { dst := some 49, op := .fa 1 (.t 48) },
  { dst := some 50, op := .iaa 40 1 (.t 49) (.t 47) },
  { dst := some 51, op := .ld none (.t 50), pre := [] },
  { dst := some 52, op := .fa 1 (.t 7) },
  { dst := some 53, op := .ld none (.t 52), pre := [] },
  { dst := some 54, op := .bin .shl (.c (.i .u64 1)) (.t 53) },
  { dst := some 55, op := .bin .or (.t 51) (.t 54) },
  { dst := some 56, op := .nilck (.t 45) },
  { dst := some 57, op := .fa 1 (.t 56) },
  { dst := some 58, op := .iaa 40 1 (.t 57) (.t 47) },
  { dst := none, op := .st 1 (.t 58) (.t 55), pre := [] }])
 .skip))))
 (.reg false [{ dst := some 59, op := .bin .add (.t 15) (.c (.i .i64 1)) },
  { dst := some 15, op := .mv (.t 59) }])))))))
 (.seq (.reg false [{ dst := some 60, op := .mv (.t 5) },
  { dst := some 4, op := .mv (.t 60) }])
 .ret)))) }
def A_rel_Rel_Plus : AFun := { res := [.t 2], body := (.seq (.reg false [{ dst := some 2, op := .mv (.c (.nilp)) }])
 (.seq (.reg false [{ dst := some 6, op := .mv (.t 0) },
  { dst := some 7, op := .nilck (.t 6) },
  { dst := some 8, op := .ld (some 41) (.t 7) },
  { dst := some 3, op := .new ([.i .i64 0] ++ List.replicate 40 (.i .u64 0)) },
  { dst := none, op := .st 41 (.t 3) (.t 8) }])
 (.seq (.seq (.reg false [{ dst := some 9, op := .mv (.t 0) },
  { dst := some 10, op := .nilck (.t 9) },
  { dst := some 11, op := .fa 0 (.t 10) },
  { dst := some 12, op := .ld none (.t 11) },
  { dst := some 13, op := .mv (.c (.i .i64 0)) }])
 (.blk 0 (.loop (.seq (.reg false [{ dst := some 14, op := .bin .lss (.t 13) (.t 12) }])
 (.seq (.cond (.t 14) .skip
 (.ext 0))
 (.seq (.blk 1 (.seq (.reg false [{ dst := some 15, op := .mv (.t 13) },
  { dst := some 4, op := .mv (.t 15) }])
 (.seq (.reg false [{ dst := some 16, op := .mv (.t 0) },
  { dst := some 17, op := .nilck (.t 16) },
  { dst := some 18, op := .fa 0 (.t 17) },
  { dst := some 19, op := .ld none (.t 18) },
  { dst := some 20, op := .mv (.c (.i .i64 0)) }])
 (.blk 2 (.loop (.seq (.reg false [{ dst := some 21, op := .bin .lss (.t 20) (.t 19) }])
 (.seq (.cond (.t 21) .skip
 (.ext 2))
 (.seq (.blk 3 (.seq (.reg false [{ dst := some 22, op := .mv (.t 20) },
  { dst := some 5, op := .mv (.t 22) }])
 (.seq (.reg false [{ dst := some 23, op := .mv (.t 5) },
  { dst := some 24, op := .mv (.t 4) },
  { dst := some 25, op := .call .pure (.c (.fn 13 [] [])) [.t 3, .t 23, .t 24] }])
 (.cond (.t 25) (.reg true [{ dst := some 26, op := .mv (.t 5) },
  { dst := some 27, op := .fa 1 (.t 3) },
  { dst := some 28, op := .iaa 40 1 (.t 27) (.t 26) },
  { dst := some 29, op := .ld none (.t 28), pre := [] },
  { dst := some 30, op := .mv (.t 4) },
  { dst := some 31, op := .fa 1 (.t 3) },
  { dst := some 32, op := .iaa 40 1 (.t 31) (.t 30) },
  { dst := some 33, op := .ld none (.t 32), pre := [] },
  { dst := some 34, op := .bin .or (.t 29) (.t 33) },
  { dst := some 35, op := .fa 1 (.t 3) },
  { dst := some 36, op := .iaa 40 1 (.t 35) (.t 26) },
  { dst := none, op := .st 1 (.t 36) (.t 34), pre := [] }])
 .skip))))
 (.reg false [{ dst := some 37, op := .bin .add (.t 20) (.c (.i .i64 1)) },
  { dst := some 20, op := .mv (.t 37) }])))))))))
 (.reg false [{ dst := some 38, op := .bin .add (.t 13) (.c (.i .i64 1)) },
  { dst := some 13, op := .mv (.t 38) }])))))))
 (.seq (.reg false [{ dst := some 2, op := .mv (.t 3) }])
 .ret)))) }
def A_rel_Rel_Has : AFun := { res := [.t 6], body := (.seq (.reg false [{ dst := some 6, op := .mv (.c (.b false)) }])
 (.seq (.reg false [{ dst := some 7, op := .mv (.t 1) },
  { dst := some 8, op := .bin .geq (.t 7) (.c (.i .i64 0)) },
  { dst := some 9, op := .mv (.t 8) },
  { dst := some 10, op := .mv (.t 1), grd := some (9, true) },
  { dst := some 11, op := .mv (.t 0), grd := some (9, true) },
  { dst := some 12, op := .nilck (.t 11), grd := some (9, true) },
  { dst := some 13, op := .fa 0 (.t 12), grd := some (9, true) },
  { dst := some 14, op := .ld none (.t 13), grd := some (9, true) },
  { dst := some 15, op := .bin .lss (.t 10) (.t 14), grd := some (9, true) },
  { dst := some 16, op := .pick (.t 9) (.t 15) (.c (.b false)) },
  { dst := some 17, op := .mv (.t 16) },
  { dst := some 18, op := .mv (.t 2), grd := some (17, true) },
  { dst := some 19, op := .bin .geq (.t 18) (.c (.i .i64 0)), grd := some (17, true) },
  { dst := some 20, op := .pick (.t 17) (.t 19) (.c (.b false)) },
  { dst := some 21, op := .mv (.t 20) },
  { dst := some 22, op := .mv (.t 2), grd := some (21, true) },
  { dst := some 23, op := .mv (.t 0), grd := some (21, true) },
  { dst := some 24, op := .nilck (.t 23), grd := some (21, true) },
  { dst := some 25, op := .fa 0 (.t 24), grd := some (21, true) },
  { dst := some 26, op := .ld none (.t 25), grd := some (21, true) },
  { dst := some 27, op := .bin .lss (.t 22) (.t 26), grd := some (21, true) },
  { dst := some 28, op := .pick (.t 21) (.t 27) (.c (.b false)) },
  { dst := some 29, op := .mv (.t 28) },
  { dst := some 30, op := .mv (.t 0), grd := some (29, true) },
  { dst := some 31, op := .mv (.t 1), grd := some (29, true) },
  { dst := some 32, op := .nilck (.t 30), grd := some (29, true) },
  { dst := some 33, op := .fa 1 (.t 32), grd := some (29, true) },
  { dst := some 34, op := .iaa 40 1 (.t 33) (.t 31), grd := some (29, true) },
  { dst := some 35, op := .ld none (.t 34), grd := some (29, true) },
  { dst := some 36, op := .mv (.t 2), grd := some (29, true) },
  { dst := some 37, op := .bin .shr (.t 35) (.t 36), grd := some (29, true) },
  { dst := some 38, op := .bin .and (.t 37) (.c (.i .u64 1)), grd := some (29, true) },
  { dst := some 39, op := .bin .neq (.t 38) (.c (.i .u64 0)), grd := some (29, true) },
  { dst := some 40, op := .pick (.t 29) (.t 39) (.c (.b false)) },
  { dst := some 6, op := .mv (.t 40) }])
 .ret)) }
def A_rel_Rel_Loops : AFun := { res := [.t 2], body := (.seq (.reg false [{ dst := some 2, op := .mv (.c (.b false)) }])
 (.seq (.reg false [{ dst := some 5, op := .mv (.t 0) },
  { dst := some 6, op := .call .pure (.c (.fn 12 [] [])) [.t 5] },
  { dst := some 3, op := .mv (.t 6) }])
 (.seq (.seq (.reg false [{ dst := some 7, op := .mv (.t 0) },
  { dst := some 8, op := .nilck (.t 7) },
  { dst := some 9, op := .fa 0 (.t 8) },
  { dst := some 10, op := .ld none (.t 9) },
  { dst := some 11, op := .mv (.c (.i .i64 0)) }])
 (.blk 0 (.loop (.seq (.reg false [{ dst := some 12, op := .bin .lss (.t 11) (.t 10) }])
 (.seq (.cond (.t 12) .skip
 (.ext 0))
 (.seq (.blk 1 (.seq (.reg false [{ dst := some 13, op := .mv (.t 11) },
  { dst := some 4, op := .mv (.t 13) }])
 (.seq (.reg false [{ dst := some 14, op := .mv (.t 3) },
  { dst := some 15, op := .mv (.t 4) },
  { dst := some 16, op := .mv (.t 4) },
  { dst := some 17, op := .call .pure (.c (.fn 13 [] [])) [.t 14, .t 15, .t 16] }])
 (.cond (.t 17) (.seq (.reg false [{ dst := some 2, op := .mv (.c (.b true)) }])
 .ret)
 .skip))))
 (.reg false [{ dst := some 18, op := .bin .add (.t 11) (.c (.i .i64 1)) },
  { dst := some 11, op := .mv (.t 18) }])))))))
 (.seq (.reg false [{ dst := some 2, op := .mv (.c (.b false)) }])
 .ret)))) }
def A_rel_Rel_Pairs : AFun := { res := [.t 2], body := (.seq (.reg false [{ dst := some 2, op := .mv (.c (.sl [] 0 .rig)) }])
 (.seq (.reg false [{ dst := some 3, op := .mv (.c (.sl [] 0 .rig)) }])
 (.seq (.seq (.reg false [{ dst := some 6, op := .mv (.t 0) },
  { dst := some 7, op := .nilck (.t 6) },
  { dst := some 8, op := .fa 0 (.t 7) },
  { dst := some 9, op := .ld none (.t 8) },
  { dst := some 10, op := .mv (.c (.i .i64 0)) }])
 (.blk 0 (.loop (.seq (.reg false [{ dst := some 11, op := .bin .lss (.t 10) (.t 9) }])
 (.seq (.cond (.t 11) .skip
 (.ext 0))
 (.seq (.blk 1 (.seq (.reg false [{ dst := some 12, op := .mv (.t 10) },
  { dst := some 4, op := .mv (.t 12) }])
 (.seq (.reg false [{ dst := some 13, op := .mv (.t 0) },
  { dst := some 14, op := .nilck (.t 13) },
  { dst := some 15, op := .fa 0 (.t 14) },
  { dst := some 16, op := .ld none (.t 15) },
  { dst := some 17, op := .mv (.c (.i .i64 0)) }])
 (.blk 2 (.loop (.seq (.reg false [{ dst := some 18, op := .bin .lss (.t 17) (.t 16) }])
 (.seq (.cond (.t 18) .skip
 (.ext 2))
 (.seq (.blk 3 (.seq (.reg false [{ dst := some 19, op := .mv (.t 17) },
  { dst := some 5, op := .mv (.t 19) }])
 (.seq (.reg false [{ dst := some 20, op := .mv (.t 0) },
  { dst := some 21, op := .mv (.t 4) },
  { dst := some 22, op := .mv (.t 5) },
  { dst := some 23, op := .call .pure (.c (.fn 13 [] [])) [.t 20, .t 21, .t 22] }])
 (.cond (.t 23) (.reg false [{ dst := some 24, op := .mv (.t 3) },
  { dst := some 25, op := .mv (.t 4) },
  { dst := some 26, op := .mv (.t 5) },
  { dst := some 27, op := .build ([.i .i64 0, .i .i64 0]) [(0, 1, .t 25), (1, 1, .t 26)] },
  { dst := some 28, op := .bsl true 1 ([.i .i64 0, .i .i64 0]) [(0, 2, .t 27)] },
  { dst := some 29, op := .app 2 16 (.t 24) (.t 28) },
  { dst := some 3, op := .mv (.t 29) }])
 .skip))))
 (.reg false [{ dst := some 30, op := .bin .add (.t 17) (.c (.i .i64 1)) },
  { dst := some 17, op := .mv (.t 30) }])))))))))
 (.reg false [{ dst := some 31, op := .bin .add (.t 10) (.c (.i .i64 1)) },
  { dst := some 10, op := .mv (.t 31) }])))))))
 (.seq (.reg false [{ dst := some 32, op := .mv (.t 3) },
  { dst := some 2, op := .mv (.t 32) }])
 .ret)))) }
def A_rel_Rel_Maybe : AFun := { res := [.t 2], body := (.seq (.reg false [{ dst := some 2, op := .mv (.c (.nilp)) }])
 (.seq (.reg false [{ dst := some 5, op := .mv (.t 0) },
  { dst := some 6, op := .nilck (.t 5) },
  { dst := some 7, op := .ld (some 41) (.t 6) },
  { dst := some 3, op := .new ([.i .i64 0] ++ List.replicate 40 (.i .u64 0)) },
  { dst := none, op := .st 41 (.t 3) (.t 7) }])
 (.seq (.seq (.reg false [{ dst := some 8, op := .mv (.t 0) },
  { dst := some 9, op := .nilck (.t 8) },
  { dst := some 10, op := .fa 0 (.t 9) },
  { dst := some 11, op := .ld none (.t 10) },
  { dst := some 12, op := .mv (.c (.i .i64 0)) }])
 (.blk 0 (.loop (.seq (.reg false [{ dst := some 13, op := .bin .lss (.t 12) (.t 11) }])
 (.seq (.cond (.t 13) .skip
 (.ext 0))
 (.seq (.blk 1 (.seq (.reg false [{ dst := some 14, op := .mv (.t 12) },
  { dst := some 4, op := .mv (.t 14) }])
 (.reg true [{ dst := some 15, op := .mv (.t 4) },
  { dst := some 16, op := .fa 1 (.t 3) },
  { dst := some 17, op := .iaa 40 1 (.t 16) (.t 15) },
  { dst := some 18, op := .ld none (.t 17), pre := [] },
  { dst := some 19, op := .mv (.t 4) },
  { dst := some 20, op := .bin .shl (.c (.i .u64 1)) (.t 19) },
  { dst := some 21, op := .bin .or (.t 18) (.t 20) },
  { dst := some 22, op := .fa 1 (.t 3) },
  { dst := some 23, op := .iaa 40 1 (.t 22) (.t 15) },
  { dst := none, op := .st 1 (.t 23) (.t 21), pre := [] }])))
 (.reg false [{ dst := some 24, op := .bin .add (.t 12) (.c (.i .i64 1)) },
  { dst := some 12, op := .mv (.t 24) }])))))))
 (.seq (.reg false [{ dst := some 2, op := .mv (.t 3) }])
 .ret)))) }
def A_rel_Rel_Len : AFun := { res := [.t 2], body := (.seq (.reg false [{ dst := some 2, op := .mv (.c (.i .i64 0)) }])
 (.seq (.reg false [{ dst := some 3, op := .mv (.t 0) },
  { dst := some 4, op := .nilck (.t 3) },
  { dst := some 5, op := .fa 0 (.t 4) },
  { dst := some 6, op := .ld none (.t 5) },
  { dst := some 2, op := .mv (.t 6) }])
 .ret)) }
def A_rel_Rel_And : AFun := { res := [.t 4], body := (.seq (.reg false [{ dst := some 4, op := .mv (.c (.nilp)) }])
 (.seq (.reg false [{ dst := some 5, op := .mv (.t 0) },
  { dst := some 6, op := .mv (.t 1) },
  { dst := some 7, op := .call .pure (.c (.fn 51 [] [])) [.t 5, .t 6, .c (.fn 52 [] [])] },
  { dst := some 4, op := .mv (.t 7) }])
 .ret)) }
def A_rel_Rel_In : AFun := { res := [.t 4], body := (.seq (.reg false [{ dst := some 4, op := .mv (.c (.b false)) }])
 (.seq (.reg false [{ dst := some 5, op := .mv (.t 0) },
  { dst := some 6, op := .mv (.t 1) },
  { dst := some 7, op := .call .pure (.c (.fn 26 [] [])) [.t 5, .t 6] },
  { dst := some 8, op := .nilck (.t 7) },
  { dst := some 9, op := .fa 1 (.t 8) },
  { dst := some 10, op := .ld (some 40) (.t 9) },
  { dst := some 11, op := .build (List.replicate 40 (.i .u64 0)) [] },
  { dst := some 12, op := .eqa false (List.replicate 40 0) (.t 10) (.t 11) },
  { dst := some 4, op := .mv (.t 12) }])
 .ret)) }
def A_rel_Rel_Then : AFun := { res := [.t 4], body := (.seq (.reg false [{ dst := some 4, op := .mv (.c (.nilp)) }])
 (.seq (.reg true [{ dst := some 8, op := .mv (.t 0) },
  { dst := some 9, op := .nilck (.t 8) },
  { dst := some 10, op := .fa 0 (.t 9) },
  { dst := some 11, op := .ld none (.t 10), pre := [] },
  { dst := some 12, op := .mv (.t 1) },
  { dst := some 13, op := .nilck (.t 12) },
  { dst := some 14, op := .fa 0 (.t 13) },
  { dst := some 15, op := .ld none (.t 14), pre := [] },
  { dst := some 16, op := .mx (.t 11) (.t 15) },
  { dst := some 17, op := .build ([.i .i64 0] ++ List.replicate 40 (.i .u64 0)) [(0, 1, .t 16)] },
  { dst := some 18, op := .box (.t 17) },
  { dst := some 5, op := .mv (.t 18) }])
 (.seq (.seq (.reg false [{ dst := some 19, op := .mv (.t 0) },
  { dst := some 20, op := .nilck (.t 19) },
  { dst := some 21, op := .fa 0 (.t 20) },
  { dst := some 22, op := .ld none (.t 21) },
  { dst := some 23, op := .mv (.c (.i .i64 0)) }])
 (.blk 0 (.loop (.seq (.reg false [{ dst := some 24, op := .bin .lss (.t 23) (.t 22) }])
 (.seq (.cond (.t 24) .skip
 (.ext 0))
 (.seq (.blk 1 (.seq (.reg false [{ dst := some 25, op := .mv (.t 23) },
  { dst := some 6, op := .mv (.t 25) }])
 (.seq (.reg false [{ dst := some 26, op := .mv (.t 0) },
  { dst := some 27, op := .nilck (.t 26) },
  { dst := some 28, op := .fa 0 (.t 27) },
  { dst := some 29, op := .ld none (.t 28) },
  { dst := some 30, op := .mv (.c (.i .i64 0)) }])
 (.blk 2 (.loop (.seq (.reg false [{ dst := some 31, op := .bin .lss (.t 30) (.t 29) }])
 (.seq (.cond (.t 31) .skip
 (.ext 2))
 (.seq (.blk 3 (.seq (.reg false [{ dst := some 32, op := .mv (.t 30) },
  { dst := some 7, op := .mv (.t 32) }])
 (.seq (.reg false [{ dst := some 33, op := .mv (.t 0) },
  { dst := some 34, op := .mv (.t 6) },
  { dst := some 35, op := .mv (.t 7) },
  { dst := some 36, op := .call .pure (.c (.fn 13 [] [])) [.t 33, .t 34, .t 35] }])
 (.cond (.t 36) (.reg true [{ dst := some 37, op := .mv (.t 5) },
  { dst := some 38, op := .mv (.t 6) },
  { dst := some 39, op := .nilck (.t 37) },
  { dst := some 40, op := .fa 1 (.t 39) },
  { dst := some 41, op := .iaa 40 1 (.t 40) (.t 38) },
  { dst := some 42, op := .ld none (.t 41), pre := [] },
  { dst := some 43, op := .mv (.t 1) },
  { dst := some 44, op := .mv (.t 7) },
  { dst := some 45, op := .nilck (.t 43) },
  { dst := some 46, op := .fa 1 (.t 45) },
  { dst := some 47, op := .iaa 40 1 (.t 46) (.t 44) },
  { dst := some 48, op := .ld none (.t 47), pre := [] },
  { dst := some 49, op := .bin .or (.t 42) (.t 48) },
  { dst := some 50, op := .nilck (.t 37) },
  { dst := some 51, op := .fa 1 (.t 50) },
  { dst := some 52, op := .iaa 40 1 (.t 51) (.t 38) },
  { dst := none, op := .st 1 (.t 52) (.t 49), pre := [] }])
 .skip))))
 (.reg false [{ dst := some 53, op := .bin .add (.t 30) (.c (.i .i64 1)) },
  { dst := some 30, op := .mv (.t 53) }])))))))))
 (.reg false [{ dst := some 54, op := .bin .add (.t 23) (.c (.i .i64 1)) },
  { dst := some 23, op := .mv (.t 54) }])))))))
 (.seq (.reg false [{ dst := some 55, op := .mv (.t 5) },
  { dst := some 4, op := .mv (.t 55) }])
 .ret)))) }
def A_rel_Rel_Or : AFun := { res := [.t 4], body := (.seq (.reg false [{ dst := some 4, op := .mv (.c (.nilp)) }])
 (.seq (.reg false [{ dst := some 5, op := .mv (.t 0) },
  { dst := some 6, op := .mv (.t 1) },
  { dst := some 7, op := .call .pure (.c (.fn 51 [] [])) [.t 5, .t 6, .c (.fn 53 [] [])] },
  { dst := some 4, op := .mv (.t 7) }])
 .ret)) }
def A_rel_Rel_Back : AFun := { res := [.t 2], body := (.seq (.reg false [{ dst := some 2, op := .mv (.c (.nilp)) }])
 (.seq (.reg false [{ dst := some 6, op := .mv (.t 0) },
  { dst := some 7, op := .nilck (.t 6) },
  { dst := some 8, op := .fa 0 (.t 7) },
  { dst := some 9, op := .ld none (.t 8) },
  { dst := some 10, op := .build ([.i .i64 0] ++ List.replicate 40 (.i .u64 0)) [(0, 1, .t 9)] },
  { dst := some 11, op := .box (.t 10) },
  { dst := some 3, op := .mv (.t 11) }])
 (.seq (.seq (.reg false [{ dst := some 12, op := .mv (.t 0) },
  { dst := some 13, op := .call .pure (.c (.fn 15 [] [])) [.t 12] },
  { dst := some 14, op := .len (.t 13) },
  { dst := some 15, op := .mv (.c (.i .i64 0)) }])
 (.blk 0 (.loop (.seq (.reg false [{ dst := some 16, op := .bin .lss (.t 15) (.t 14) }])
 (.seq (.cond (.t 16) .skip
 (.ext 0))
 (.seq (.blk 1 (.seq (.reg false [{ dst := some 17, op := .ia 2 (.t 13) (.t 15) },
  { dst := some 18, op := .ld (some 2) (.t 17) },
  { dst := some 5, op := .new ([.i .i64 0, .i .i64 0]) },
  { dst := none, op := .st 2 (.t 5) (.t 18) }])
 (.reg true [{ dst := some 19, op := .mv (.t 3) },
  { dst := some 20, op := .fa 1 (.t 5) },
  { dst := some 21, op := .ld none (.t 20), pre := [] },
  { dst := some 22, op := .nilck (.t 19) },
  { dst := some 23, op := .fa 1 (.t 22) },
  { dst := some 24, op := .iaa 40 1 (.t 23) (.t 21) },
  { dst := some 25, op := .ld none (.t 24), pre := [] },
  { dst := some 26, op := .fa 0 (.t 5) },
  { dst := some 27, op := .ld none (.t 26), pre := [] },
  { dst := some 28, op := .bin .shl (.c (.i .u64 1)) (.t 27) },
  { dst := some 29, op := .bin .or (.t 25) (.t 28) },
  { dst := some 30, op := .nilck (.t 19) },
  { dst := some 31, op := .fa 1 (.t 30) },
  { dst := some 32, op := .iaa 40 1 (.t 31) (.t 21) },
  { dst := none, op := .st 1 (.t 32) (.t 29), pre := [] }])))
 (.reg false [{ dst := some 33, op := .bin .add (.t 15) (.c (.i .i64 1)) },
  { dst := some 15, op := .mv (.t 33) }])))))))
 (.seq (.reg false [{ dst := some 34, op := .mv (.t 3) },
  { dst := some 2, op := .mv (.t 34) }])
 .ret)))) }
def A_rel_Rel_Less : AFun := { res := [.t 4], body := (.seq (.reg false [{ dst := some 4, op := .mv (.c (.nilp)) }])
 (.seq (.reg false [{ dst := some 5, op := .mv (.t 0) },
  { dst := some 6, op := .mv (.t 1) },
  { dst := some 7, op := .call .pure (.c (.fn 51 [] [])) [.t 5, .t 6, .c (.fn 54 [] [])] },
  { dst := some 4, op := .mv (.t 7) }])
 .ret)) }
def A_rel_Rel_by : AFun := { res := [.t 6], body := (.seq (.reg false [{ dst := some 6, op := .mv (.c (.nilp)) }])
 (.seq (.reg true [{ dst := some 9, op := .mv (.t 0) },
  { dst := some 10, op := .nilck (.t 9) },
  { dst := some 11, op := .fa 0 (.t 10) },
  { dst := some 12, op := .ld none (.t 11), pre := [] },
  { dst := some 13, op := .mv (.t 1) },
  { dst := some 14, op := .nilck (.t 13) },
  { dst := some 15, op := .fa 0 (.t 14) },
  { dst := some 16, op := .ld none (.t 15), pre := [] },
  { dst := some 17, op := .mx (.t 12) (.t 16) },
  { dst := some 18, op := .build ([.i .i64 0] ++ List.replicate 40 (.i .u64 0)) [(0, 1, .t 17)] },
  { dst := some 19, op := .box (.t 18) },
  { dst := some 7, op := .mv (.t 19) }])
 (.seq (.seq (.reg false [{ dst := some 20, op := .mv (.c (.i .i64 0)) }])
 (.blk 0 (.loop (.seq (.reg false [{ dst := some 21, op := .bin .lss (.t 20) (.c (.i .i64 40)) }])
 (.seq (.cond (.t 21) .skip
 (.ext 0))
 (.seq (.blk 1 (.seq (.reg false [{ dst := some 22, op := .mv (.t 20) },
  { dst := some 8, op := .mv (.t 22) }])
 (.reg true [{ dst := some 23, op := .mv (.t 7) },
  { dst := some 24, op := .mv (.t 8) },
  { dst := some 25, op := .mv (.t 2) },
  { dst := some 26, op := .mv (.t 0) },
  { dst := some 27, op := .mv (.t 8) },
  { dst := some 28, op := .nilck (.t 26) },
  { dst := some 29, op := .fa 1 (.t 28) },
  { dst := some 30, op := .iaa 40 1 (.t 29) (.t 27) },
  { dst := some 31, op := .ld none (.t 30), pre := [] },
  { dst := some 32, op := .mv (.t 1) },
  { dst := some 33, op := .mv (.t 8) },
  { dst := some 34, op := .nilck (.t 32) },
  { dst := some 35, op := .fa 1 (.t 34) },
  { dst := some 36, op := .iaa 40 1 (.t 35) (.t 33) },
  { dst := some 37, op := .ld none (.t 36), pre := [] },
  { dst := some 38, op := .call .pure (.t 25) [.t 31, .t 37], pre := [] },
  { dst := some 39, op := .nilck (.t 23) },
  { dst := some 40, op := .fa 1 (.t 39) },
  { dst := some 41, op := .iaa 40 1 (.t 40) (.t 24) },
  { dst := none, op := .st 1 (.t 41) (.t 38), pre := [] }])))
 (.reg false [{ dst := some 42, op := .bin .add (.t 20) (.c (.i .i64 1)) },
  { dst := some 20, op := .mv (.t 42) }])))))))
 (.seq (.reg false [{ dst := some 43, op := .mv (.t 7) },
  { dst := some 6, op := .mv (.t 43) }])
 .ret)))) }
def A_rel_Rel_And_1 : AFun := { res := [.t 4], body := (.seq (.reg false [{ dst := some 4, op := .mv (.c (.i .u64 0)) }])
 (.seq (.reg false [{ dst := some 5, op := .mv (.t 0) },
  { dst := some 6, op := .mv (.t 1) },
  { dst := some 7, op := .bin .and (.t 5) (.t 6) },
  { dst := some 4, op := .mv (.t 7) }])
 .ret)) }
def A_rel_Rel_Or_1 : AFun := { res := [.t 4], body := (.seq (.reg false [{ dst := some 4, op := .mv (.c (.i .u64 0)) }])
 (.seq (.reg false [{ dst := some 5, op := .mv (.t 0) },
  { dst := some 6, op := .mv (.t 1) },
  { dst := some 7, op := .bin .or (.t 5) (.t 6) },
  { dst := some 4, op := .mv (.t 7) }])
 .ret)) }
def A_rel_Rel_Less_1 : AFun := { res := [.t 4], body := (.seq (.reg false [{ dst := some 4, op := .mv (.c (.i .u64 0)) }])
 (.seq (.reg false [{ dst := some 5, op := .mv (.t 0) },
  { dst := some 6, op := .mv (.t 1) },
  { dst := some 7, op := .bin .andNot (.t 5) (.t 6) },
  { dst := some 4, op := .mv (.t 7) }])
 .ret)) }
structure Pk_rel (F : Funs) : Prop where
  rel_New : F 11 = some A_rel_New
  rel_Rel_Plus : F 12 = some A_rel_Rel_Plus
  rel_Rel_Has : F 13 = some A_rel_Rel_Has
  rel_Rel_Loops : F 14 = some A_rel_Rel_Loops
  rel_Rel_Pairs : F 15 = some A_rel_Rel_Pairs
  rel_Rel_Maybe : F 16 = some A_rel_Rel_Maybe
  rel_Rel_Len : F 17 = some A_rel_Rel_Len
  rel_Rel_And : F 18 = some A_rel_Rel_And
  rel_Rel_In : F 22 = some A_rel_Rel_In
  rel_Rel_Then : F 23 = some A_rel_Rel_Then
  rel_Rel_Or : F 24 = some A_rel_Rel_Or
  rel_Rel_Back : F 25 = some A_rel_Rel_Back
  rel_Rel_Less : F 26 = some A_rel_Rel_Less
  rel_Rel_by : F 51 = some A_rel_Rel_by
  rel_Rel_And_1 : F 52 = some A_rel_Rel_And_1
  rel_Rel_Or_1 : F 53 = some A_rel_Rel_Or_1
  rel_Rel_Less_1 : F 54 = some A_rel_Rel_Less_1
end Go.Ab
end
section
/- Resolved functions of package xlaw00, written by a program (res.py). -/
namespace Go.Ab
def A_xlaw00_Place : AFun := { res := [.t 4], body := (.seq (.reg false [{ dst := some 4, op := .mv (.c (.i .i64 0)) }])
 (.seq (.reg false [{ dst := some 6, op := .mv (.t 0) },
  { dst := some 7, op := .mv (.t 1) },
  { dst := some 8, op := .bin .rem (.t 6) (.t 7) },
  { dst := some 5, op := .mv (.t 8) }])
 (.seq (.seq (.reg false [{ dst := some 9, op := .mv (.t 5) },
  { dst := some 10, op := .bin .lss (.t 9) (.c (.i .i64 0)) }])
 (.cond (.t 10) (.reg false [{ dst := some 11, op := .mv (.t 5) },
  { dst := some 12, op := .mv (.t 1) },
  { dst := some 13, op := .bin .add (.t 11) (.t 12) },
  { dst := some 5, op := .mv (.t 13) }])
 .skip))
 (.seq (.reg false [{ dst := some 14, op := .mv (.t 5) },
  { dst := some 4, op := .mv (.t 14) }])
 .ret)))) }
def A_xlaw00_FewGraph : AFun := { res := [.t 2], body := (.seq (.reg false [{ dst := some 1, op := .box (.t 0) },
  { dst := some 2, op := .mv (.c (.b false)) }])
 (.seq (.seq (.reg false [{ dst := some 3, op := .mv (.c (.i .i64 0)) }])
 (.blk 0 (.loop (.seq (.seq (.reg false [{ dst := some 4, op := .mv (.t 3) },
  { dst := some 5, op := .fa 3 (.t 1) },
  { dst := some 6, op := .ld none (.t 5) },
  { dst := some 7, op := .len (.t 6) },
  { dst := some 8, op := .bin .lss (.t 4) (.t 7) },
  { dst := some 9, op := .mv (.t 8) },
  { dst := some 10, op := .mv (.t 3), grd := some (9, true) },
  { dst := some 11, op := .bin .lss (.t 10) (.c (.i .i64 6)), grd := some (9, true) },
  { dst := some 12, op := .pick (.t 9) (.t 11) (.c (.b false)) }])
 (.cond (.t 12) .skip
 (.ext 0)))
 (.seq (.blk 1 (.seq (.reg false [{ dst := some 15, op := .fa 3 (.t 1) },
  { dst := some 16, op := .ld none (.t 15) },
  { dst := some 17, op := .mv (.t 3) },
  { dst := some 18, op := .ia 1 (.t 16) (.t 17) },
  { dst := some 19, op := .ld none (.t 18) },
  { dst := some 20, op := .len (.t 19) },
  { dst := some 21, op := .bin .gtr (.t 20) (.c (.i .i64 50)) }])
 (.cond (.t 21) (.seq (.reg false [{ dst := some 2, op := .mv (.c (.b false)) }])
 .ret)
 .skip)))
 (.reg false [{ dst := some 13, op := .mv (.t 3) },
  { dst := some 14, op := .bin .add (.t 13) (.c (.i .i64 1)) },
  { dst := some 3, op := .mv (.t 14) }]))))))
 (.seq (.reg false [{ dst := some 22, op := .fa 1 (.t 1) },
  { dst := some 23, op := .ld none (.t 22) },
  { dst := some 24, op := .len (.t 23) },
  { dst := some 25, op := .bin .leq (.t 24) (.c (.i .i64 50)) },
  { dst := some 26, op := .mv (.t 25) },
  { dst := some 27, op := .fa 2 (.t 1), grd := some (26, true) },
  { dst := some 28, op := .ld none (.t 27), grd := some (26, true) },
  { dst := some 29, op := .len (.t 28), grd := some (26, true) },
  { dst := some 30, op := .bin .leq (.t 29) (.c (.i .i64 60)), grd := some (26, true) },
  { dst := some 31, op := .pick (.t 26) (.t 30) (.c (.b false)) },
  { dst := some 32, op := .mv (.t 31) },
  { dst := some 33, op := .fa 3 (.t 1), grd := some (32, true) },
  { dst := some 34, op := .ld none (.t 33), grd := some (32, true) },
  { dst := some 35, op := .len (.t 34), grd := some (32, true) },
  { dst := some 36, op := .bin .leq (.t 35) (.c (.i .i64 6)), grd := some (32, true) },
  { dst := some 37, op := .pick (.t 32) (.t 36) (.c (.b false)) },
  { dst := some 38, op := .mv (.t 37) },
  { dst := some 39, op := .fa 4 (.t 1), grd := some (38, true) },
  { dst := some 40, op := .ld none (.t 39), grd := some (38, true) },
  { dst := some 41, op := .len (.t 40), grd := some (38, true) },
  { dst := some 42, op := .bin .leq (.t 41) (.c (.i .i64 50)), grd := some (38, true) },
  { dst := some 43, op := .pick (.t 38) (.t 42) (.c (.b false)) },
  { dst := some 44, op := .mv (.t 43) },
  { dst := some 45, op := .fa 5 (.t 1), grd := some (44, true) },
  { dst := some 46, op := .ld none (.t 45), grd := some (44, true) },
  { dst := some 47, op := .len (.t 46), grd := some (44, true) },
  { dst := some 48, op := .bin .leq (.t 47) (.c (.i .i64 300)), grd := some (44, true) },
  { dst := some 49, op := .pick (.t 44) (.t 48) (.c (.b false)) },
  { dst := some 50, op := .mv (.t 49) },
  { dst := some 51, op := .fa 6 (.t 1), grd := some (50, true) },
  { dst := some 52, op := .ld none (.t 51), grd := some (50, true) },
  { dst := some 53, op := .len (.t 52), grd := some (50, true) },
  { dst := some 54, op := .bin .leq (.t 53) (.c (.i .i64 300)), grd := some (50, true) },
  { dst := some 55, op := .pick (.t 50) (.t 54) (.c (.b false)) },
  { dst := some 56, op := .mv (.t 55) },
  { dst := some 57, op := .fa 7 (.t 1), grd := some (56, true) },
  { dst := some 58, op := .ld none (.t 57), grd := some (56, true) },
  { dst := some 59, op := .len (.t 58), grd := some (56, true) },
  { dst := some 60, op := .bin .leq (.t 59) (.c (.i .i64 300)), grd := some (56, true) },
  { dst := some 61, op := .pick (.t 56) (.t 60) (.c (.b false)) },
  { dst := some 2, op := .mv (.t 61) }])
 .ret))) }
def A_xlaw00_Small : AFun := { res := [.cell 2 (some 2)], body := (.seq (.reg false [{ dst := some 2, op := .new ([.i .i64 0, .sl [] 0 .rig]) }])
 (.seq (.seq (.reg false [{ dst := some 3, op := .mv (.t 0) },
  { dst := some 4, op := .len (.t 3) },
  { dst := some 5, op := .bin .gtr (.t 4) (.c (.i .i64 0)) },
  { dst := some 6, op := .mv (.t 5) },
  { dst := some 7, op := .mv (.t 0), grd := some (6, true) },
  { dst := some 8, op := .ia 1 (.t 7) (.c (.i .i64 0)), grd := some (6, true) },
  { dst := some 9, op := .ld none (.t 8), grd := some (6, true) },
  { dst := some 10, op := .call .pure (.c (.fn 10 [] [])) [.t 9, .c (.i .i64 4)], grd := some (6, true) },
  { dst := some 11, op := .bin .eql (.t 10) (.c (.i .i64 0)), grd := some (6, true) },
  { dst := some 12, op := .pick (.t 6) (.t 11) (.c (.b false)) }])
 (.cond (.t 12) (.seq (.reg false [{ dst := some 13, op := .mv (.t 0) },
  { dst := some 14, op := .call .pure (.c (.fn 86 [] [])) [.t 13, .c (.i .i64 3), .c (.i .i64 2)] },
  { dst := none, op := .st 2 (.t 2) (.t 14) }])
 .ret)
 .skip))
 (.seq (.reg false [{ dst := some 15, op := .mv (.t 0) },
  { dst := some 16, op := .call .pure (.c (.fn 86 [] [])) [.t 15, .c (.i .i64 2), .c (.i .i64 3)] },
  { dst := none, op := .st 2 (.t 2) (.t 16) }])
 .ret))) }
def A_xlaw00_Loads : AFun := { res := [.t 2], body := (.seq (.reg false [{ dst := some 1, op := .box (.t 0) },
  { dst := some 2, op := .mv (.c (.i .i64 0)) }])
 (.seq (.reg false [{ dst := some 3, op := .mv (.c (.i .i64 0)) }])
 (.seq (.seq (.reg false [{ dst := some 4, op := .mv (.c (.i .i64 0)) }])
 (.blk 0 (.loop (.seq (.seq (.reg false [{ dst := some 7, op := .mv (.t 4) },
  { dst := some 8, op := .fa 1 (.t 1) },
  { dst := some 9, op := .ld none (.t 8) },
  { dst := some 10, op := .len (.t 9) },
  { dst := some 11, op := .bin .lss (.t 7) (.t 10) }])
 (.cond (.t 11) .skip
 (.ext 0)))
 (.seq (.blk 1 (.seq (.reg false [{ dst := some 5, op := .mv (.c (.i .i64 0)) }])
 (.blk 2 (.loop (.seq (.seq (.reg false [{ dst := some 14, op := .mv (.t 5) },
  { dst := some 15, op := .fa 1 (.t 1) },
  { dst := some 16, op := .ld none (.t 15) },
  { dst := some 17, op := .mv (.t 4) },
  { dst := some 18, op := .ia 1 (.t 16) (.t 17) },
  { dst := some 19, op := .ld none (.t 18) },
  { dst := some 20, op := .len (.t 19) },
  { dst := some 21, op := .bin .lss (.t 14) (.t 20) }])
 (.cond (.t 21) .skip
 (.ext 2)))
 (.seq (.blk 3 (.seq (.reg false [{ dst := some 24, op := .fa 1 (.t 1) },
  { dst := some 25, op := .ld none (.t 24) },
  { dst := some 26, op := .mv (.t 4) },
  { dst := some 27, op := .ia 1 (.t 25) (.t 26) },
  { dst := some 28, op := .ld none (.t 27) },
  { dst := some 29, op := .mv (.t 5) },
  { dst := some 30, op := .ia 7 (.t 28) (.t 29) },
  { dst := some 31, op := .ld (some 7) (.t 30) },
  { dst := some 6, op := .new (List.replicate 5 (.i .i64 0) ++ [.sl [] 0 .rig, .i .i64 0]) },
  { dst := none, op := .st 7 (.t 6) (.t 31) }])
 (.seq (.reg false [{ dst := some 32, op := .fa 0 (.t 6) },
  { dst := some 33, op := .ld none (.t 32) },
  { dst := some 34, op := .bin .eql (.t 33) (.c (.i .i64 1)) },
  { dst := some 35, op := .mv (.t 34) },
  { dst := some 36, op := .fa 0 (.t 6), grd := some (35, false) },
  { dst := some 37, op := .ld none (.t 36), grd := some (35, false) },
  { dst := some 38, op := .bin .eql (.t 37) (.c (.i .i64 4)), grd := some (35, false) },
  { dst := some 39, op := .pick (.t 35) (.c (.b true)) (.t 38) }])
 (.cond (.t 39) (.reg false [{ dst := some 40, op := .mv (.t 3) },
  { dst := some 41, op := .bin .add (.t 40) (.c (.i .i64 1)) },
  { dst := some 3, op := .mv (.t 41) }])
 .skip))))
 (.reg false [{ dst := some 22, op := .mv (.t 5) },
  { dst := some 23, op := .bin .add (.t 22) (.c (.i .i64 1)) },
  { dst := some 5, op := .mv (.t 23) }])))))))
 (.reg false [{ dst := some 12, op := .mv (.t 4) },
  { dst := some 13, op := .bin .add (.t 12) (.c (.i .i64 1)) },
  { dst := some 4, op := .mv (.t 13) }]))))))
 (.seq (.reg false [{ dst := some 42, op := .mv (.t 3) },
  { dst := some 2, op := .mv (.t 42) }])
 .ret)))) }
def A_xlaw00_Domain : AFun := { res := [.t 0], body := (.seq (.reg false [{ dst := some 0, op := .mv (.c (.sl [] 0 .rig)) }])
 (.seq (.reg false [{ dst := some 1, op := .bsl true 3 ([.i .i64 0, .i .i64 0, .i .i64 0]) [(0, 1, .c (.i .i64 0)), (1, 1, .c (.i .i64 1)), (2, 1, .c (.i .i64 2))] },
  { dst := some 0, op := .mv (.t 1) }])
 .ret)) }
def A_xlaw00_Prog : AFun := { res := [.cell 6 (some 2)], body := (.seq (.reg false [{ dst := some 6, op := .new ([.i .i64 0, .sl [] 0 .rig]) }])
 (.seq (.reg false [{ dst := some 14, op := .mv (.t 1) },
  { dst := some 15, op := .mksl ([.sl [] 0 .rig]) 1 24 (.t 14) (.t 14) },
  { dst := some 16, op := .build ([.i .i64 0, .sl [] 0 .rig]) [(0, 1, .c (.i .i64 2)), (1, 1, .t 15)] },
  { dst := some 7, op := .new ([.i .i64 0, .sl [] 0 .rig]) },
  { dst := none, op := .st 2 (.t 7) (.t 16) }])
 (.seq (.seq (.reg false [{ dst := some 8, op := .mv (.c (.i .i64 0)) }])
 (.blk 0 (.loop (.seq (.seq (.reg false [{ dst := some 17, op := .mv (.t 8) },
  { dst := some 18, op := .mv (.t 1) },
  { dst := some 19, op := .bin .lss (.t 17) (.t 18) }])
 (.cond (.t 19) .skip
 (.ext 0)))
 (.seq (.blk 1 (.seq (.reg false [{ dst := some 9, op := .mv (.c (.i .i64 0)) },
  { dst := some 10, op := .mv (.c (.i .i64 0)) }])
 (.seq (.seq (.reg false [{ dst := some 22, op := .mv (.t 8) },
  { dst := some 11, op := .mv (.t 22) }])
 (.blk 2 (.loop (.seq (.seq (.reg false [{ dst := some 23, op := .mv (.t 11) },
  { dst := some 24, op := .mv (.t 0) },
  { dst := some 25, op := .len (.t 24) },
  { dst := some 26, op := .bin .lss (.t 23) (.t 25) },
  { dst := some 27, op := .mv (.t 26) },
  { dst := some 28, op := .mv (.t 9), grd := some (27, true) },
  { dst := some 29, op := .mv (.t 2), grd := some (27, true) },
  { dst := some 30, op := .bin .lss (.t 28) (.t 29), grd := some (27, true) },
  { dst := some 31, op := .pick (.t 27) (.t 30) (.c (.b false)) }])
 (.cond (.t 31) .skip
 (.ext 2)))
 (.seq (.blk 3 (.reg false [{ dst := some 35, op := .mv (.t 9) },
  { dst := some 36, op := .bin .add (.t 35) (.c (.i .i64 1)) },
  { dst := some 9, op := .mv (.t 36) }]))
 (.reg false [{ dst := some 32, op := .mv (.t 11) },
  { dst := some 33, op := .mv (.t 1) },
  { dst := some 34, op := .bin .add (.t 32) (.t 33) },
  { dst := some 11, op := .mv (.t 34) }]))))))
 (.seq (.reg false [{ dst := some 12, op := .mv (.c (.i .i64 0)) }])
 (.blk 4 (.loop (.seq (.seq (.reg false [{ dst := some 37, op := .mv (.t 12) },
  { dst := some 38, op := .mv (.t 9) },
  { dst := some 39, op := .bin .lss (.t 37) (.t 38) }])
 (.cond (.t 39) .skip
 (.ext 4)))
 (.seq (.blk 5 (.seq (.reg true [{ dst := some 42, op := .mv (.t 0) },
  { dst := some 43, op := .mv (.t 8) },
  { dst := some 44, op := .mv (.t 12) },
  { dst := some 45, op := .mv (.t 1) },
  { dst := some 46, op := .bin .mul (.t 44) (.t 45) },
  { dst := some 47, op := .bin .add (.t 43) (.t 46) },
  { dst := some 48, op := .ia 1 (.t 42) (.t 47) },
  { dst := some 49, op := .ld none (.t 48), pre := [] },
  { dst := some 50, op := .fa 0 (.t 7) },
  { dst := some 51, op := .ld none (.t 50), pre := [] },
  { dst := some 52, op := .mv (.t 9) },
  { dst := some 53, op := .bin .sub (.t 52) (.c (.i .i64 1)) },
  { dst := some 54, op := .mv (.t 12) },
  { dst := some 55, op := .bin .sub (.t 53) (.t 54) },
  { dst := some 56, op := .call .pure (.c (.fn 97 [] [])) [.t 49, .t 51, .t 55], pre := [] },
  { dst := some 13, op := .new (List.replicate 5 (.i .i64 0) ++ [.sl [] 0 .rig, .i .i64 0]) },
  { dst := none, op := .stL 7 (.t 13) (.t 56), pre := [15] }])
 (.seq (.seq (.reg false [{ dst := some 57, op := .fa 0 (.t 13) },
  { dst := some 58, op := .ld none (.t 57) },
  { dst := some 59, op := .bin .eql (.t 58) (.c (.i .i64 6)) }])
 (.cond (.t 59) (.seq (.reg false [{ dst := some 60, op := .mv (.t 10) },
  { dst := some 61, op := .bin .add (.t 60) (.c (.i .i64 1)) },
  { dst := some 10, op := .mv (.t 61) }])
 (.seq (.reg false [{ dst := some 62, op := .mv (.t 10) },
  { dst := some 63, op := .bin .gtr (.t 62) (.c (.i .i64 2)) }])
 (.cond (.t 63) (.reg false [{ dst := some 64, op := .build (List.replicate 5 (.i .i64 0) ++ [.sl [] 0 .rig, .i .i64 0]) [(0, 1, .c (.i .i64 3)), (1, 1, .c (.i .i64 4))] },
  { dst := none, op := .st 7 (.t 13) (.t 64) }])
 .skip)))
 .skip))
 (.reg true [{ dst := some 65, op := .fa 1 (.t 7) },
  { dst := some 66, op := .ld none (.t 65), pre := [] },
  { dst := some 67, op := .mv (.t 8) },
  { dst := some 68, op := .fa 1 (.t 7) },
  { dst := some 69, op := .ld none (.t 68), pre := [] },
  { dst := some 70, op := .mv (.t 8) },
  { dst := some 71, op := .ia 1 (.t 69) (.t 70) },
  { dst := some 72, op := .ld none (.t 71), pre := [] },
  { dst := some 73, op := .ld (some 7) (.t 13), pre := [] },
  { dst := some 74, op := .bsl true 1 (List.replicate 5 (.i .i64 0) ++ [.sl [] 0 .rig, .i .i64 0]) [(0, 7, .t 73)], pre := [] },
  { dst := some 75, op := .app 7 72 (.t 72) (.t 74), pre := [] },
  { dst := some 76, op := .ia 1 (.t 66) (.t 67) },
  { dst := none, op := .st 1 (.t 76) (.t 75), pre := [10] }]))))
 (.reg false [{ dst := some 40, op := .mv (.t 12) },
  { dst := some 41, op := .bin .add (.t 40) (.c (.i .i64 1)) },
  { dst := some 12, op := .mv (.t 41) }])))))))))
 (.reg false [{ dst := some 20, op := .mv (.t 8) },
  { dst := some 21, op := .bin .add (.t 20) (.c (.i .i64 1)) },
  { dst := some 8, op := .mv (.t 21) }]))))))
 (.seq (.reg false [{ dst := some 77, op := .ld (some 2) (.t 7) },
  { dst := none, op := .st 2 (.t 6) (.t 77) }])
 .ret)))) }
def A_xlaw00_Instr : AFun := { res := [.cell 6 (some 7)], body := (.seq (.reg false [{ dst := some 6, op := .new (List.replicate 5 (.i .i64 0) ++ [.sl [] 0 .rig, .i .i64 0]) }])
 (.seq (.reg false [{ dst := some 15, op := .mv (.t 0) },
  { dst := some 16, op := .call .pure (.c (.fn 10 [] [])) [.t 15, .c (.i .i64 1099511627776)] },
  { dst := some 7, op := .mv (.t 16) }])
 (.seq (.reg false [{ dst := some 17, op := .mv (.t 7) },
  { dst := some 18, op := .bin .quo (.t 17) (.c (.i .i64 20)) },
  { dst := some 8, op := .mv (.t 18) }])
 (.seq (.reg true [{ dst := some 19, op := .mv (.t 8) },
  { dst := some 20, op := .bin .rem (.t 19) (.c (.i .i64 3)) },
  { dst := some 21, op := .mv (.t 8) },
  { dst := some 22, op := .bin .quo (.t 21) (.c (.i .i64 3)) },
  { dst := some 23, op := .mv (.t 1) },
  { dst := some 24, op := .bin .rem (.t 22) (.t 23) },
  { dst := some 25, op := .mv (.t 8) },
  { dst := some 26, op := .bin .quo (.t 25) (.c (.i .i64 12)) },
  { dst := some 27, op := .call .pure (.c (.fn 107 [] [])) [.t 26], pre := [] },
  { dst := some 9, op := .mv (.t 20) },
  { dst := some 10, op := .mv (.t 24) },
  { dst := some 11, op := .mv (.t 27) }])
 (.seq (.reg true [{ dst := some 28, op := .build ([.i .i64 0, .i .i64 0, .i .i64 0]) [(0, 1, .c (.i .i64 0)), (1, 1, .c (.i .i64 0)), (2, 1, .c (.i .i64 1))] },
  { dst := some 29, op := .mv (.t 8) },
  { dst := some 30, op := .bin .quo (.t 29) (.c (.i .i64 7)) },
  { dst := some 31, op := .bin .rem (.t 30) (.c (.i .i64 3)) },
  { dst := some 32, op := .idx 3 1 none (.t 28) (.t 31) },
  { dst := some 33, op := .build ([.i .i64 0, .i .i64 0, .i .i64 0]) [(0, 1, .c (.i .i64 0)), (1, 1, .c (.i .i64 0)), (2, 1, .c (.i .i64 2))] },
  { dst := some 34, op := .mv (.t 8) },
  { dst := some 35, op := .bin .quo (.t 34) (.c (.i .i64 11)) },
  { dst := some 36, op := .bin .rem (.t 35) (.c (.i .i64 3)) },
  { dst := some 37, op := .idx 3 1 none (.t 33) (.t 36) },
  { dst := some 12, op := .mv (.t 32) },
  { dst := some 13, op := .mv (.t 37) }])
 (.seq (.seq (.reg false [{ dst := some 38, op := .mv (.t 7) },
  { dst := some 39, op := .bin .rem (.t 38) (.c (.i .i64 20)) },
  { dst := some 14, op := .mv (.t 39) }])
 (.blk 0 (.seq (.reg false [{ dst := some 41, op := .mv (.t 14) },
  { dst := some 42, op := .bin .lss (.t 41) (.c (.i .i64 6)) },
  { dst := some 40, op := .mv (.t 42) }])
 (.cond (.t 40) (.seq (.reg false [{ dst := some 43, op := .mv (.t 9) },
  { dst := some 44, op := .mv (.t 10) },
  { dst := some 45, op := .mv (.t 12) },
  { dst := some 46, op := .build (List.replicate 5 (.i .i64 0) ++ [.sl [] 0 .rig, .i .i64 0]) [(0, 1, .c (.i .i64 1)), (3, 1, .t 43), (4, 1, .t 44), (1, 1, .t 45)] },
  { dst := none, op := .st 7 (.t 6) (.t 46) }])
 .ret)
 (.seq (.reg false [{ dst := some 48, op := .mv (.t 14) },
  { dst := some 49, op := .bin .lss (.t 48) (.c (.i .i64 12)) },
  { dst := some 47, op := .mv (.t 49) }])
 (.cond (.t 47) (.seq (.reg false [{ dst := some 50, op := .mv (.t 10) },
  { dst := some 51, op := .mv (.t 13) },
  { dst := some 52, op := .mv (.t 11) },
  { dst := some 53, op := .build (List.replicate 5 (.i .i64 0) ++ [.sl [] 0 .rig, .i .i64 0]) [(0, 1, .c (.i .i64 2)), (4, 1, .t 50), (1, 1, .t 51), (5, 1, .t 52)] },
  { dst := none, op := .st 7 (.t 6) (.t 53) }])
 .ret)
 (.seq (.reg false [{ dst := some 55, op := .mv (.t 14) },
  { dst := some 56, op := .bin .lss (.t 55) (.c (.i .i64 15)) },
  { dst := some 54, op := .mv (.t 56) }])
 (.cond (.t 54) (.seq (.reg false [{ dst := some 57, op := .mv (.t 8) },
  { dst := some 58, op := .bin .quo (.t 57) (.c (.i .i64 5)) },
  { dst := some 59, op := .bin .rem (.t 58) (.c (.i .i64 4)) },
  { dst := some 60, op := .bin .add (.c (.i .i64 1)) (.t 59) },
  { dst := some 61, op := .build (List.replicate 5 (.i .i64 0) ++ [.sl [] 0 .rig, .i .i64 0]) [(0, 1, .c (.i .i64 3)), (1, 1, .t 60)] },
  { dst := none, op := .st 7 (.t 6) (.t 61) }])
 .ret)
 (.seq (.reg false [{ dst := some 63, op := .mv (.t 14) },
  { dst := some 64, op := .bin .lss (.t 63) (.c (.i .i64 16)) },
  { dst := some 62, op := .mv (.t 64) }])
 (.cond (.t 62) (.seq (.reg false [{ dst := some 65, op := .mv (.t 9) },
  { dst := some 66, op := .mv (.t 10) },
  { dst := some 67, op := .mv (.t 12) },
  { dst := some 68, op := .mv (.t 13) },
  { dst := some 69, op := .mv (.t 8) },
  { dst := some 70, op := .bin .quo (.t 69) (.c (.i .i64 17)) },
  { dst := some 71, op := .bin .rem (.t 70) (.c (.i .i64 2)) },
  { dst := some 72, op := .call .pure (.c (.fn 108 [] [])) [.t 71] },
  { dst := some 73, op := .bsl true 1 ([.i .i64 0, .i .i64 0]) [(0, 2, .t 72)] },
  { dst := some 74, op := .build (List.replicate 5 (.i .i64 0) ++ [.sl [] 0 .rig, .i .i64 0]) [(0, 1, .c (.i .i64 4)), (3, 1, .t 65), (4, 1, .t 66), (1, 1, .t 67), (2, 1, .t 68), (5, 1, .t 73)] },
  { dst := none, op := .st 7 (.t 6) (.t 74) }])
 .ret)
 (.seq (.reg false [{ dst := some 76, op := .mv (.t 14) },
  { dst := some 77, op := .bin .lss (.t 76) (.c (.i .i64 18)) },
  { dst := some 75, op := .mv (.t 77) }])
 (.cond (.t 75) (.seq (.reg false [{ dst := some 78, op := .mv (.t 9) },
  { dst := some 79, op := .mv (.t 11) },
  { dst := some 80, op := .build (List.replicate 5 (.i .i64 0) ++ [.sl [] 0 .rig, .i .i64 0]) [(0, 1, .c (.i .i64 5)), (3, 1, .t 78), (5, 1, .t 79)] },
  { dst := none, op := .st 7 (.t 6) (.t 80) }])
 .ret)
 .skip))))))))))))
 (.seq (.reg false [{ dst := some 81, op := .mv (.t 8) },
  { dst := some 82, op := .bin .quo (.t 81) (.c (.i .i64 19)) },
  { dst := some 83, op := .mv (.t 2) },
  { dst := some 84, op := .bin .add (.t 83) (.c (.i .i64 1)) },
  { dst := some 85, op := .bin .rem (.t 82) (.t 84) },
  { dst := some 86, op := .mv (.t 11) },
  { dst := some 87, op := .build (List.replicate 5 (.i .i64 0) ++ [.sl [] 0 .rig, .i .i64 0]) [(0, 1, .c (.i .i64 6)), (6, 1, .t 85), (5, 1, .t 86)] },
  { dst := none, op := .st 7 (.t 6) (.t 87) }])
 .ret))))))) }
def A_xlaw00_Expr : AFun := { res := [.t 2], body := (.seq (.reg false [{ dst := some 2, op := .mv (.c (.sl [] 0 .rig)) }])
 (.seq (.reg false [{ dst := some 6, op := .mv (.t 0) },
  { dst := some 7, op := .call .pure (.c (.fn 10 [] [])) [.t 6, .c (.i .i64 1073741824)] },
  { dst := some 3, op := .mv (.t 7) }])
 (.seq (.reg false [{ dst := some 8, op := .mv (.t 3) },
  { dst := some 9, op := .bin .quo (.t 8) (.c (.i .i64 10)) },
  { dst := some 10, op := .bin .rem (.t 9) (.c (.i .i64 3)) },
  { dst := some 11, op := .call .pure (.c (.fn 123 [] [])) [.t 10] },
  { dst := some 12, op := .mv (.t 3) },
  { dst := some 13, op := .bin .quo (.t 12) (.c (.i .i64 30)) },
  { dst := some 14, op := .bin .rem (.t 13) (.c (.i .i64 3)) },
  { dst := some 15, op := .call .pure (.c (.fn 108 [] [])) [.t 14] },
  { dst := some 4, op := .new ([.i .i64 0, .i .i64 0]) },
  { dst := some 5, op := .new ([.i .i64 0, .i .i64 0]) },
  { dst := none, op := .st 2 (.t 4) (.t 11) },
  { dst := none, op := .st 2 (.t 5) (.t 15) }])
 (.seq (.seq (.reg false [{ dst := some 16, op := .mv (.t 3) },
  { dst := some 17, op := .bin .rem (.t 16) (.c (.i .i64 10)) }])
 (.blk 0 (.seq (.seq (.reg false [{ dst := some 19, op := .bin .eql (.t 17) (.c (.i .i64 0)) },
  { dst := some 18, op := .mv (.t 19) }])
 (.cond (.t 18) .skip
 (.seq (.reg false [{ dst := some 20, op := .bin .eql (.t 17) (.c (.i .i64 1)) },
  { dst := some 18, op := .mv (.t 20) }])
 (.cond (.t 18) .skip
 (.reg false [{ dst := some 21, op := .bin .eql (.t 17) (.c (.i .i64 2)) },
  { dst := some 18, op := .mv (.t 21) }])))))
 (.cond (.t 18) (.seq (.reg false [{ dst := some 22, op := .ld (some 2) (.t 5) },
  { dst := some 23, op := .bsl true 1 ([.i .i64 0, .i .i64 0]) [(0, 2, .t 22)] },
  { dst := some 2, op := .mv (.t 23) }])
 .ret)
 (.seq (.seq (.reg false [{ dst := some 25, op := .bin .eql (.t 17) (.c (.i .i64 3)) },
  { dst := some 24, op := .mv (.t 25) }])
 (.cond (.t 24) .skip
 (.seq (.reg false [{ dst := some 26, op := .bin .eql (.t 17) (.c (.i .i64 4)) },
  { dst := some 24, op := .mv (.t 26) }])
 (.cond (.t 24) .skip
 (.reg false [{ dst := some 27, op := .bin .eql (.t 17) (.c (.i .i64 5)) },
  { dst := some 24, op := .mv (.t 27) }])))))
 (.cond (.t 24) (.seq (.reg false [{ dst := some 28, op := .ld (some 2) (.t 4) },
  { dst := some 29, op := .bsl true 1 ([.i .i64 0, .i .i64 0]) [(0, 2, .t 28)] },
  { dst := some 2, op := .mv (.t 29) }])
 .ret)
 (.seq (.reg false [{ dst := some 31, op := .bin .eql (.t 17) (.c (.i .i64 6)) },
  { dst := some 30, op := .mv (.t 31) }])
 (.cond (.t 30) (.seq (.reg true [{ dst := some 32, op := .ld (some 2) (.t 4), pre := [] },
  { dst := some 33, op := .ld (some 2) (.t 4), pre := [] },
  { dst := some 34, op := .call .pure (.c (.fn 124 [] [])) [.c (.i .i64 4)], pre := [] },
  { dst := some 35, op := .bsl true 3 (List.replicate 6 (.i .i64 0)) [(0, 2, .t 32), (2, 2, .t 33), (4, 2, .t 34)], pre := [] },
  { dst := some 2, op := .mv (.t 35) }])
 .ret)
 (.seq (.reg false [{ dst := some 37, op := .bin .eql (.t 17) (.c (.i .i64 7)) },
  { dst := some 36, op := .mv (.t 37) }])
 (.cond (.t 36) (.seq (.reg true [{ dst := some 38, op := .ld (some 2) (.t 4), pre := [] },
  { dst := some 39, op := .ld (some 2) (.t 5), pre := [] },
  { dst := some 40, op := .call .pure (.c (.fn 124 [] [])) [.c (.i .i64 5)], pre := [] },
  { dst := some 41, op := .bsl true 3 (List.replicate 6 (.i .i64 0)) [(0, 2, .t 38), (2, 2, .t 39), (4, 2, .t 40)], pre := [] },
  { dst := some 2, op := .mv (.t 41) }])
 .ret)
 (.seq (.reg false [{ dst := some 43, op := .bin .eql (.t 17) (.c (.i .i64 8)) },
  { dst := some 42, op := .mv (.t 43) }])
 (.cond (.t 42) (.seq (.reg true [{ dst := some 44, op := .ld (some 2) (.t 4), pre := [] },
  { dst := some 45, op := .ld (some 2) (.t 5), pre := [] },
  { dst := some 46, op := .call .pure (.c (.fn 124 [] [])) [.c (.i .i64 6)], pre := [] },
  { dst := some 47, op := .bsl true 3 (List.replicate 6 (.i .i64 0)) [(0, 2, .t 44), (2, 2, .t 45), (4, 2, .t 46)], pre := [] },
  { dst := some 2, op := .mv (.t 47) }])
 .ret)
 .skip))))))))))))
 (.seq (.reg true [{ dst := some 48, op := .ld (some 2) (.t 5), pre := [] },
  { dst := some 49, op := .call .pure (.c (.fn 108 [] [])) [.c (.i .i64 1)], pre := [] },
  { dst := some 50, op := .call .pure (.c (.fn 124 [] [])) [.c (.i .i64 3)], pre := [] },
  { dst := some 51, op := .bsl true 3 (List.replicate 6 (.i .i64 0)) [(0, 2, .t 48), (2, 2, .t 49), (4, 2, .t 50)], pre := [] },
  { dst := some 2, op := .mv (.t 51) }])
 .ret))))) }
def A_xlaw00_num : AFun := { res := [.cell 2 (some 2)], body := (.seq (.reg false [{ dst := some 2, op := .new ([.i .i64 0, .i .i64 0]) }])
 (.seq (.reg false [{ dst := some 3, op := .mv (.t 0) },
  { dst := some 4, op := .build ([.i .i64 0, .i .i64 0]) [(0, 1, .c (.i .i64 1)), (1, 1, .t 3)] },
  { dst := none, op := .st 2 (.t 2) (.t 4) }])
 .ret)) }
def A_xlaw00_reg : AFun := { res := [.cell 2 (some 2)], body := (.seq (.reg false [{ dst := some 2, op := .new ([.i .i64 0, .i .i64 0]) }])
 (.seq (.reg false [{ dst := some 3, op := .mv (.t 0) },
  { dst := some 4, op := .build ([.i .i64 0, .i .i64 0]) [(0, 1, .c (.i .i64 2)), (1, 1, .t 3)] },
  { dst := none, op := .st 2 (.t 2) (.t 4) }])
 .ret)) }
def A_xlaw00_op : AFun := { res := [.cell 2 (some 2)], body := (.seq (.reg false [{ dst := some 2, op := .new ([.i .i64 0, .i .i64 0]) }])
 (.seq (.reg false [{ dst := some 3, op := .mv (.t 0) },
  { dst := some 4, op := .build ([.i .i64 0, .i .i64 0]) [(0, 1, .c (.i .i64 3)), (1, 1, .t 3)] },
  { dst := none, op := .st 2 (.t 2) (.t 4) }])
 .ret)) }
structure Pk_xlaw00 (F : Funs) : Prop where
  xlaw00_Place : F 10 = some A_xlaw00_Place
  xlaw00_FewGraph : F 44 = some A_xlaw00_FewGraph
  xlaw00_Small : F 76 = some A_xlaw00_Small
  xlaw00_Loads : F 77 = some A_xlaw00_Loads
  xlaw00_Domain : F 79 = some A_xlaw00_Domain
  xlaw00_Prog : F 86 = some A_xlaw00_Prog
  xlaw00_Instr : F 97 = some A_xlaw00_Instr
  xlaw00_Expr : F 107 = some A_xlaw00_Expr
  xlaw00_num : F 108 = some A_xlaw00_num
  xlaw00_reg : F 123 = some A_xlaw00_reg
  xlaw00_op : F 124 = some A_xlaw00_op
end Go.Ab
end
section
/- Relations asx the program has them: a number of places, forty rows of bits. -/
set_option linter.unusedVariables false
set_option linter.unusedSimpArgs false
namespace Go.Ab
abbrev Rw := Nat → BitVec 64
def U (x : BitVec 64) : AV := .i .u64 (x.toNat : Int)
def rowsC (R : Rw) : List AV := (List.range 40).map fun a => U (R a)
def relC (n : Nat) (R : Rw) : List AV := .i .i64 n :: rowsC R
theorem rowsC_len (R : Rw) : (rowsC R).length = 40 := by simp [rowsC]
theorem relC_len (n : Nat) (R : Rw) : (relC n R).length = 41 := by simp [relC, rowsC_len]
theorem rowsC_get {R : Rw} {a : Nat} (h : a < 40) : (rowsC R)[a]? = some (U (R a)) := by
  simp [rowsC, h]
theorem relC_n (n : Nat) (R : Rw) : part (relC n R) 0 none = some (.i .i64 n) := rfl
theorem relC_row {n : Nat} {R : Rw} {a : Nat} (h : a < 40) : part (relC n R) (0 + 1 + a * 1) none = some (U (R a)) := by
  rw [show 0 + 1 + a * 1 = a + 1 by omega]
  simp only [part, relC, List.getElem?_cons_succ, rowsC_get h]
theorem relC_drop1 (n : Nat) (R : Rw) : (relC n R).drop 1 = rowsC R := rfl
theorem relC_row' {R : Rw} {a : Nat} (h : a < 40) : part ((rowsC R).drop (a * 1)) 0 none = some (U (R a)) := by
  simp only [part, List.getElem?_drop, Nat.mul_one, Nat.add_zero, rowsC_get h]
theorem relC_set {n : Nat} {R : Rw} {a : Nat} {x : BitVec 64} (h : a < 40) : splice (relC n R) (0 + 1 + a * 1) [U x] = relC n (upd R a x) := by
  rw [show 0 + 1 + a * 1 = a + 1 by omega]
  show (relC n R).set (a + 1) (U x) = _
  simp only [relC, List.set_cons_succ]
  congr 1
  refine List.ext_getElem? fun i => ?_
  rw [List.getElem?_set]
  by_cases hi : i < 40
  · rw [rowsC_get hi]
    by_cases ha : a = i
    · subst ha
      rw [if_pos rfl, if_pos (by rw [rowsC_len]; exact h), rowsC_get hi, upd_same]
    · have : i ≠ a := fun h => ha h.symm
      rw [if_neg ha, rowsC_get hi, upd_ne _ _ this]
  · have h1 : (rowsC R)[i]? = none := by rw [List.getElem?_eq_none]; rw [rowsC_len]; omega
    have h2 : (rowsC (upd R a x))[i]? = none := by rw [List.getElem?_eq_none]; rw [rowsC_len]; omega
    rw [h2, h1]
    have : a ≠ i := by omega
    simp [this]
theorem relC_set' {n : Nat} {R : Rw} {a : Nat} {x : BitVec 64} (h : a < 40) : (relC n R).set (0 + 1 + a * 1) (U x) = relC n (upd R a x) := relC_set h
theorem cellsOf_U (x : BitVec 64) : cellsOf (U x) = [U x] := rfl
theorem one_U (x : BitVec 64) : one (U x) = true := rfl
theorem relC_flat (n : Nat) (R : Rw) : (relC n R).all flat = true := by
  simp [relC, rowsC, U, flat]
theorem relC_one (n : Nat) (R : Rw) : (relC n R).all one = true := by
  simp [relC, rowsC, U, one]
def bit (b : Nat) : BitVec 64 := 1#64 <<< b
theorem u64_wrap {x : Nat} (h : x < 2 ^ 64) : IntKind.u64.wrap (x : Int) = x := by
  simp [IntKind.wrap, IntKind.bits, IntKind.signed, IntKind.min, IntKind.max]
  omega
theorem ofU (x : BitVec 64) : BitVec.ofInt IntKind.u64.bits (x.toNat : Int) = x := by
  show BitVec.ofInt 64 _ = _
  apply BitVec.eq_of_toNat_eq
  simp
theorem u_or (x y : BitVec 64) : abin .or (U x) (U y) = some (U (x ||| y)) := by
  simp only [abin, U, ibin, if_true, ofU]
  show some (AV.i .u64 (IntKind.u64.wrap (((x ||| y : BitVec 64).toNat : Nat) : Int))) = _
  rw [u64_wrap (x ||| y : BitVec 64).isLt]
theorem u_and (x y : BitVec 64) : abin .and (U x) (U y) = some (U (x &&& y)) := by
  simp only [abin, U, ibin, if_true, ofU]
  show some (AV.i .u64 (IntKind.u64.wrap (((x &&& y : BitVec 64).toNat : Nat) : Int))) = _
  rw [u64_wrap (x &&& y : BitVec 64).isLt]
theorem u_andNot (x y : BitVec 64) : abin .andNot (U x) (U y) = some (U (x &&& ~~~ y)) := by
  simp only [abin, U, ibin, if_true, ofU]
  show some (AV.i .u64 (IntKind.u64.wrap (((x &&& ~~~ y : BitVec 64).toNat : Nat) : Int))) = _
  rw [u64_wrap (x &&& ~~~ y : BitVec 64).isLt]
theorem u_shl {b : Int} (h0 : 0 ≤ b) (h : b < 40) : abin .shl (.i .u64 1) (.i .i64 b) = some (U (bit b.toNat)) := by
  obtain ⟨k, rfl⟩ : ∃ k : Nat, b = k := ⟨b.toNat, by omega⟩
  have hk : k < 40 := by omega
  simp only [abin, ishift]
  rw [if_neg (by omega)]
  rw [show min ((k : Int)).toNat IntKind.u64.bits = k by show min k 64 = k; omega]
  have h2 : (2 ^ k : Nat) < 2 ^ 64 := Nat.pow_lt_pow_right (by omega) (by omega)
  have : (1 : Int) * 2 ^ k = ((2 ^ k : Nat) : Int) := by simp
  rw [this, u64_wrap h2]
  simp only [U, bit, Int.toNat_natCast, BitVec.toNat_shiftLeft, Nat.shiftLeft_eq]
  congr 2
  rw [show (1#64).toNat = 1 from rfl, Nat.one_mul, Nat.mod_eq_of_lt h2]
theorem u_test {x : BitVec 64} {b : Int} (h0 : 0 ≤ b) (h : b < 40) : ∃ y : BitVec 64, abin .shr (U x) (.i .i64 b) = some (U y) ∧ abin .and (U y) (.i .u64 1) = some (U (y &&& 1#64)) ∧ abin .neq (U (y &&& 1#64)) (.i .u64 0) = some (.b (x.getLsbD b.toNat)) := by
  obtain ⟨k, rfl⟩ : ∃ k : Nat, b = k := ⟨b.toNat, by omega⟩
  have hk : k < 40 := by omega
  refine ⟨x >>> k, ?_, u_and _ 1#64, ?_⟩
  · simp only [abin, ishift, U]
    rw [if_neg (by omega)]
    rw [show min ((k : Int)).toNat IntKind.u64.bits = k by show min k 64 = k; omega]
    simp only [BitVec.toNat_ushiftRight, Nat.shiftRight_eq_div_pow]
    congr 2
    have : (2 : Int) ^ k = ((2 ^ k : Nat) : Int) := by simp
    rw [this, Int.fdiv_eq_ediv_of_nonneg _ (Int.natCast_nonneg _)]
    norm_cast
  · rw [show (AV.i .u64 0) = U 0#64 from rfl]
    simp only [U, b_neq]
    congr 2
    simp only [Int.toNat_natCast]
    have key : ((x >>> k) &&& 1#64).toNat = if x.getLsbD k then 1 else 0 := by
      rw [BitVec.toNat_and, BitVec.toNat_ushiftRight]
      simp [Nat.and_one_is_mod, BitVec.getLsbD, Nat.testBit, Nat.and_comm]
      split <;> omega
    rw [key]
    split <;> simp_all
theorem frz_rel {hp : Nat → Option Blk} {id n : Nat} {R : Rw} {ro : Bool} (h : hp id = some (.cells (relC n R) ro)) : frz hp depth (.mp id 0) = some (.ptr (relC n R)) := frz_d_mp h (frzL_flat (relC_flat n R))
theorem splice_rel (n : Nat) (R : Rw) : splice (.i .i64 0 :: List.replicate 40 (.i .u64 0)) 0 (relC n R) = relC n R := by
  have h : ∀ (cs vs : List AV) (a b : AV), vs.length = cs.length → splice (a :: cs) 0 (b :: vs) = b :: vs := by
    intro cs vs a b h
    cases vs with
    | nil => cases cs <;> first | rfl | simp at h
    | cons v vs =>
      show [] ++ (b :: v :: vs) ++ List.drop (0 + (b :: v :: vs).length) (a :: cs) = _
      rw [List.drop_eq_nil_of_le (by simp at h ⊢; omega)]
      simp
  exact h _ _ _ _ (by simp [rowsC_len])
theorem part_rel (n : Nat) (R : Rw) : part (relC n R) 0 (some 41) = some (.agg (relC n R)) := by
  simp [part, relC_len]
  rw [List.take_of_length_le (by rw [relC_len]; omega)]

theorem frz_U (hp x) : frz hp depth (U x) = some (U x) := frz_d_i hp .u64 _
theorem flat_U (x) : flat (U x) = true := rfl
theorem vis_U (hp x) : vis hp depth (U x) = [] := vis_i hp .u64 _
theorem relC_congr {n : Nat} {R S : Rw} (h : ∀ a, a < 40 → R a = S a) : relC n R = relC n S := by
  unfold relC rowsC
  congr 1
  exact List.map_congr_left fun a ha => by rw [h a (List.mem_range.1 ha)]
theorem part_rows (R : Rw) : part (rowsC R) 0 (some 40) = some (.agg (rowsC R)) := by
  simp [part, rowsC_len]
  rw [List.take_of_length_le (by rw [rowsC_len]; omega)]
theorem cellsEq_U : ∀ l : List (BitVec 64), cellsEq (List.replicate l.length 0) (l.map U) (List.replicate l.length (.i .u64 0)) = some (l.all (· == 0#64))
  | [] => rfl
  | x :: l => by
    simp only [List.length_cons, List.replicate_succ, List.map_cons, cellsEq, cellsEq_U l, List.all_cons]
    show (match cellEq 0 (U x) (.i .u64 0), some (l.all (· == 0#64)) with | some a, some b => some (a && b) | _, _ => none) = _
    have : cellEq 0 (U x) (.i .u64 0) = some (x == 0#64) := by
      simp only [U, cellEq, if_true]
      congr 1
      by_cases h : x = 0#64
      · subst h; rfl
      · have : x.toNat ≠ 0 := fun h' => h (BitVec.eq_of_toNat_eq (by simpa using h'))
        rw [Bool.eq_iff_iff]
        simp [h]; omega
    rw [this]
def noneR (R : Rw) : Bool := (List.range 40).all fun a => R a == 0#64
theorem eqa_rows (R : Rw) : aeqa (List.replicate 40 0) (.agg (rowsC R)) (.agg (List.replicate 40 (.i .u64 0))) = some (noneR R) := by
  have := cellsEq_U ((List.range 40).map R)
  simp only [List.length_map, List.length_range, List.map_map] at this
  show cellsEq _ _ _ = _
  unfold rowsC noneR
  rw [show (fun a => U (R a)) = U ∘ R from rfl, this, List.all_map]
  rfl
end Go.Ab
end
section
/- What the functions of package rel compute. -/
set_option linter.unusedVariables false
set_option linter.unusedSimpArgs false
namespace Go.Ab
variable {F : Funs}
def has (n : Nat) (R : Rw) (a b : Int) : Bool := decide (0 ≤ a ∧ a < n ∧ 0 ≤ b ∧ b < n) && (R a.toNat).getLsbD b.toNat

theorem sp_has (pk : Pk_rel F) {n : Nat} (hn : n ≤ 40) (R : Rw) (a b : Int) : pureS F 13 [.ptr (relC n R), .i .i64 a, .i .i64 b] = some (.b (has n R a b)) := by
  refine pure_of pk.rel_Rel_Has ?_
  have hl := relC_len n R
  by_cases h1 : 0 ≤ a
  · by_cases h2 : a < n
    · by_cases h3 : 0 ≤ b
      · by_cases h4 : b < n
        · obtain ⟨y, hy1, hy2, hy3⟩ := u_test (x := R a.toNat) h3 (by omega)
          have h5 : (0 : Int) ≤ a := h1
          simp (disch := omega) only [A_rel_Rel_Has, W_skip, W_ext, W_ret, W_seq, thenQ_nrm, thenQ_ext, thenQ_ret, W_cond, selW_true, selW_false, W_blk, blkQ_nrm, blkQ_ret, blkQ_same, blkQ_ne, W_reg, nrmQ_is, WR_nil, WR_cons, selO_true, selO_false, bindO_some, loopQ_nrm, loopQ_ext, loopQ_ret, wanted_none, wanted_some, wantV_1, wantV_0, wantV_undef, ev_t, ev_c, put_some, put_none, upd_same, upd_ne, List.length_cons, List.length_nil, List.map_cons, List.map_nil, allow_no, allow_lt, argEnv_0, argEnv_1, argEnv_2, argEnv_3, argEnv_4, argEnv_5, res_1, res_2, retQ_nrm, retQ_ret, o_mv, o_pick, vPick_t, vPick_f, o_new, o_box, vBox_S, boxD_ok, vMap_some, vMapL_some, o_build, o_ld, vLd_ptr, vLd_S, ldS_ok, selB_true, o_st, vSt_S, stS_ok, stD_ok, o_nilck, vNil_ptr, vNil_mp, vNil_fn, o_bin, o_un, o_mkfn, o_fa, vFa_mp, vFa_S, faD_ok, o_fld, vFld_agg, o_ia, vIa_sl, vIa_ms, o_iaa, vIaa_ptr, vIaa_mp, o_len, vLen_sl, vLen_ms, o_mx, o_mn, vMx_i, vMn_i, o_ext, vExt_tup, b_add, b_sub, b_mul, b_lss, b_leq, b_gtr, b_geq, b_eql, b_neq, o_pure, List.nil_append, List.append_nil, List.cons_append, frz_d_i, frz_d_b, frz_d_s, frz_d_nilp, frz_d_ptr, frz_d_sl, frz_d_fn0, Bool.not_true, Bool.not_false, Bool.true_and, Bool.and_true, Bool.false_and, Bool.and_false, decide_true, decide_false, beq_self_eq_true, Bool.true_eq_false, Bool.false_eq_true, Nat.zero_add, Nat.add_zero, Int.toNat_natCast, ge_iff_le, gt_iff_lt, fill_S, fillD_ok, fill_nil, cellsOf_agg, cellsOf_i, cellsOf_b, cellsOf_s, cellsOf_ptr, cellsOf_nilp, cellsOf_sl, cellsOf_mp, cellsOf_fn, one_i, one_b, one_s, one_ptr, one_nilp, one_sl, one_mp, one_fn, List.all_cons, List.all_nil, splice_1, splice_2, splice_3, part_0, part_1, part_2, drop_0, g0_nx, g0_hp, List.set_cons_zero, List.set_cons_succ, List.length_append, List.length_replicate, Nat.reduceAdd, Nat.reduceMul, Nat.reduceSub, eq_self, true_and, and_true, vPure_S, purS_some, purD_some, purE_true, frzL_cons, frzL_nil, consO_ok, flat_i, flat_b, flat_s, flat_nilp, flat_ptr, flat_sl, flat_agg, flat_tup, vis_i, vis_b, vis_s, vis_nilp, vis_ptr, vis_sl, vis_fn0, List.flatMap_cons, List.flatMap_nil, isEmpty_nil, Bool.true_or, Bool.false_or, Bool.or_true, Bool.or_false, frz_P, frz_Q, frzP_cells, frzB_true, map_some', rd_S, o_bsl, vBsl_t, vBsl_f, o_app, appD_ok, vApp_rig, vApp_rig0, appK_ok, vApp_own, o_eqn, o_eqb, o_eqa, aeqn_pn, aeqn_np, aeqn_mn, aeqn_nn, aeqb_bb, negb_t, negb_f, aun_not, midQ_nrm, h1, h2, h3, h4, hl, drop_0, relC_n, relC_drop1, relC_row', hy1, hy2, hy3]
          simp [has, h1, h2, h3, h4]
        · simp (disch := omega) only [A_rel_Rel_Has, W_skip, W_ext, W_ret, W_seq, thenQ_nrm, thenQ_ext, thenQ_ret, W_cond, selW_true, selW_false, W_blk, blkQ_nrm, blkQ_ret, blkQ_same, blkQ_ne, W_reg, nrmQ_is, WR_nil, WR_cons, selO_true, selO_false, bindO_some, loopQ_nrm, loopQ_ext, loopQ_ret, wanted_none, wanted_some, wantV_1, wantV_0, wantV_undef, ev_t, ev_c, put_some, put_none, upd_same, upd_ne, List.length_cons, List.length_nil, List.map_cons, List.map_nil, allow_no, allow_lt, argEnv_0, argEnv_1, argEnv_2, argEnv_3, argEnv_4, argEnv_5, res_1, res_2, retQ_nrm, retQ_ret, o_mv, o_pick, vPick_t, vPick_f, o_new, o_box, vBox_S, boxD_ok, vMap_some, vMapL_some, o_build, o_ld, vLd_ptr, vLd_S, ldS_ok, selB_true, o_st, vSt_S, stS_ok, stD_ok, o_nilck, vNil_ptr, vNil_mp, vNil_fn, o_bin, o_un, o_mkfn, o_fa, vFa_mp, vFa_S, faD_ok, o_fld, vFld_agg, o_ia, vIa_sl, vIa_ms, o_iaa, vIaa_ptr, vIaa_mp, o_len, vLen_sl, vLen_ms, o_mx, o_mn, vMx_i, vMn_i, o_ext, vExt_tup, b_add, b_sub, b_mul, b_lss, b_leq, b_gtr, b_geq, b_eql, b_neq, o_pure, List.nil_append, List.append_nil, List.cons_append, frz_d_i, frz_d_b, frz_d_s, frz_d_nilp, frz_d_ptr, frz_d_sl, frz_d_fn0, Bool.not_true, Bool.not_false, Bool.true_and, Bool.and_true, Bool.false_and, Bool.and_false, decide_true, decide_false, beq_self_eq_true, Bool.true_eq_false, Bool.false_eq_true, Nat.zero_add, Nat.add_zero, Int.toNat_natCast, ge_iff_le, gt_iff_lt, fill_S, fillD_ok, fill_nil, cellsOf_agg, cellsOf_i, cellsOf_b, cellsOf_s, cellsOf_ptr, cellsOf_nilp, cellsOf_sl, cellsOf_mp, cellsOf_fn, one_i, one_b, one_s, one_ptr, one_nilp, one_sl, one_mp, one_fn, List.all_cons, List.all_nil, splice_1, splice_2, splice_3, part_0, part_1, part_2, drop_0, g0_nx, g0_hp, List.set_cons_zero, List.set_cons_succ, List.length_append, List.length_replicate, Nat.reduceAdd, Nat.reduceMul, Nat.reduceSub, eq_self, true_and, and_true, vPure_S, purS_some, purD_some, purE_true, frzL_cons, frzL_nil, consO_ok, flat_i, flat_b, flat_s, flat_nilp, flat_ptr, flat_sl, flat_agg, flat_tup, vis_i, vis_b, vis_s, vis_nilp, vis_ptr, vis_sl, vis_fn0, List.flatMap_cons, List.flatMap_nil, isEmpty_nil, Bool.true_or, Bool.false_or, Bool.or_true, Bool.or_false, frz_P, frz_Q, frzP_cells, frzB_true, map_some', rd_S, o_bsl, vBsl_t, vBsl_f, o_app, appD_ok, vApp_rig, vApp_rig0, appK_ok, vApp_own, o_eqn, o_eqb, o_eqa, aeqn_pn, aeqn_np, aeqn_mn, aeqn_nn, aeqb_bb, negb_t, negb_f, aun_not, midQ_nrm, h1, h2, h3, h4, hl, drop_0, relC_n]
          simp [has, h4]
      · simp (disch := omega) only [A_rel_Rel_Has, W_skip, W_ext, W_ret, W_seq, thenQ_nrm, thenQ_ext, thenQ_ret, W_cond, selW_true, selW_false, W_blk, blkQ_nrm, blkQ_ret, blkQ_same, blkQ_ne, W_reg, nrmQ_is, WR_nil, WR_cons, selO_true, selO_false, bindO_some, loopQ_nrm, loopQ_ext, loopQ_ret, wanted_none, wanted_some, wantV_1, wantV_0, wantV_undef, ev_t, ev_c, put_some, put_none, upd_same, upd_ne, List.length_cons, List.length_nil, List.map_cons, List.map_nil, allow_no, allow_lt, argEnv_0, argEnv_1, argEnv_2, argEnv_3, argEnv_4, argEnv_5, res_1, res_2, retQ_nrm, retQ_ret, o_mv, o_pick, vPick_t, vPick_f, o_new, o_box, vBox_S, boxD_ok, vMap_some, vMapL_some, o_build, o_ld, vLd_ptr, vLd_S, ldS_ok, selB_true, o_st, vSt_S, stS_ok, stD_ok, o_nilck, vNil_ptr, vNil_mp, vNil_fn, o_bin, o_un, o_mkfn, o_fa, vFa_mp, vFa_S, faD_ok, o_fld, vFld_agg, o_ia, vIa_sl, vIa_ms, o_iaa, vIaa_ptr, vIaa_mp, o_len, vLen_sl, vLen_ms, o_mx, o_mn, vMx_i, vMn_i, o_ext, vExt_tup, b_add, b_sub, b_mul, b_lss, b_leq, b_gtr, b_geq, b_eql, b_neq, o_pure, List.nil_append, List.append_nil, List.cons_append, frz_d_i, frz_d_b, frz_d_s, frz_d_nilp, frz_d_ptr, frz_d_sl, frz_d_fn0, Bool.not_true, Bool.not_false, Bool.true_and, Bool.and_true, Bool.false_and, Bool.and_false, decide_true, decide_false, beq_self_eq_true, Bool.true_eq_false, Bool.false_eq_true, Nat.zero_add, Nat.add_zero, Int.toNat_natCast, ge_iff_le, gt_iff_lt, fill_S, fillD_ok, fill_nil, cellsOf_agg, cellsOf_i, cellsOf_b, cellsOf_s, cellsOf_ptr, cellsOf_nilp, cellsOf_sl, cellsOf_mp, cellsOf_fn, one_i, one_b, one_s, one_ptr, one_nilp, one_sl, one_mp, one_fn, List.all_cons, List.all_nil, splice_1, splice_2, splice_3, part_0, part_1, part_2, drop_0, g0_nx, g0_hp, List.set_cons_zero, List.set_cons_succ, List.length_append, List.length_replicate, Nat.reduceAdd, Nat.reduceMul, Nat.reduceSub, eq_self, true_and, and_true, vPure_S, purS_some, purD_some, purE_true, frzL_cons, frzL_nil, consO_ok, flat_i, flat_b, flat_s, flat_nilp, flat_ptr, flat_sl, flat_agg, flat_tup, vis_i, vis_b, vis_s, vis_nilp, vis_ptr, vis_sl, vis_fn0, List.flatMap_cons, List.flatMap_nil, isEmpty_nil, Bool.true_or, Bool.false_or, Bool.or_true, Bool.or_false, frz_P, frz_Q, frzP_cells, frzB_true, map_some', rd_S, o_bsl, vBsl_t, vBsl_f, o_app, appD_ok, vApp_rig, vApp_rig0, appK_ok, vApp_own, o_eqn, o_eqb, o_eqa, aeqn_pn, aeqn_np, aeqn_mn, aeqn_nn, aeqb_bb, negb_t, negb_f, aun_not, midQ_nrm, h1, h2, h3, hl, drop_0, relC_n]
        simp [has, h3]
    · simp (disch := omega) only [A_rel_Rel_Has, W_skip, W_ext, W_ret, W_seq, thenQ_nrm, thenQ_ext, thenQ_ret, W_cond, selW_true, selW_false, W_blk, blkQ_nrm, blkQ_ret, blkQ_same, blkQ_ne, W_reg, nrmQ_is, WR_nil, WR_cons, selO_true, selO_false, bindO_some, loopQ_nrm, loopQ_ext, loopQ_ret, wanted_none, wanted_some, wantV_1, wantV_0, wantV_undef, ev_t, ev_c, put_some, put_none, upd_same, upd_ne, List.length_cons, List.length_nil, List.map_cons, List.map_nil, allow_no, allow_lt, argEnv_0, argEnv_1, argEnv_2, argEnv_3, argEnv_4, argEnv_5, res_1, res_2, retQ_nrm, retQ_ret, o_mv, o_pick, vPick_t, vPick_f, o_new, o_box, vBox_S, boxD_ok, vMap_some, vMapL_some, o_build, o_ld, vLd_ptr, vLd_S, ldS_ok, selB_true, o_st, vSt_S, stS_ok, stD_ok, o_nilck, vNil_ptr, vNil_mp, vNil_fn, o_bin, o_un, o_mkfn, o_fa, vFa_mp, vFa_S, faD_ok, o_fld, vFld_agg, o_ia, vIa_sl, vIa_ms, o_iaa, vIaa_ptr, vIaa_mp, o_len, vLen_sl, vLen_ms, o_mx, o_mn, vMx_i, vMn_i, o_ext, vExt_tup, b_add, b_sub, b_mul, b_lss, b_leq, b_gtr, b_geq, b_eql, b_neq, o_pure, List.nil_append, List.append_nil, List.cons_append, frz_d_i, frz_d_b, frz_d_s, frz_d_nilp, frz_d_ptr, frz_d_sl, frz_d_fn0, Bool.not_true, Bool.not_false, Bool.true_and, Bool.and_true, Bool.false_and, Bool.and_false, decide_true, decide_false, beq_self_eq_true, Bool.true_eq_false, Bool.false_eq_true, Nat.zero_add, Nat.add_zero, Int.toNat_natCast, ge_iff_le, gt_iff_lt, fill_S, fillD_ok, fill_nil, cellsOf_agg, cellsOf_i, cellsOf_b, cellsOf_s, cellsOf_ptr, cellsOf_nilp, cellsOf_sl, cellsOf_mp, cellsOf_fn, one_i, one_b, one_s, one_ptr, one_nilp, one_sl, one_mp, one_fn, List.all_cons, List.all_nil, splice_1, splice_2, splice_3, part_0, part_1, part_2, drop_0, g0_nx, g0_hp, List.set_cons_zero, List.set_cons_succ, List.length_append, List.length_replicate, Nat.reduceAdd, Nat.reduceMul, Nat.reduceSub, eq_self, true_and, and_true, vPure_S, purS_some, purD_some, purE_true, frzL_cons, frzL_nil, consO_ok, flat_i, flat_b, flat_s, flat_nilp, flat_ptr, flat_sl, flat_agg, flat_tup, vis_i, vis_b, vis_s, vis_nilp, vis_ptr, vis_sl, vis_fn0, List.flatMap_cons, List.flatMap_nil, isEmpty_nil, Bool.true_or, Bool.false_or, Bool.or_true, Bool.or_false, frz_P, frz_Q, frzP_cells, frzB_true, map_some', rd_S, o_bsl, vBsl_t, vBsl_f, o_app, appD_ok, vApp_rig, vApp_rig0, appK_ok, vApp_own, o_eqn, o_eqb, o_eqa, aeqn_pn, aeqn_np, aeqn_mn, aeqn_nn, aeqb_bb, negb_t, negb_f, aun_not, midQ_nrm, h1, h2, hl, drop_0, relC_n]
      simp [has, h2]
  · simp (disch := omega) only [A_rel_Rel_Has, W_skip, W_ext, W_ret, W_seq, thenQ_nrm, thenQ_ext, thenQ_ret, W_cond, selW_true, selW_false, W_blk, blkQ_nrm, blkQ_ret, blkQ_same, blkQ_ne, W_reg, nrmQ_is, WR_nil, WR_cons, selO_true, selO_false, bindO_some, loopQ_nrm, loopQ_ext, loopQ_ret, wanted_none, wanted_some, wantV_1, wantV_0, wantV_undef, ev_t, ev_c, put_some, put_none, upd_same, upd_ne, List.length_cons, List.length_nil, List.map_cons, List.map_nil, allow_no, allow_lt, argEnv_0, argEnv_1, argEnv_2, argEnv_3, argEnv_4, argEnv_5, res_1, res_2, retQ_nrm, retQ_ret, o_mv, o_pick, vPick_t, vPick_f, o_new, o_box, vBox_S, boxD_ok, vMap_some, vMapL_some, o_build, o_ld, vLd_ptr, vLd_S, ldS_ok, selB_true, o_st, vSt_S, stS_ok, stD_ok, o_nilck, vNil_ptr, vNil_mp, vNil_fn, o_bin, o_un, o_mkfn, o_fa, vFa_mp, vFa_S, faD_ok, o_fld, vFld_agg, o_ia, vIa_sl, vIa_ms, o_iaa, vIaa_ptr, vIaa_mp, o_len, vLen_sl, vLen_ms, o_mx, o_mn, vMx_i, vMn_i, o_ext, vExt_tup, b_add, b_sub, b_mul, b_lss, b_leq, b_gtr, b_geq, b_eql, b_neq, o_pure, List.nil_append, List.append_nil, List.cons_append, frz_d_i, frz_d_b, frz_d_s, frz_d_nilp, frz_d_ptr, frz_d_sl, frz_d_fn0, Bool.not_true, Bool.not_false, Bool.true_and, Bool.and_true, Bool.false_and, Bool.and_false, decide_true, decide_false, beq_self_eq_true, Bool.true_eq_false, Bool.false_eq_true, Nat.zero_add, Nat.add_zero, Int.toNat_natCast, ge_iff_le, gt_iff_lt, fill_S, fillD_ok, fill_nil, cellsOf_agg, cellsOf_i, cellsOf_b, cellsOf_s, cellsOf_ptr, cellsOf_nilp, cellsOf_sl, cellsOf_mp, cellsOf_fn, one_i, one_b, one_s, one_ptr, one_nilp, one_sl, one_mp, one_fn, List.all_cons, List.all_nil, splice_1, splice_2, splice_3, part_0, part_1, part_2, drop_0, g0_nx, g0_hp, List.set_cons_zero, List.set_cons_succ, List.length_append, List.length_replicate, Nat.reduceAdd, Nat.reduceMul, Nat.reduceSub, eq_self, true_and, and_true, vPure_S, purS_some, purD_some, purE_true, frzL_cons, frzL_nil, consO_ok, flat_i, flat_b, flat_s, flat_nilp, flat_ptr, flat_sl, flat_agg, flat_tup, vis_i, vis_b, vis_s, vis_nilp, vis_ptr, vis_sl, vis_fn0, List.flatMap_cons, List.flatMap_nil, isEmpty_nil, Bool.true_or, Bool.false_or, Bool.or_true, Bool.or_false, frz_P, frz_Q, frzP_cells, frzB_true, map_some', rd_S, o_bsl, vBsl_t, vBsl_f, o_app, appD_ok, vApp_rig, vApp_rig0, appK_ok, vApp_own, o_eqn, o_eqb, o_eqa, aeqn_pn, aeqn_np, aeqn_mn, aeqn_nn, aeqb_bb, negb_t, negb_f, aun_not, midQ_nrm, h1, hl, drop_0, relC_n]
    simp [has, h1]
end Go.Ab
end
section
/- New. -/
set_option linter.unusedVariables false
set_option linter.unusedSimpArgs false
namespace Go.Ab
variable {F : Funs}
theorem pairsC_len (l : List (Int × Int)) : (pairsC l).length = l.length * 2 := by
  induction l with
  | nil => rfl
  | cons p l ih => simp only [pairsC, List.flatMap_cons, List.length_append, List.length_cons, List.length_nil] at ih ⊢; omega
theorem pairs_part : ∀ {l : List (Int × Int)} {k : Nat} (h : k < l.length), part ((pairsC l).drop (k * 2)) 0 (some 2) = some (.agg [.i .i64 (l.getD k (0, 0)).1, .i .i64 (l.getD k (0, 0)).2])
  | p :: l, 0, _ => by simp [pairsC, part]
  | p :: l, k + 1, h => by
    have := pairs_part (l := l) (k := k) (by simpa using h)
    simp only [List.getD_cons_succ]
    rw [← this]
    simp [pairsC, Nat.succ_mul]
def inR (n : Nat) (p : Int × Int) : Bool := decide (0 ≤ p.1 ∧ p.1 < n ∧ 0 ≤ p.2 ∧ p.2 < n)
def addR (n : Nat) (R : Rw) (p : Int × Int) : Rw := if inR n p then upd R p.1.toNat (R p.1.toNat ||| bit p.2.toNat) else R
def newR (n : Nat) (l : List (Int × Int)) : Rw := l.foldl (addR n) (fun _ => 0)
def clamp (n : Int) : Nat := (max 0 (min n 40)).toNat
theorem clamp_le (n : Int) : clamp n ≤ 40 := by unfold clamp; omega
theorem newR_take {n : Nat} {l : List (Int × Int)} {k : Nat} (h : k < l.length) : newR n (l.take (k + 1)) = addR n (newR n (l.take k)) (l.getD k (0, 0)) := by
  unfold newR
  rw [List.take_add_one, List.foldl_append, List.getElem?_eq_getElem h, List.getD_eq_getElem?_getD, List.getElem?_eq_getElem h]
  rfl
theorem zero_rel (n : Nat) : splice ([AV.i .i64 0] ++ List.replicate 40 (.i .u64 0)) 0 [.i .i64 n] = relC n (fun _ => 0) := rfl
theorem i64_wrap {x : Int} (h : -9223372036854775808 ≤ x) (h2 : x ≤ 9223372036854775807) : IntKind.i64.wrap x = x := by
  simp [IntKind.wrap, IntKind.bits, IntKind.signed, IntKind.min, IntKind.max]
  omega

set_option maxHeartbeats 1000000 in
theorem sp_new (pk : Pk_rel F) (n : Int) (l : List (Int × Int)) (t : Tok) (hlen : l.length < 9000000000000000000) : pureS F 11 [.i .i64 n, .sl (pairsC l) l.length t] = some (.ptr (relC (clamp n) (newR (clamp n) l))) := by
  refine pure_of pk.rel_New ?_
  have hc : (if (40 : Int) < n then (40 : Int) else n) = min n 40 := by split <;> omega
  have hc0 : (if (0 : Int) < min n 40 then min n 40 else 0) = clamp n := by unfold clamp; split <;> omega
  have hz : AV.i .i64 (clamp n) :: List.replicate 40 (.i .u64 0) = relC (clamp n) (fun _ => 0) := rfl
  simp (disch := omega) only [A_rel_New, W_skip, W_ext, W_ret, W_seq, thenQ_nrm, thenQ_ext, thenQ_ret, W_cond, selW_true, selW_false, W_blk, blkQ_nrm, blkQ_ret, blkQ_same, blkQ_ne, W_reg, nrmQ_is, WR_nil, WR_cons, selO_true, selO_false, bindO_some, loopQ_nrm, loopQ_ext, loopQ_ret, wanted_none, wanted_some, wantV_1, wantV_0, wantV_undef, ev_t, ev_c, put_some, put_none, upd_same, upd_ne, List.length_cons, List.length_nil, List.map_cons, List.map_nil, allow_no, allow_lt, argEnv_0, argEnv_1, argEnv_2, argEnv_3, argEnv_4, argEnv_5, res_1, res_2, retQ_nrm, retQ_ret, o_mv, o_pick, vPick_t, vPick_f, o_new, o_box, vBox_S, boxD_ok, vMap_some, vMapL_some, o_build, o_ld, vLd_ptr, vLd_S, ldS_ok, selB_true, o_st, vSt_S, stS_ok, stD_ok, o_nilck, vNil_ptr, vNil_mp, vNil_fn, o_bin, o_un, o_mkfn, o_fa, vFa_mp, vFa_S, faD_ok, o_fld, vFld_agg, o_ia, vIa_sl, vIa_ms, o_iaa, vIaa_ptr, vIaa_mp, o_len, vLen_sl, vLen_ms, o_mx, o_mn, vMx_i, vMn_i, o_ext, vExt_tup, b_add, b_sub, b_mul, b_lss, b_leq, b_gtr, b_geq, b_eql, b_neq, o_pure, List.nil_append, List.append_nil, List.cons_append, frz_d_i, frz_d_b, frz_d_s, frz_d_nilp, frz_d_ptr, frz_d_sl, frz_d_fn0, Bool.not_true, Bool.not_false, Bool.true_and, Bool.and_true, Bool.false_and, Bool.and_false, decide_true, decide_false, beq_self_eq_true, Bool.true_eq_false, Bool.false_eq_true, Nat.zero_add, Nat.add_zero, Int.toNat_natCast, ge_iff_le, gt_iff_lt, fill_S, fillD_ok, fill_nil, cellsOf_agg, cellsOf_i, cellsOf_b, cellsOf_s, cellsOf_ptr, cellsOf_nilp, cellsOf_sl, cellsOf_mp, cellsOf_fn, one_i, one_b, one_s, one_ptr, one_nilp, one_sl, one_mp, one_fn, List.all_cons, List.all_nil, splice_1, splice_2, splice_3, part_0, part_1, part_2, drop_0, g0_nx, g0_hp, List.set_cons_zero, List.set_cons_succ, List.length_append, List.length_replicate, Nat.reduceAdd, Nat.reduceMul, Nat.reduceSub, eq_self, true_and, and_true, vPure_S, purS_some, purD_some, purE_true, frzL_cons, frzL_nil, consO_ok, flat_i, flat_b, flat_s, flat_nilp, flat_ptr, flat_sl, flat_agg, flat_tup, vis_i, vis_b, vis_s, vis_nilp, vis_ptr, vis_sl, vis_fn0, List.flatMap_cons, List.flatMap_nil, isEmpty_nil, Bool.true_or, Bool.false_or, Bool.or_true, Bool.or_false, frz_P, frz_Q, frzP_cells, frzB_true, map_some', rd_S, o_bsl, vBsl_t, vBsl_f, o_app, appD_ok, vApp_rig, vApp_rig0, appK_ok, vApp_own, o_eqn, o_eqb, o_eqa, aeqn_pn, aeqn_np, aeqn_mn, aeqn_nn, aeqb_bb, negb_t, negb_f, aun_not, midQ_nrm, hc, hc0, hz, relC_one, List.all_append, List.all_replicate]
  refine W_loop (fun m e g => ∃ k, m = l.length - k ∧ k ≤ l.length ∧ e 13 = .sl (pairsC l) l.length t ∧ e 14 = .i .i64 l.length ∧ e 15 = .i .i64 k ∧ e 5 = .mp 5 0 ∧ g.hp 5 = some (.cells (relC (clamp n) (newR (clamp n) (l.take k))) false) ∧ 5 < g.nx) l.length ?_ ?_
  · refine ⟨0, rfl, Nat.zero_le _, ?_⟩
    simp (disch := omega) only [W_skip, W_ext, W_ret, W_seq, thenQ_nrm, thenQ_ext, thenQ_ret, W_cond, selW_true, selW_false, W_blk, blkQ_nrm, blkQ_ret, blkQ_same, blkQ_ne, W_reg, nrmQ_is, WR_nil, WR_cons, selO_true, selO_false, bindO_some, loopQ_nrm, loopQ_ext, loopQ_ret, wanted_none, wanted_some, wantV_1, wantV_0, wantV_undef, ev_t, ev_c, put_some, put_none, upd_same, upd_ne, List.length_cons, List.length_nil, List.map_cons, List.map_nil, allow_no, allow_lt, argEnv_0, argEnv_1, argEnv_2, argEnv_3, argEnv_4, argEnv_5, res_1, res_2, retQ_nrm, retQ_ret, o_mv, o_pick, vPick_t, vPick_f, o_new, o_box, vBox_S, boxD_ok, vMap_some, vMapL_some, o_build, o_ld, vLd_ptr, vLd_S, ldS_ok, selB_true, o_st, vSt_S, stS_ok, stD_ok, o_nilck, vNil_ptr, vNil_mp, vNil_fn, o_bin, o_un, o_mkfn, o_fa, vFa_mp, vFa_S, faD_ok, o_fld, vFld_agg, o_ia, vIa_sl, vIa_ms, o_iaa, vIaa_ptr, vIaa_mp, o_len, vLen_sl, vLen_ms, o_mx, o_mn, vMx_i, vMn_i, o_ext, vExt_tup, b_add, b_sub, b_mul, b_lss, b_leq, b_gtr, b_geq, b_eql, b_neq, o_pure, List.nil_append, List.append_nil, List.cons_append, frz_d_i, frz_d_b, frz_d_s, frz_d_nilp, frz_d_ptr, frz_d_sl, frz_d_fn0, Bool.not_true, Bool.not_false, Bool.true_and, Bool.and_true, Bool.false_and, Bool.and_false, decide_true, decide_false, beq_self_eq_true, Bool.true_eq_false, Bool.false_eq_true, Nat.zero_add, Nat.add_zero, Int.toNat_natCast, ge_iff_le, gt_iff_lt, fill_S, fillD_ok, fill_nil, cellsOf_agg, cellsOf_i, cellsOf_b, cellsOf_s, cellsOf_ptr, cellsOf_nilp, cellsOf_sl, cellsOf_mp, cellsOf_fn, one_i, one_b, one_s, one_ptr, one_nilp, one_sl, one_mp, one_fn, List.all_cons, List.all_nil, splice_1, splice_2, splice_3, part_0, part_1, part_2, drop_0, g0_nx, g0_hp, List.set_cons_zero, List.set_cons_succ, List.length_append, List.length_replicate, Nat.reduceAdd, Nat.reduceMul, Nat.reduceSub, eq_self, true_and, and_true, vPure_S, purS_some, purD_some, purE_true, frzL_cons, frzL_nil, consO_ok, flat_i, flat_b, flat_s, flat_nilp, flat_ptr, flat_sl, flat_agg, flat_tup, vis_i, vis_b, vis_s, vis_nilp, vis_ptr, vis_sl, vis_fn0, List.flatMap_cons, List.flatMap_nil, isEmpty_nil, Bool.true_or, Bool.false_or, Bool.or_true, Bool.or_false, frz_P, frz_Q, frzP_cells, frzB_true, map_some', rd_S, o_bsl, vBsl_t, vBsl_f, o_app, appD_ok, vApp_rig, vApp_rig0, appK_ok, vApp_own, o_eqn, o_eqb, o_eqa, aeqn_pn, aeqn_np, aeqn_mn, aeqn_nn, aeqb_bb, negb_t, negb_f, aun_not, midQ_nrm]
    exact ⟨rfl, rfl, by omega⟩
  · rintro m e g ⟨k, rfl, hk, h13, h14, h15, h5, hg, hn⟩
    have hcl := clamp_le n
    by_cases hk' : k < l.length
    · have hk1 : (k : Int) < l.length := by omega
      have hp := pairs_part hk'
      have hw : IntKind.i64.wrap ((k : Int) + 1) = ((k + 1 : Nat) : Int) := by rw [i64_wrap (by omega) (by omega)]; omega
      have ht := newR_take (n := clamp n) hk'
      have n1 : 5 ≠ g.nx + 1 + 2 := by omega
      have n2 : g.nx + 1 + 2 ≠ 5 := by omega
      generalize l.getD k (0, 0) = p at hp ht
      obtain ⟨a, b⟩ := p
      by_cases h1 : 0 ≤ a
      · by_cases h2 : a < clamp n
        · by_cases h3 : 0 ≤ b
          · by_cases h4 : b < clamp n
            · simp (disch := omega) only [W_skip, W_ext, W_ret, W_seq, thenQ_nrm, thenQ_ext, thenQ_ret, W_cond, selW_true, selW_false, W_blk, blkQ_nrm, blkQ_ret, blkQ_same, blkQ_ne, W_reg, nrmQ_is, WR_nil, WR_cons, selO_true, selO_false, bindO_some, loopQ_nrm, loopQ_ext, loopQ_ret, wanted_none, wanted_some, wantV_1, wantV_0, wantV_undef, ev_t, ev_c, put_some, put_none, upd_same, upd_ne, List.length_cons, List.length_nil, List.map_cons, List.map_nil, allow_no, allow_lt, argEnv_0, argEnv_1, argEnv_2, argEnv_3, argEnv_4, argEnv_5, res_1, res_2, retQ_nrm, retQ_ret, o_mv, o_pick, vPick_t, vPick_f, o_new, o_box, vBox_S, boxD_ok, vMap_some, vMapL_some, o_build, o_ld, vLd_ptr, vLd_S, ldS_ok, selB_true, o_st, vSt_S, stS_ok, stD_ok, o_nilck, vNil_ptr, vNil_mp, vNil_fn, o_bin, o_un, o_mkfn, o_fa, vFa_mp, vFa_S, faD_ok, o_fld, vFld_agg, o_ia, vIa_sl, vIa_ms, o_iaa, vIaa_ptr, vIaa_mp, o_len, vLen_sl, vLen_ms, o_mx, o_mn, vMx_i, vMn_i, o_ext, vExt_tup, b_add, b_sub, b_mul, b_lss, b_leq, b_gtr, b_geq, b_eql, b_neq, o_pure, List.nil_append, List.append_nil, List.cons_append, frz_d_i, frz_d_b, frz_d_s, frz_d_nilp, frz_d_ptr, frz_d_sl, frz_d_fn0, Bool.not_true, Bool.not_false, Bool.true_and, Bool.and_true, Bool.false_and, Bool.and_false, decide_true, decide_false, beq_self_eq_true, Bool.true_eq_false, Bool.false_eq_true, Nat.zero_add, Nat.add_zero, Int.toNat_natCast, ge_iff_le, gt_iff_lt, fill_S, fillD_ok, fill_nil, cellsOf_agg, cellsOf_i, cellsOf_b, cellsOf_s, cellsOf_ptr, cellsOf_nilp, cellsOf_sl, cellsOf_mp, cellsOf_fn, one_i, one_b, one_s, one_ptr, one_nilp, one_sl, one_mp, one_fn, List.all_cons, List.all_nil, splice_1, splice_2, splice_3, part_0, part_1, part_2, drop_0, g0_nx, g0_hp, List.set_cons_zero, List.set_cons_succ, List.length_append, List.length_replicate, Nat.reduceAdd, Nat.reduceMul, Nat.reduceSub, eq_self, true_and, and_true, vPure_S, purS_some, purD_some, purE_true, frzL_cons, frzL_nil, consO_ok, flat_i, flat_b, flat_s, flat_nilp, flat_ptr, flat_sl, flat_agg, flat_tup, vis_i, vis_b, vis_s, vis_nilp, vis_ptr, vis_sl, vis_fn0, List.flatMap_cons, List.flatMap_nil, isEmpty_nil, Bool.true_or, Bool.false_or, Bool.or_true, Bool.or_false, frz_P, frz_Q, frzP_cells, frzB_true, map_some', rd_S, o_bsl, vBsl_t, vBsl_f, o_app, appD_ok, vApp_rig, vApp_rig0, appK_ok, vApp_own, o_eqn, o_eqb, o_eqa, aeqn_pn, aeqn_np, aeqn_mn, aeqn_nn, aeqb_bb, negb_t, negb_f, aun_not, midQ_nrm, h13, h14, h15, h5, hk1, hp, hg, h1, h2, h3, h4, hw, relC_n, relC_row, u_shl, u_or, relC_len, cellsOf_U, one_U, relC_set']
              refine ⟨_, ?_, k + 1, rfl, by omega, rfl, ?_, by show 5 < _; omega⟩
              · omega
              · rw [ht]
                simp [addR, inR, h1, h2, h3, h4]
            · simp (disch := omega) only [W_skip, W_ext, W_ret, W_seq, thenQ_nrm, thenQ_ext, thenQ_ret, W_cond, selW_true, selW_false, W_blk, blkQ_nrm, blkQ_ret, blkQ_same, blkQ_ne, W_reg, nrmQ_is, WR_nil, WR_cons, selO_true, selO_false, bindO_some, loopQ_nrm, loopQ_ext, loopQ_ret, wanted_none, wanted_some, wantV_1, wantV_0, wantV_undef, ev_t, ev_c, put_some, put_none, upd_same, upd_ne, List.length_cons, List.length_nil, List.map_cons, List.map_nil, allow_no, allow_lt, argEnv_0, argEnv_1, argEnv_2, argEnv_3, argEnv_4, argEnv_5, res_1, res_2, retQ_nrm, retQ_ret, o_mv, o_pick, vPick_t, vPick_f, o_new, o_box, vBox_S, boxD_ok, vMap_some, vMapL_some, o_build, o_ld, vLd_ptr, vLd_S, ldS_ok, selB_true, o_st, vSt_S, stS_ok, stD_ok, o_nilck, vNil_ptr, vNil_mp, vNil_fn, o_bin, o_un, o_mkfn, o_fa, vFa_mp, vFa_S, faD_ok, o_fld, vFld_agg, o_ia, vIa_sl, vIa_ms, o_iaa, vIaa_ptr, vIaa_mp, o_len, vLen_sl, vLen_ms, o_mx, o_mn, vMx_i, vMn_i, o_ext, vExt_tup, b_add, b_sub, b_mul, b_lss, b_leq, b_gtr, b_geq, b_eql, b_neq, o_pure, List.nil_append, List.append_nil, List.cons_append, frz_d_i, frz_d_b, frz_d_s, frz_d_nilp, frz_d_ptr, frz_d_sl, frz_d_fn0, Bool.not_true, Bool.not_false, Bool.true_and, Bool.and_true, Bool.false_and, Bool.and_false, decide_true, decide_false, beq_self_eq_true, Bool.true_eq_false, Bool.false_eq_true, Nat.zero_add, Nat.add_zero, Int.toNat_natCast, ge_iff_le, gt_iff_lt, fill_S, fillD_ok, fill_nil, cellsOf_agg, cellsOf_i, cellsOf_b, cellsOf_s, cellsOf_ptr, cellsOf_nilp, cellsOf_sl, cellsOf_mp, cellsOf_fn, one_i, one_b, one_s, one_ptr, one_nilp, one_sl, one_mp, one_fn, List.all_cons, List.all_nil, splice_1, splice_2, splice_3, part_0, part_1, part_2, drop_0, g0_nx, g0_hp, List.set_cons_zero, List.set_cons_succ, List.length_append, List.length_replicate, Nat.reduceAdd, Nat.reduceMul, Nat.reduceSub, eq_self, true_and, and_true, vPure_S, purS_some, purD_some, purE_true, frzL_cons, frzL_nil, consO_ok, flat_i, flat_b, flat_s, flat_nilp, flat_ptr, flat_sl, flat_agg, flat_tup, vis_i, vis_b, vis_s, vis_nilp, vis_ptr, vis_sl, vis_fn0, List.flatMap_cons, List.flatMap_nil, isEmpty_nil, Bool.true_or, Bool.false_or, Bool.or_true, Bool.or_false, frz_P, frz_Q, frzP_cells, frzB_true, map_some', rd_S, o_bsl, vBsl_t, vBsl_f, o_app, appD_ok, vApp_rig, vApp_rig0, appK_ok, vApp_own, o_eqn, o_eqb, o_eqa, aeqn_pn, aeqn_np, aeqn_mn, aeqn_nn, aeqb_bb, negb_t, negb_f, aun_not, midQ_nrm, h13, h14, h15, h5, hk1, hp, hg, h1, h2, h3, h4, hw, relC_n]
              refine ⟨_, ?_, k + 1, rfl, by omega, rfl, ?_, by show 5 < _; omega⟩
              · omega
              · rw [ht]
                simp [addR, inR, h4]
          · simp (disch := omega) only [W_skip, W_ext, W_ret, W_seq, thenQ_nrm, thenQ_ext, thenQ_ret, W_cond, selW_true, selW_false, W_blk, blkQ_nrm, blkQ_ret, blkQ_same, blkQ_ne, W_reg, nrmQ_is, WR_nil, WR_cons, selO_true, selO_false, bindO_some, loopQ_nrm, loopQ_ext, loopQ_ret, wanted_none, wanted_some, wantV_1, wantV_0, wantV_undef, ev_t, ev_c, put_some, put_none, upd_same, upd_ne, List.length_cons, List.length_nil, List.map_cons, List.map_nil, allow_no, allow_lt, argEnv_0, argEnv_1, argEnv_2, argEnv_3, argEnv_4, argEnv_5, res_1, res_2, retQ_nrm, retQ_ret, o_mv, o_pick, vPick_t, vPick_f, o_new, o_box, vBox_S, boxD_ok, vMap_some, vMapL_some, o_build, o_ld, vLd_ptr, vLd_S, ldS_ok, selB_true, o_st, vSt_S, stS_ok, stD_ok, o_nilck, vNil_ptr, vNil_mp, vNil_fn, o_bin, o_un, o_mkfn, o_fa, vFa_mp, vFa_S, faD_ok, o_fld, vFld_agg, o_ia, vIa_sl, vIa_ms, o_iaa, vIaa_ptr, vIaa_mp, o_len, vLen_sl, vLen_ms, o_mx, o_mn, vMx_i, vMn_i, o_ext, vExt_tup, b_add, b_sub, b_mul, b_lss, b_leq, b_gtr, b_geq, b_eql, b_neq, o_pure, List.nil_append, List.append_nil, List.cons_append, frz_d_i, frz_d_b, frz_d_s, frz_d_nilp, frz_d_ptr, frz_d_sl, frz_d_fn0, Bool.not_true, Bool.not_false, Bool.true_and, Bool.and_true, Bool.false_and, Bool.and_false, decide_true, decide_false, beq_self_eq_true, Bool.true_eq_false, Bool.false_eq_true, Nat.zero_add, Nat.add_zero, Int.toNat_natCast, ge_iff_le, gt_iff_lt, fill_S, fillD_ok, fill_nil, cellsOf_agg, cellsOf_i, cellsOf_b, cellsOf_s, cellsOf_ptr, cellsOf_nilp, cellsOf_sl, cellsOf_mp, cellsOf_fn, one_i, one_b, one_s, one_ptr, one_nilp, one_sl, one_mp, one_fn, List.all_cons, List.all_nil, splice_1, splice_2, splice_3, part_0, part_1, part_2, drop_0, g0_nx, g0_hp, List.set_cons_zero, List.set_cons_succ, List.length_append, List.length_replicate, Nat.reduceAdd, Nat.reduceMul, Nat.reduceSub, eq_self, true_and, and_true, vPure_S, purS_some, purD_some, purE_true, frzL_cons, frzL_nil, consO_ok, flat_i, flat_b, flat_s, flat_nilp, flat_ptr, flat_sl, flat_agg, flat_tup, vis_i, vis_b, vis_s, vis_nilp, vis_ptr, vis_sl, vis_fn0, List.flatMap_cons, List.flatMap_nil, isEmpty_nil, Bool.true_or, Bool.false_or, Bool.or_true, Bool.or_false, frz_P, frz_Q, frzP_cells, frzB_true, map_some', rd_S, o_bsl, vBsl_t, vBsl_f, o_app, appD_ok, vApp_rig, vApp_rig0, appK_ok, vApp_own, o_eqn, o_eqb, o_eqa, aeqn_pn, aeqn_np, aeqn_mn, aeqn_nn, aeqb_bb, negb_t, negb_f, aun_not, midQ_nrm, h13, h14, h15, h5, hk1, hp, hg, h1, h2, h3, hw, relC_n]
            refine ⟨_, ?_, k + 1, rfl, by omega, rfl, ?_, by show 5 < _; omega⟩
            · omega
            · rw [ht]
              simp [addR, inR, h3]
        · simp (disch := omega) only [W_skip, W_ext, W_ret, W_seq, thenQ_nrm, thenQ_ext, thenQ_ret, W_cond, selW_true, selW_false, W_blk, blkQ_nrm, blkQ_ret, blkQ_same, blkQ_ne, W_reg, nrmQ_is, WR_nil, WR_cons, selO_true, selO_false, bindO_some, loopQ_nrm, loopQ_ext, loopQ_ret, wanted_none, wanted_some, wantV_1, wantV_0, wantV_undef, ev_t, ev_c, put_some, put_none, upd_same, upd_ne, List.length_cons, List.length_nil, List.map_cons, List.map_nil, allow_no, allow_lt, argEnv_0, argEnv_1, argEnv_2, argEnv_3, argEnv_4, argEnv_5, res_1, res_2, retQ_nrm, retQ_ret, o_mv, o_pick, vPick_t, vPick_f, o_new, o_box, vBox_S, boxD_ok, vMap_some, vMapL_some, o_build, o_ld, vLd_ptr, vLd_S, ldS_ok, selB_true, o_st, vSt_S, stS_ok, stD_ok, o_nilck, vNil_ptr, vNil_mp, vNil_fn, o_bin, o_un, o_mkfn, o_fa, vFa_mp, vFa_S, faD_ok, o_fld, vFld_agg, o_ia, vIa_sl, vIa_ms, o_iaa, vIaa_ptr, vIaa_mp, o_len, vLen_sl, vLen_ms, o_mx, o_mn, vMx_i, vMn_i, o_ext, vExt_tup, b_add, b_sub, b_mul, b_lss, b_leq, b_gtr, b_geq, b_eql, b_neq, o_pure, List.nil_append, List.append_nil, List.cons_append, frz_d_i, frz_d_b, frz_d_s, frz_d_nilp, frz_d_ptr, frz_d_sl, frz_d_fn0, Bool.not_true, Bool.not_false, Bool.true_and, Bool.and_true, Bool.false_and, Bool.and_false, decide_true, decide_false, beq_self_eq_true, Bool.true_eq_false, Bool.false_eq_true, Nat.zero_add, Nat.add_zero, Int.toNat_natCast, ge_iff_le, gt_iff_lt, fill_S, fillD_ok, fill_nil, cellsOf_agg, cellsOf_i, cellsOf_b, cellsOf_s, cellsOf_ptr, cellsOf_nilp, cellsOf_sl, cellsOf_mp, cellsOf_fn, one_i, one_b, one_s, one_ptr, one_nilp, one_sl, one_mp, one_fn, List.all_cons, List.all_nil, splice_1, splice_2, splice_3, part_0, part_1, part_2, drop_0, g0_nx, g0_hp, List.set_cons_zero, List.set_cons_succ, List.length_append, List.length_replicate, Nat.reduceAdd, Nat.reduceMul, Nat.reduceSub, eq_self, true_and, and_true, vPure_S, purS_some, purD_some, purE_true, frzL_cons, frzL_nil, consO_ok, flat_i, flat_b, flat_s, flat_nilp, flat_ptr, flat_sl, flat_agg, flat_tup, vis_i, vis_b, vis_s, vis_nilp, vis_ptr, vis_sl, vis_fn0, List.flatMap_cons, List.flatMap_nil, isEmpty_nil, Bool.true_or, Bool.false_or, Bool.or_true, Bool.or_false, frz_P, frz_Q, frzP_cells, frzB_true, map_some', rd_S, o_bsl, vBsl_t, vBsl_f, o_app, appD_ok, vApp_rig, vApp_rig0, appK_ok, vApp_own, o_eqn, o_eqb, o_eqa, aeqn_pn, aeqn_np, aeqn_mn, aeqn_nn, aeqb_bb, negb_t, negb_f, aun_not, midQ_nrm, h13, h14, h15, h5, hk1, hp, hg, h1, h2, hw, relC_n]
          refine ⟨_, ?_, k + 1, rfl, by omega, rfl, ?_, by show 5 < _; omega⟩
          · omega
          · rw [ht]
            simp [addR, inR, h2]
      · simp (disch := omega) only [W_skip, W_ext, W_ret, W_seq, thenQ_nrm, thenQ_ext, thenQ_ret, W_cond, selW_true, selW_false, W_blk, blkQ_nrm, blkQ_ret, blkQ_same, blkQ_ne, W_reg, nrmQ_is, WR_nil, WR_cons, selO_true, selO_false, bindO_some, loopQ_nrm, loopQ_ext, loopQ_ret, wanted_none, wanted_some, wantV_1, wantV_0, wantV_undef, ev_t, ev_c, put_some, put_none, upd_same, upd_ne, List.length_cons, List.length_nil, List.map_cons, List.map_nil, allow_no, allow_lt, argEnv_0, argEnv_1, argEnv_2, argEnv_3, argEnv_4, argEnv_5, res_1, res_2, retQ_nrm, retQ_ret, o_mv, o_pick, vPick_t, vPick_f, o_new, o_box, vBox_S, boxD_ok, vMap_some, vMapL_some, o_build, o_ld, vLd_ptr, vLd_S, ldS_ok, selB_true, o_st, vSt_S, stS_ok, stD_ok, o_nilck, vNil_ptr, vNil_mp, vNil_fn, o_bin, o_un, o_mkfn, o_fa, vFa_mp, vFa_S, faD_ok, o_fld, vFld_agg, o_ia, vIa_sl, vIa_ms, o_iaa, vIaa_ptr, vIaa_mp, o_len, vLen_sl, vLen_ms, o_mx, o_mn, vMx_i, vMn_i, o_ext, vExt_tup, b_add, b_sub, b_mul, b_lss, b_leq, b_gtr, b_geq, b_eql, b_neq, o_pure, List.nil_append, List.append_nil, List.cons_append, frz_d_i, frz_d_b, frz_d_s, frz_d_nilp, frz_d_ptr, frz_d_sl, frz_d_fn0, Bool.not_true, Bool.not_false, Bool.true_and, Bool.and_true, Bool.false_and, Bool.and_false, decide_true, decide_false, beq_self_eq_true, Bool.true_eq_false, Bool.false_eq_true, Nat.zero_add, Nat.add_zero, Int.toNat_natCast, ge_iff_le, gt_iff_lt, fill_S, fillD_ok, fill_nil, cellsOf_agg, cellsOf_i, cellsOf_b, cellsOf_s, cellsOf_ptr, cellsOf_nilp, cellsOf_sl, cellsOf_mp, cellsOf_fn, one_i, one_b, one_s, one_ptr, one_nilp, one_sl, one_mp, one_fn, List.all_cons, List.all_nil, splice_1, splice_2, splice_3, part_0, part_1, part_2, drop_0, g0_nx, g0_hp, List.set_cons_zero, List.set_cons_succ, List.length_append, List.length_replicate, Nat.reduceAdd, Nat.reduceMul, Nat.reduceSub, eq_self, true_and, and_true, vPure_S, purS_some, purD_some, purE_true, frzL_cons, frzL_nil, consO_ok, flat_i, flat_b, flat_s, flat_nilp, flat_ptr, flat_sl, flat_agg, flat_tup, vis_i, vis_b, vis_s, vis_nilp, vis_ptr, vis_sl, vis_fn0, List.flatMap_cons, List.flatMap_nil, isEmpty_nil, Bool.true_or, Bool.false_or, Bool.or_true, Bool.or_false, frz_P, frz_Q, frzP_cells, frzB_true, map_some', rd_S, o_bsl, vBsl_t, vBsl_f, o_app, appD_ok, vApp_rig, vApp_rig0, appK_ok, vApp_own, o_eqn, o_eqb, o_eqa, aeqn_pn, aeqn_np, aeqn_mn, aeqn_nn, aeqb_bb, negb_t, negb_f, aun_not, midQ_nrm, h13, h14, h15, h5, hk1, hp, hg, h1, hw, relC_n]
        refine ⟨_, ?_, k + 1, rfl, by omega, rfl, ?_, by show 5 < _; omega⟩
        · omega
        · rw [ht]
          simp [addR, inR, h1]
    · have : k = l.length := by omega
      subst this
      have hk1 : ¬ ((l.length : Int) < l.length) := by omega
      simp (disch := omega) only [W_skip, W_ext, W_ret, W_seq, thenQ_nrm, thenQ_ext, thenQ_ret, W_cond, selW_true, selW_false, W_blk, blkQ_nrm, blkQ_ret, blkQ_same, blkQ_ne, W_reg, nrmQ_is, WR_nil, WR_cons, selO_true, selO_false, bindO_some, loopQ_nrm, loopQ_ext, loopQ_ret, wanted_none, wanted_some, wantV_1, wantV_0, wantV_undef, ev_t, ev_c, put_some, put_none, upd_same, upd_ne, List.length_cons, List.length_nil, List.map_cons, List.map_nil, allow_no, allow_lt, argEnv_0, argEnv_1, argEnv_2, argEnv_3, argEnv_4, argEnv_5, res_1, res_2, retQ_nrm, retQ_ret, o_mv, o_pick, vPick_t, vPick_f, o_new, o_box, vBox_S, boxD_ok, vMap_some, vMapL_some, o_build, o_ld, vLd_ptr, vLd_S, ldS_ok, selB_true, o_st, vSt_S, stS_ok, stD_ok, o_nilck, vNil_ptr, vNil_mp, vNil_fn, o_bin, o_un, o_mkfn, o_fa, vFa_mp, vFa_S, faD_ok, o_fld, vFld_agg, o_ia, vIa_sl, vIa_ms, o_iaa, vIaa_ptr, vIaa_mp, o_len, vLen_sl, vLen_ms, o_mx, o_mn, vMx_i, vMn_i, o_ext, vExt_tup, b_add, b_sub, b_mul, b_lss, b_leq, b_gtr, b_geq, b_eql, b_neq, o_pure, List.nil_append, List.append_nil, List.cons_append, frz_d_i, frz_d_b, frz_d_s, frz_d_nilp, frz_d_ptr, frz_d_sl, frz_d_fn0, Bool.not_true, Bool.not_false, Bool.true_and, Bool.and_true, Bool.false_and, Bool.and_false, decide_true, decide_false, beq_self_eq_true, Bool.true_eq_false, Bool.false_eq_true, Nat.zero_add, Nat.add_zero, Int.toNat_natCast, ge_iff_le, gt_iff_lt, fill_S, fillD_ok, fill_nil, cellsOf_agg, cellsOf_i, cellsOf_b, cellsOf_s, cellsOf_ptr, cellsOf_nilp, cellsOf_sl, cellsOf_mp, cellsOf_fn, one_i, one_b, one_s, one_ptr, one_nilp, one_sl, one_mp, one_fn, List.all_cons, List.all_nil, splice_1, splice_2, splice_3, part_0, part_1, part_2, drop_0, g0_nx, g0_hp, List.set_cons_zero, List.set_cons_succ, List.length_append, List.length_replicate, Nat.reduceAdd, Nat.reduceMul, Nat.reduceSub, eq_self, true_and, and_true, vPure_S, purS_some, purD_some, purE_true, frzL_cons, frzL_nil, consO_ok, flat_i, flat_b, flat_s, flat_nilp, flat_ptr, flat_sl, flat_agg, flat_tup, vis_i, vis_b, vis_s, vis_nilp, vis_ptr, vis_sl, vis_fn0, List.flatMap_cons, List.flatMap_nil, isEmpty_nil, Bool.true_or, Bool.false_or, Bool.or_true, Bool.or_false, frz_P, frz_Q, frzP_cells, frzB_true, map_some', rd_S, o_bsl, vBsl_t, vBsl_f, o_app, appD_ok, vApp_rig, vApp_rig0, appK_ok, vApp_own, o_eqn, o_eqb, o_eqa, aeqn_pn, aeqn_np, aeqn_mn, aeqn_nn, aeqb_bb, negb_t, negb_f, aun_not, midQ_nrm, h13, h14, h15, h5, hk1, hg, relC_flat, List.take_length]
end Go.Ab
end
section
/- Plus, Loops, Maybe, Len. -/
set_option linter.unusedVariables false
set_option linter.unusedSimpArgs false
namespace Go.Ab
variable {F : Funs}
theorem succ_wrap {k : Nat} (h : k < 9000000000000000000) : IntKind.i64.wrap ((k : Int) + 1) = ((k + 1 : Nat) : Int) := by rw [i64_wrap (by omega) (by omega)]; omega
def stepP (n b : Nat) (R : Rw) (a : Nat) : Rw := if has n R a b then upd R a (R a ||| R b) else R
def rowP (n b k : Nat) (R : Rw) : Rw := (List.range k).foldl (stepP n b) R
def plusK (n k : Nat) (R : Rw) : Rw := (List.range k).foldl (fun R b => rowP n b n R) R
def plusR (n : Nat) (R : Rw) : Rw := plusK n n R
theorem rowP_succ (n b k R) : rowP n b (k + 1) R = stepP n b (rowP n b k R) k := by simp [rowP, List.range_succ]
theorem plusK_succ (n k R) : plusK n (k + 1) R = rowP n k n (plusK n k R) := by simp [plusK, List.range_succ]
set_option maxHeartbeats 1000000 in
theorem sp_plus (pk : Pk_rel F) {n : Nat} (hn : n ≤ 40) (R : Rw) : pureS F 12 [.ptr (relC n R)] = some (.ptr (relC n (plusR n R))) := by
  refine pure_of pk.rel_Rel_Plus ?_
  simp (disch := omega) only [A_rel_Rel_Plus, W_skip, W_ext, W_ret, W_seq, thenQ_nrm, thenQ_ext, thenQ_ret, W_cond, selW_true, selW_false, W_blk, blkQ_nrm, blkQ_ret, blkQ_same, blkQ_ne, W_reg, nrmQ_is, WR_nil, WR_cons, selO_true, selO_false, bindO_some, loopQ_nrm, loopQ_ext, loopQ_ret, wanted_none, wanted_some, wantV_1, wantV_0, wantV_undef, ev_t, ev_c, put_some, put_none, upd_same, upd_ne, List.length_cons, List.length_nil, List.map_cons, List.map_nil, allow_no, allow_lt, argEnv_0, argEnv_1, argEnv_2, argEnv_3, argEnv_4, argEnv_5, res_1, res_2, retQ_nrm, retQ_ret, o_mv, o_pick, vPick_t, vPick_f, o_new, o_box, vBox_S, boxD_ok, vMap_some, vMapL_some, o_build, o_ld, vLd_ptr, vLd_S, ldS_ok, selB_true, o_st, vSt_S, stS_ok, stD_ok, o_nilck, vNil_ptr, vNil_mp, vNil_fn, o_bin, o_un, o_mkfn, o_fa, vFa_mp, vFa_S, faD_ok, o_fld, vFld_agg, o_ia, vIa_sl, vIa_ms, o_iaa, vIaa_ptr, vIaa_mp, o_len, vLen_sl, vLen_ms, o_mx, o_mn, vMx_i, vMn_i, o_ext, vExt_tup, b_add, b_sub, b_mul, b_lss, b_leq, b_gtr, b_geq, b_eql, b_neq, o_pure, List.nil_append, List.append_nil, List.cons_append, frz_d_i, frz_d_b, frz_d_s, frz_d_nilp, frz_d_ptr, frz_d_sl, frz_d_fn0, Bool.not_true, Bool.not_false, Bool.true_and, Bool.and_true, Bool.false_and, Bool.and_false, decide_true, decide_false, beq_self_eq_true, Bool.true_eq_false, Bool.false_eq_true, Nat.zero_add, Nat.add_zero, Int.toNat_natCast, ge_iff_le, gt_iff_lt, fill_S, fillD_ok, fill_nil, cellsOf_agg, cellsOf_i, cellsOf_b, cellsOf_s, cellsOf_ptr, cellsOf_nilp, cellsOf_sl, cellsOf_mp, cellsOf_fn, one_i, one_b, one_s, one_ptr, one_nilp, one_sl, one_mp, one_fn, List.all_cons, List.all_nil, splice_1, splice_2, splice_3, part_0, part_1, part_2, drop_0, g0_nx, g0_hp, List.set_cons_zero, List.set_cons_succ, List.length_append, List.length_replicate, Nat.reduceAdd, Nat.reduceMul, Nat.reduceSub, eq_self, true_and, and_true, vPure_S, purS_some, purD_some, purE_true, frzL_cons, frzL_nil, consO_ok, flat_i, flat_b, flat_s, flat_nilp, flat_ptr, flat_sl, flat_agg, flat_tup, vis_i, vis_b, vis_s, vis_nilp, vis_ptr, vis_sl, vis_fn0, List.flatMap_cons, List.flatMap_nil, isEmpty_nil, Bool.true_or, Bool.false_or, Bool.or_true, Bool.or_false, frz_P, frz_Q, frzP_cells, frzB_true, map_some', rd_S, o_bsl, vBsl_t, vBsl_f, o_app, appD_ok, vApp_rig, vApp_rig0, appK_ok, vApp_own, o_eqn, o_eqb, o_eqa, aeqn_pn, aeqn_np, aeqn_mn, aeqn_nn, aeqb_bb, negb_t, negb_f, aun_not, midQ_nrm, relC_n, relC_row, relC_row', relC_drop1, relC_len, rowsC_len, relC_one, relC_flat, cellsOf_U, one_U, frz_U, flat_U, vis_U, relC_set', u_shl, u_or, u_and, u_andNot, part_rel, splice_rel, part_rows, eqa_rows]
  refine W_loop (fun m e g => ∃ k, m = n - k ∧ k ≤ n ∧ e 0 = .ptr (relC n R) ∧ e 12 = .i .i64 n ∧ e 13 = .i .i64 k ∧ e 3 = .mp 4 0 ∧ g.hp 4 = some (.cells (relC n (plusK n k R)) false) ∧ 4 < g.nx) n ?_ ?_
  · refine ⟨0, rfl, Nat.zero_le _, ?_⟩
    simp (disch := omega) only [W_skip, W_ext, W_ret, W_seq, thenQ_nrm, thenQ_ext, thenQ_ret, W_cond, selW_true, selW_false, W_blk, blkQ_nrm, blkQ_ret, blkQ_same, blkQ_ne, W_reg, nrmQ_is, WR_nil, WR_cons, selO_true, selO_false, bindO_some, loopQ_nrm, loopQ_ext, loopQ_ret, wanted_none, wanted_some, wantV_1, wantV_0, wantV_undef, ev_t, ev_c, put_some, put_none, upd_same, upd_ne, List.length_cons, List.length_nil, List.map_cons, List.map_nil, allow_no, allow_lt, argEnv_0, argEnv_1, argEnv_2, argEnv_3, argEnv_4, argEnv_5, res_1, res_2, retQ_nrm, retQ_ret, o_mv, o_pick, vPick_t, vPick_f, o_new, o_box, vBox_S, boxD_ok, vMap_some, vMapL_some, o_build, o_ld, vLd_ptr, vLd_S, ldS_ok, selB_true, o_st, vSt_S, stS_ok, stD_ok, o_nilck, vNil_ptr, vNil_mp, vNil_fn, o_bin, o_un, o_mkfn, o_fa, vFa_mp, vFa_S, faD_ok, o_fld, vFld_agg, o_ia, vIa_sl, vIa_ms, o_iaa, vIaa_ptr, vIaa_mp, o_len, vLen_sl, vLen_ms, o_mx, o_mn, vMx_i, vMn_i, o_ext, vExt_tup, b_add, b_sub, b_mul, b_lss, b_leq, b_gtr, b_geq, b_eql, b_neq, o_pure, List.nil_append, List.append_nil, List.cons_append, frz_d_i, frz_d_b, frz_d_s, frz_d_nilp, frz_d_ptr, frz_d_sl, frz_d_fn0, Bool.not_true, Bool.not_false, Bool.true_and, Bool.and_true, Bool.false_and, Bool.and_false, decide_true, decide_false, beq_self_eq_true, Bool.true_eq_false, Bool.false_eq_true, Nat.zero_add, Nat.add_zero, Int.toNat_natCast, ge_iff_le, gt_iff_lt, fill_S, fillD_ok, fill_nil, cellsOf_agg, cellsOf_i, cellsOf_b, cellsOf_s, cellsOf_ptr, cellsOf_nilp, cellsOf_sl, cellsOf_mp, cellsOf_fn, one_i, one_b, one_s, one_ptr, one_nilp, one_sl, one_mp, one_fn, List.all_cons, List.all_nil, splice_1, splice_2, splice_3, part_0, part_1, part_2, drop_0, g0_nx, g0_hp, List.set_cons_zero, List.set_cons_succ, List.length_append, List.length_replicate, Nat.reduceAdd, Nat.reduceMul, Nat.reduceSub, eq_self, true_and, and_true, vPure_S, purS_some, purD_some, purE_true, frzL_cons, frzL_nil, consO_ok, flat_i, flat_b, flat_s, flat_nilp, flat_ptr, flat_sl, flat_agg, flat_tup, vis_i, vis_b, vis_s, vis_nilp, vis_ptr, vis_sl, vis_fn0, List.flatMap_cons, List.flatMap_nil, isEmpty_nil, Bool.true_or, Bool.false_or, Bool.or_true, Bool.or_false, frz_P, frz_Q, frzP_cells, frzB_true, map_some', rd_S, o_bsl, vBsl_t, vBsl_f, o_app, appD_ok, vApp_rig, vApp_rig0, appK_ok, vApp_own, o_eqn, o_eqb, o_eqa, aeqn_pn, aeqn_np, aeqn_mn, aeqn_nn, aeqb_bb, negb_t, negb_f, aun_not, midQ_nrm]
    exact ⟨rfl, rfl, by omega⟩
  · rintro m e g ⟨k, rfl, hk, h0, h12, h13, h3, hg, hnx⟩
    by_cases hk' : k < n
    · have hk1 : (k : Int) < n := by omega
      have hw := succ_wrap (k := k) (by omega)
      simp (disch := omega) only [W_skip, W_ext, W_ret, W_seq, thenQ_nrm, thenQ_ext, thenQ_ret, W_cond, selW_true, selW_false, W_blk, blkQ_nrm, blkQ_ret, blkQ_same, blkQ_ne, W_reg, nrmQ_is, WR_nil, WR_cons, selO_true, selO_false, bindO_some, loopQ_nrm, loopQ_ext, loopQ_ret, wanted_none, wanted_some, wantV_1, wantV_0, wantV_undef, ev_t, ev_c, put_some, put_none, upd_same, upd_ne, List.length_cons, List.length_nil, List.map_cons, List.map_nil, allow_no, allow_lt, argEnv_0, argEnv_1, argEnv_2, argEnv_3, argEnv_4, argEnv_5, res_1, res_2, retQ_nrm, retQ_ret, o_mv, o_pick, vPick_t, vPick_f, o_new, o_box, vBox_S, boxD_ok, vMap_some, vMapL_some, o_build, o_ld, vLd_ptr, vLd_S, ldS_ok, selB_true, o_st, vSt_S, stS_ok, stD_ok, o_nilck, vNil_ptr, vNil_mp, vNil_fn, o_bin, o_un, o_mkfn, o_fa, vFa_mp, vFa_S, faD_ok, o_fld, vFld_agg, o_ia, vIa_sl, vIa_ms, o_iaa, vIaa_ptr, vIaa_mp, o_len, vLen_sl, vLen_ms, o_mx, o_mn, vMx_i, vMn_i, o_ext, vExt_tup, b_add, b_sub, b_mul, b_lss, b_leq, b_gtr, b_geq, b_eql, b_neq, o_pure, List.nil_append, List.append_nil, List.cons_append, frz_d_i, frz_d_b, frz_d_s, frz_d_nilp, frz_d_ptr, frz_d_sl, frz_d_fn0, Bool.not_true, Bool.not_false, Bool.true_and, Bool.and_true, Bool.false_and, Bool.and_false, decide_true, decide_false, beq_self_eq_true, Bool.true_eq_false, Bool.false_eq_true, Nat.zero_add, Nat.add_zero, Int.toNat_natCast, ge_iff_le, gt_iff_lt, fill_S, fillD_ok, fill_nil, cellsOf_agg, cellsOf_i, cellsOf_b, cellsOf_s, cellsOf_ptr, cellsOf_nilp, cellsOf_sl, cellsOf_mp, cellsOf_fn, one_i, one_b, one_s, one_ptr, one_nilp, one_sl, one_mp, one_fn, List.all_cons, List.all_nil, splice_1, splice_2, splice_3, part_0, part_1, part_2, drop_0, g0_nx, g0_hp, List.set_cons_zero, List.set_cons_succ, List.length_append, List.length_replicate, Nat.reduceAdd, Nat.reduceMul, Nat.reduceSub, eq_self, true_and, and_true, vPure_S, purS_some, purD_some, purE_true, frzL_cons, frzL_nil, consO_ok, flat_i, flat_b, flat_s, flat_nilp, flat_ptr, flat_sl, flat_agg, flat_tup, vis_i, vis_b, vis_s, vis_nilp, vis_ptr, vis_sl, vis_fn0, List.flatMap_cons, List.flatMap_nil, isEmpty_nil, Bool.true_or, Bool.false_or, Bool.or_true, Bool.or_false, frz_P, frz_Q, frzP_cells, frzB_true, map_some', rd_S, o_bsl, vBsl_t, vBsl_f, o_app, appD_ok, vApp_rig, vApp_rig0, appK_ok, vApp_own, o_eqn, o_eqb, o_eqa, aeqn_pn, aeqn_np, aeqn_mn, aeqn_nn, aeqb_bb, negb_t, negb_f, aun_not, midQ_nrm, h0, h12, h13, h3, hk1, relC_n, relC_row, relC_row', relC_drop1, relC_len, rowsC_len, relC_one, relC_flat, cellsOf_U, one_U, frz_U, flat_U, vis_U, relC_set', u_shl, u_or, u_and, u_andNot, part_rel, splice_rel, part_rows, eqa_rows]
      refine W_loop (fun m e g => ∃ j, m = n - j ∧ j ≤ n ∧ e 0 = .ptr (relC n R) ∧ e 12 = .i .i64 n ∧ e 13 = .i .i64 k ∧ e 3 = .mp 4 0 ∧ e 4 = .i .i64 k ∧ e 19 = .i .i64 n ∧ e 20 = .i .i64 j ∧ g.hp 4 = some (.cells (relC n (rowP n k j (plusK n k R))) false) ∧ 4 < g.nx) n ?_ ?_
      · refine ⟨0, rfl, Nat.zero_le _, ?_⟩
        simp (disch := omega) only [W_skip, W_ext, W_ret, W_seq, thenQ_nrm, thenQ_ext, thenQ_ret, W_cond, selW_true, selW_false, W_blk, blkQ_nrm, blkQ_ret, blkQ_same, blkQ_ne, W_reg, nrmQ_is, WR_nil, WR_cons, selO_true, selO_false, bindO_some, loopQ_nrm, loopQ_ext, loopQ_ret, wanted_none, wanted_some, wantV_1, wantV_0, wantV_undef, ev_t, ev_c, put_some, put_none, upd_same, upd_ne, List.length_cons, List.length_nil, List.map_cons, List.map_nil, allow_no, allow_lt, argEnv_0, argEnv_1, argEnv_2, argEnv_3, argEnv_4, argEnv_5, res_1, res_2, retQ_nrm, retQ_ret, o_mv, o_pick, vPick_t, vPick_f, o_new, o_box, vBox_S, boxD_ok, vMap_some, vMapL_some, o_build, o_ld, vLd_ptr, vLd_S, ldS_ok, selB_true, o_st, vSt_S, stS_ok, stD_ok, o_nilck, vNil_ptr, vNil_mp, vNil_fn, o_bin, o_un, o_mkfn, o_fa, vFa_mp, vFa_S, faD_ok, o_fld, vFld_agg, o_ia, vIa_sl, vIa_ms, o_iaa, vIaa_ptr, vIaa_mp, o_len, vLen_sl, vLen_ms, o_mx, o_mn, vMx_i, vMn_i, o_ext, vExt_tup, b_add, b_sub, b_mul, b_lss, b_leq, b_gtr, b_geq, b_eql, b_neq, o_pure, List.nil_append, List.append_nil, List.cons_append, frz_d_i, frz_d_b, frz_d_s, frz_d_nilp, frz_d_ptr, frz_d_sl, frz_d_fn0, Bool.not_true, Bool.not_false, Bool.true_and, Bool.and_true, Bool.false_and, Bool.and_false, decide_true, decide_false, beq_self_eq_true, Bool.true_eq_false, Bool.false_eq_true, Nat.zero_add, Nat.add_zero, Int.toNat_natCast, ge_iff_le, gt_iff_lt, fill_S, fillD_ok, fill_nil, cellsOf_agg, cellsOf_i, cellsOf_b, cellsOf_s, cellsOf_ptr, cellsOf_nilp, cellsOf_sl, cellsOf_mp, cellsOf_fn, one_i, one_b, one_s, one_ptr, one_nilp, one_sl, one_mp, one_fn, List.all_cons, List.all_nil, splice_1, splice_2, splice_3, part_0, part_1, part_2, drop_0, g0_nx, g0_hp, List.set_cons_zero, List.set_cons_succ, List.length_append, List.length_replicate, Nat.reduceAdd, Nat.reduceMul, Nat.reduceSub, eq_self, true_and, and_true, vPure_S, purS_some, purD_some, purE_true, frzL_cons, frzL_nil, consO_ok, flat_i, flat_b, flat_s, flat_nilp, flat_ptr, flat_sl, flat_agg, flat_tup, vis_i, vis_b, vis_s, vis_nilp, vis_ptr, vis_sl, vis_fn0, List.flatMap_cons, List.flatMap_nil, isEmpty_nil, Bool.true_or, Bool.false_or, Bool.or_true, Bool.or_false, frz_P, frz_Q, frzP_cells, frzB_true, map_some', rd_S, o_bsl, vBsl_t, vBsl_f, o_app, appD_ok, vApp_rig, vApp_rig0, appK_ok, vApp_own, o_eqn, o_eqb, o_eqa, aeqn_pn, aeqn_np, aeqn_mn, aeqn_nn, aeqb_bb, negb_t, negb_f, aun_not, midQ_nrm, h0, h12, h13, h3, hg]
        exact ⟨rfl, rfl, by omega⟩
      · rintro m e g ⟨j, rfl, hj, h0, h12, h13, h3, h4, h19, h20, hg, hnx⟩
        by_cases hj' : j < n
        · have hj1 : (j : Int) < n := by omega
          have hwj := succ_wrap (k := j) (by omega)
          by_cases hh : has n (rowP n k j (plusK n k R)) j k = true
          · simp (disch := omega) only [W_skip, W_ext, W_ret, W_seq, thenQ_nrm, thenQ_ext, thenQ_ret, W_cond, selW_true, selW_false, W_blk, blkQ_nrm, blkQ_ret, blkQ_same, blkQ_ne, W_reg, nrmQ_is, WR_nil, WR_cons, selO_true, selO_false, bindO_some, loopQ_nrm, loopQ_ext, loopQ_ret, wanted_none, wanted_some, wantV_1, wantV_0, wantV_undef, ev_t, ev_c, put_some, put_none, upd_same, upd_ne, List.length_cons, List.length_nil, List.map_cons, List.map_nil, allow_no, allow_lt, argEnv_0, argEnv_1, argEnv_2, argEnv_3, argEnv_4, argEnv_5, res_1, res_2, retQ_nrm, retQ_ret, o_mv, o_pick, vPick_t, vPick_f, o_new, o_box, vBox_S, boxD_ok, vMap_some, vMapL_some, o_build, o_ld, vLd_ptr, vLd_S, ldS_ok, selB_true, o_st, vSt_S, stS_ok, stD_ok, o_nilck, vNil_ptr, vNil_mp, vNil_fn, o_bin, o_un, o_mkfn, o_fa, vFa_mp, vFa_S, faD_ok, o_fld, vFld_agg, o_ia, vIa_sl, vIa_ms, o_iaa, vIaa_ptr, vIaa_mp, o_len, vLen_sl, vLen_ms, o_mx, o_mn, vMx_i, vMn_i, o_ext, vExt_tup, b_add, b_sub, b_mul, b_lss, b_leq, b_gtr, b_geq, b_eql, b_neq, o_pure, List.nil_append, List.append_nil, List.cons_append, frz_d_i, frz_d_b, frz_d_s, frz_d_nilp, frz_d_ptr, frz_d_sl, frz_d_fn0, Bool.not_true, Bool.not_false, Bool.true_and, Bool.and_true, Bool.false_and, Bool.and_false, decide_true, decide_false, beq_self_eq_true, Bool.true_eq_false, Bool.false_eq_true, Nat.zero_add, Nat.add_zero, Int.toNat_natCast, ge_iff_le, gt_iff_lt, fill_S, fillD_ok, fill_nil, cellsOf_agg, cellsOf_i, cellsOf_b, cellsOf_s, cellsOf_ptr, cellsOf_nilp, cellsOf_sl, cellsOf_mp, cellsOf_fn, one_i, one_b, one_s, one_ptr, one_nilp, one_sl, one_mp, one_fn, List.all_cons, List.all_nil, splice_1, splice_2, splice_3, part_0, part_1, part_2, drop_0, g0_nx, g0_hp, List.set_cons_zero, List.set_cons_succ, List.length_append, List.length_replicate, Nat.reduceAdd, Nat.reduceMul, Nat.reduceSub, eq_self, true_and, and_true, vPure_S, purS_some, purD_some, purE_true, frzL_cons, frzL_nil, consO_ok, flat_i, flat_b, flat_s, flat_nilp, flat_ptr, flat_sl, flat_agg, flat_tup, vis_i, vis_b, vis_s, vis_nilp, vis_ptr, vis_sl, vis_fn0, List.flatMap_cons, List.flatMap_nil, isEmpty_nil, Bool.true_or, Bool.false_or, Bool.or_true, Bool.or_false, frz_P, frz_Q, frzP_cells, frzB_true, map_some', rd_S, o_bsl, vBsl_t, vBsl_f, o_app, appD_ok, vApp_rig, vApp_rig0, appK_ok, vApp_own, o_eqn, o_eqb, o_eqa, aeqn_pn, aeqn_np, aeqn_mn, aeqn_nn, aeqb_bb, negb_t, negb_f, aun_not, midQ_nrm, h0, h12, h13, h3, h4, h19, h20, hj1, hg, relC_n, relC_row, relC_row', relC_drop1, relC_len, rowsC_len, relC_one, relC_flat, cellsOf_U, one_U, frz_U, flat_U, vis_U, relC_set', u_shl, u_or, u_and, u_andNot, part_rel, splice_rel, part_rows, eqa_rows, sp_has pk hn, hh, hwj]
            refine ⟨_, ?_, j + 1, rfl, by omega, rfl, ?_, by show 4 < _; omega⟩
            · omega
            · rw [rowP_succ, stepP, if_pos hh]
          · simp (disch := omega) only [W_skip, W_ext, W_ret, W_seq, thenQ_nrm, thenQ_ext, thenQ_ret, W_cond, selW_true, selW_false, W_blk, blkQ_nrm, blkQ_ret, blkQ_same, blkQ_ne, W_reg, nrmQ_is, WR_nil, WR_cons, selO_true, selO_false, bindO_some, loopQ_nrm, loopQ_ext, loopQ_ret, wanted_none, wanted_some, wantV_1, wantV_0, wantV_undef, ev_t, ev_c, put_some, put_none, upd_same, upd_ne, List.length_cons, List.length_nil, List.map_cons, List.map_nil, allow_no, allow_lt, argEnv_0, argEnv_1, argEnv_2, argEnv_3, argEnv_4, argEnv_5, res_1, res_2, retQ_nrm, retQ_ret, o_mv, o_pick, vPick_t, vPick_f, o_new, o_box, vBox_S, boxD_ok, vMap_some, vMapL_some, o_build, o_ld, vLd_ptr, vLd_S, ldS_ok, selB_true, o_st, vSt_S, stS_ok, stD_ok, o_nilck, vNil_ptr, vNil_mp, vNil_fn, o_bin, o_un, o_mkfn, o_fa, vFa_mp, vFa_S, faD_ok, o_fld, vFld_agg, o_ia, vIa_sl, vIa_ms, o_iaa, vIaa_ptr, vIaa_mp, o_len, vLen_sl, vLen_ms, o_mx, o_mn, vMx_i, vMn_i, o_ext, vExt_tup, b_add, b_sub, b_mul, b_lss, b_leq, b_gtr, b_geq, b_eql, b_neq, o_pure, List.nil_append, List.append_nil, List.cons_append, frz_d_i, frz_d_b, frz_d_s, frz_d_nilp, frz_d_ptr, frz_d_sl, frz_d_fn0, Bool.not_true, Bool.not_false, Bool.true_and, Bool.and_true, Bool.false_and, Bool.and_false, decide_true, decide_false, beq_self_eq_true, Bool.true_eq_false, Bool.false_eq_true, Nat.zero_add, Nat.add_zero, Int.toNat_natCast, ge_iff_le, gt_iff_lt, fill_S, fillD_ok, fill_nil, cellsOf_agg, cellsOf_i, cellsOf_b, cellsOf_s, cellsOf_ptr, cellsOf_nilp, cellsOf_sl, cellsOf_mp, cellsOf_fn, one_i, one_b, one_s, one_ptr, one_nilp, one_sl, one_mp, one_fn, List.all_cons, List.all_nil, splice_1, splice_2, splice_3, part_0, part_1, part_2, drop_0, g0_nx, g0_hp, List.set_cons_zero, List.set_cons_succ, List.length_append, List.length_replicate, Nat.reduceAdd, Nat.reduceMul, Nat.reduceSub, eq_self, true_and, and_true, vPure_S, purS_some, purD_some, purE_true, frzL_cons, frzL_nil, consO_ok, flat_i, flat_b, flat_s, flat_nilp, flat_ptr, flat_sl, flat_agg, flat_tup, vis_i, vis_b, vis_s, vis_nilp, vis_ptr, vis_sl, vis_fn0, List.flatMap_cons, List.flatMap_nil, isEmpty_nil, Bool.true_or, Bool.false_or, Bool.or_true, Bool.or_false, frz_P, frz_Q, frzP_cells, frzB_true, map_some', rd_S, o_bsl, vBsl_t, vBsl_f, o_app, appD_ok, vApp_rig, vApp_rig0, appK_ok, vApp_own, o_eqn, o_eqb, o_eqa, aeqn_pn, aeqn_np, aeqn_mn, aeqn_nn, aeqb_bb, negb_t, negb_f, aun_not, midQ_nrm, h0, h12, h13, h3, h4, h19, h20, hj1, hg, relC_n, relC_row, relC_row', relC_drop1, relC_len, rowsC_len, relC_one, relC_flat, cellsOf_U, one_U, frz_U, flat_U, vis_U, relC_set', u_shl, u_or, u_and, u_andNot, part_rel, splice_rel, part_rows, eqa_rows, sp_has pk hn, hh, hwj]
            refine ⟨_, ?_, j + 1, rfl, by omega, rfl, ?_, by show 4 < _; omega⟩
            · omega
            · rw [rowP_succ, stepP, if_neg hh]
        · obtain rfl : j = n := by omega
          have hj1 : ¬ ((j : Int) < j) := by omega
          simp (disch := omega) only [W_skip, W_ext, W_ret, W_seq, thenQ_nrm, thenQ_ext, thenQ_ret, W_cond, selW_true, selW_false, W_blk, blkQ_nrm, blkQ_ret, blkQ_same, blkQ_ne, W_reg, nrmQ_is, WR_nil, WR_cons, selO_true, selO_false, bindO_some, loopQ_nrm, loopQ_ext, loopQ_ret, wanted_none, wanted_some, wantV_1, wantV_0, wantV_undef, ev_t, ev_c, put_some, put_none, upd_same, upd_ne, List.length_cons, List.length_nil, List.map_cons, List.map_nil, allow_no, allow_lt, argEnv_0, argEnv_1, argEnv_2, argEnv_3, argEnv_4, argEnv_5, res_1, res_2, retQ_nrm, retQ_ret, o_mv, o_pick, vPick_t, vPick_f, o_new, o_box, vBox_S, boxD_ok, vMap_some, vMapL_some, o_build, o_ld, vLd_ptr, vLd_S, ldS_ok, selB_true, o_st, vSt_S, stS_ok, stD_ok, o_nilck, vNil_ptr, vNil_mp, vNil_fn, o_bin, o_un, o_mkfn, o_fa, vFa_mp, vFa_S, faD_ok, o_fld, vFld_agg, o_ia, vIa_sl, vIa_ms, o_iaa, vIaa_ptr, vIaa_mp, o_len, vLen_sl, vLen_ms, o_mx, o_mn, vMx_i, vMn_i, o_ext, vExt_tup, b_add, b_sub, b_mul, b_lss, b_leq, b_gtr, b_geq, b_eql, b_neq, o_pure, List.nil_append, List.append_nil, List.cons_append, frz_d_i, frz_d_b, frz_d_s, frz_d_nilp, frz_d_ptr, frz_d_sl, frz_d_fn0, Bool.not_true, Bool.not_false, Bool.true_and, Bool.and_true, Bool.false_and, Bool.and_false, decide_true, decide_false, beq_self_eq_true, Bool.true_eq_false, Bool.false_eq_true, Nat.zero_add, Nat.add_zero, Int.toNat_natCast, ge_iff_le, gt_iff_lt, fill_S, fillD_ok, fill_nil, cellsOf_agg, cellsOf_i, cellsOf_b, cellsOf_s, cellsOf_ptr, cellsOf_nilp, cellsOf_sl, cellsOf_mp, cellsOf_fn, one_i, one_b, one_s, one_ptr, one_nilp, one_sl, one_mp, one_fn, List.all_cons, List.all_nil, splice_1, splice_2, splice_3, part_0, part_1, part_2, drop_0, g0_nx, g0_hp, List.set_cons_zero, List.set_cons_succ, List.length_append, List.length_replicate, Nat.reduceAdd, Nat.reduceMul, Nat.reduceSub, eq_self, true_and, and_true, vPure_S, purS_some, purD_some, purE_true, frzL_cons, frzL_nil, consO_ok, flat_i, flat_b, flat_s, flat_nilp, flat_ptr, flat_sl, flat_agg, flat_tup, vis_i, vis_b, vis_s, vis_nilp, vis_ptr, vis_sl, vis_fn0, List.flatMap_cons, List.flatMap_nil, isEmpty_nil, Bool.true_or, Bool.false_or, Bool.or_true, Bool.or_false, frz_P, frz_Q, frzP_cells, frzB_true, map_some', rd_S, o_bsl, vBsl_t, vBsl_f, o_app, appD_ok, vApp_rig, vApp_rig0, appK_ok, vApp_own, o_eqn, o_eqb, o_eqa, aeqn_pn, aeqn_np, aeqn_mn, aeqn_nn, aeqb_bb, negb_t, negb_f, aun_not, midQ_nrm, h0, h12, h13, h3, h4, h19, h20, hj1, hg, hw]
          refine ⟨_, ?_, k + 1, rfl, by omega, rfl, ?_, by show 4 < _; omega⟩
          · omega
          · rw [plusK_succ]
    · obtain rfl : k = n := by omega
      have hk1 : ¬ ((k : Int) < k) := by omega
      simp (disch := omega) only [W_skip, W_ext, W_ret, W_seq, thenQ_nrm, thenQ_ext, thenQ_ret, W_cond, selW_true, selW_false, W_blk, blkQ_nrm, blkQ_ret, blkQ_same, blkQ_ne, W_reg, nrmQ_is, WR_nil, WR_cons, selO_true, selO_false, bindO_some, loopQ_nrm, loopQ_ext, loopQ_ret, wanted_none, wanted_some, wantV_1, wantV_0, wantV_undef, ev_t, ev_c, put_some, put_none, upd_same, upd_ne, List.length_cons, List.length_nil, List.map_cons, List.map_nil, allow_no, allow_lt, argEnv_0, argEnv_1, argEnv_2, argEnv_3, argEnv_4, argEnv_5, res_1, res_2, retQ_nrm, retQ_ret, o_mv, o_pick, vPick_t, vPick_f, o_new, o_box, vBox_S, boxD_ok, vMap_some, vMapL_some, o_build, o_ld, vLd_ptr, vLd_S, ldS_ok, selB_true, o_st, vSt_S, stS_ok, stD_ok, o_nilck, vNil_ptr, vNil_mp, vNil_fn, o_bin, o_un, o_mkfn, o_fa, vFa_mp, vFa_S, faD_ok, o_fld, vFld_agg, o_ia, vIa_sl, vIa_ms, o_iaa, vIaa_ptr, vIaa_mp, o_len, vLen_sl, vLen_ms, o_mx, o_mn, vMx_i, vMn_i, o_ext, vExt_tup, b_add, b_sub, b_mul, b_lss, b_leq, b_gtr, b_geq, b_eql, b_neq, o_pure, List.nil_append, List.append_nil, List.cons_append, frz_d_i, frz_d_b, frz_d_s, frz_d_nilp, frz_d_ptr, frz_d_sl, frz_d_fn0, Bool.not_true, Bool.not_false, Bool.true_and, Bool.and_true, Bool.false_and, Bool.and_false, decide_true, decide_false, beq_self_eq_true, Bool.true_eq_false, Bool.false_eq_true, Nat.zero_add, Nat.add_zero, Int.toNat_natCast, ge_iff_le, gt_iff_lt, fill_S, fillD_ok, fill_nil, cellsOf_agg, cellsOf_i, cellsOf_b, cellsOf_s, cellsOf_ptr, cellsOf_nilp, cellsOf_sl, cellsOf_mp, cellsOf_fn, one_i, one_b, one_s, one_ptr, one_nilp, one_sl, one_mp, one_fn, List.all_cons, List.all_nil, splice_1, splice_2, splice_3, part_0, part_1, part_2, drop_0, g0_nx, g0_hp, List.set_cons_zero, List.set_cons_succ, List.length_append, List.length_replicate, Nat.reduceAdd, Nat.reduceMul, Nat.reduceSub, eq_self, true_and, and_true, vPure_S, purS_some, purD_some, purE_true, frzL_cons, frzL_nil, consO_ok, flat_i, flat_b, flat_s, flat_nilp, flat_ptr, flat_sl, flat_agg, flat_tup, vis_i, vis_b, vis_s, vis_nilp, vis_ptr, vis_sl, vis_fn0, List.flatMap_cons, List.flatMap_nil, isEmpty_nil, Bool.true_or, Bool.false_or, Bool.or_true, Bool.or_false, frz_P, frz_Q, frzP_cells, frzB_true, map_some', rd_S, o_bsl, vBsl_t, vBsl_f, o_app, appD_ok, vApp_rig, vApp_rig0, appK_ok, vApp_own, o_eqn, o_eqb, o_eqa, aeqn_pn, aeqn_np, aeqn_mn, aeqn_nn, aeqb_bb, negb_t, negb_f, aun_not, midQ_nrm, h0, h12, h13, h3, hk1, hg, relC_n, relC_row, relC_row', relC_drop1, relC_len, rowsC_len, relC_one, relC_flat, cellsOf_U, one_U, frz_U, flat_U, vis_U, relC_set', u_shl, u_or, u_and, u_andNot, part_rel, splice_rel, part_rows, eqa_rows]
      rfl
end Go.Ab
end
section
/- Len, Maybe, Loops, Pairs. -/
set_option linter.unusedVariables false
set_option linter.unusedSimpArgs false
namespace Go.Ab
variable {F : Funs}
theorem sp_len (pk : Pk_rel F) {n : Nat} (R : Rw) : pureS F 17 [.ptr (relC n R)] = some (.i .i64 n) := by
  refine pure_of pk.rel_Rel_Len ?_
  simp (disch := omega) only [A_rel_Rel_Len, W_skip, W_ext, W_ret, W_seq, thenQ_nrm, thenQ_ext, thenQ_ret, W_cond, selW_true, selW_false, W_blk, blkQ_nrm, blkQ_ret, blkQ_same, blkQ_ne, W_reg, nrmQ_is, WR_nil, WR_cons, selO_true, selO_false, bindO_some, loopQ_nrm, loopQ_ext, loopQ_ret, wanted_none, wanted_some, wantV_1, wantV_0, wantV_undef, ev_t, ev_c, put_some, put_none, upd_same, upd_ne, List.length_cons, List.length_nil, List.map_cons, List.map_nil, allow_no, allow_lt, argEnv_0, argEnv_1, argEnv_2, argEnv_3, argEnv_4, argEnv_5, res_1, res_2, retQ_nrm, retQ_ret, o_mv, o_pick, vPick_t, vPick_f, o_new, o_box, vBox_S, boxD_ok, vMap_some, vMapL_some, o_build, o_ld, vLd_ptr, vLd_S, ldS_ok, selB_true, o_st, vSt_S, stS_ok, stD_ok, o_nilck, vNil_ptr, vNil_mp, vNil_fn, o_bin, o_un, o_mkfn, o_fa, vFa_mp, vFa_S, faD_ok, o_fld, vFld_agg, o_ia, vIa_sl, vIa_ms, o_iaa, vIaa_ptr, vIaa_mp, o_len, vLen_sl, vLen_ms, o_mx, o_mn, vMx_i, vMn_i, o_ext, vExt_tup, b_add, b_sub, b_mul, b_lss, b_leq, b_gtr, b_geq, b_eql, b_neq, o_pure, List.nil_append, List.append_nil, List.cons_append, frz_d_i, frz_d_b, frz_d_s, frz_d_nilp, frz_d_ptr, frz_d_sl, frz_d_fn0, Bool.not_true, Bool.not_false, Bool.true_and, Bool.and_true, Bool.false_and, Bool.and_false, decide_true, decide_false, beq_self_eq_true, Bool.true_eq_false, Bool.false_eq_true, Nat.zero_add, Nat.add_zero, Int.toNat_natCast, ge_iff_le, gt_iff_lt, fill_S, fillD_ok, fill_nil, cellsOf_agg, cellsOf_i, cellsOf_b, cellsOf_s, cellsOf_ptr, cellsOf_nilp, cellsOf_sl, cellsOf_mp, cellsOf_fn, one_i, one_b, one_s, one_ptr, one_nilp, one_sl, one_mp, one_fn, List.all_cons, List.all_nil, splice_1, splice_2, splice_3, part_0, part_1, part_2, drop_0, g0_nx, g0_hp, List.set_cons_zero, List.set_cons_succ, List.length_append, List.length_replicate, Nat.reduceAdd, Nat.reduceMul, Nat.reduceSub, eq_self, true_and, and_true, vPure_S, purS_some, purD_some, purE_true, frzL_cons, frzL_nil, consO_ok, flat_i, flat_b, flat_s, flat_nilp, flat_ptr, flat_sl, flat_agg, flat_tup, vis_i, vis_b, vis_s, vis_nilp, vis_ptr, vis_sl, vis_fn0, List.flatMap_cons, List.flatMap_nil, isEmpty_nil, Bool.true_or, Bool.false_or, Bool.or_true, Bool.or_false, frz_P, frz_Q, frzP_cells, frzB_true, map_some', rd_S, o_bsl, vBsl_t, vBsl_f, o_app, appD_ok, vApp_rig, vApp_rig0, appK_ok, vApp_own, o_eqn, o_eqb, o_eqa, aeqn_pn, aeqn_np, aeqn_mn, aeqn_nn, aeqb_bb, negb_t, negb_f, aun_not, midQ_nrm, relC_n, relC_row, relC_row', relC_drop1, relC_len, rowsC_len, relC_one, relC_flat, cellsOf_U, one_U, frz_U, flat_U, vis_U, relC_set', u_shl, u_or, u_and, u_andNot, part_rel, splice_rel, part_rows, eqa_rows]

def maybeK (k : Nat) (R : Rw) : Rw := (List.range k).foldl (fun R a => upd R a (R a ||| bit a)) R
theorem maybeK_succ (k R) : maybeK (k + 1) R = upd (maybeK k R) k (maybeK k R k ||| bit k) := by simp [maybeK, List.range_succ]
set_option maxHeartbeats 1000000 in
theorem sp_maybe (pk : Pk_rel F) {n : Nat} (hn : n ≤ 40) (R : Rw) : pureS F 16 [.ptr (relC n R)] = some (.ptr (relC n (maybeK n R))) := by
  refine pure_of pk.rel_Rel_Maybe ?_
  simp (disch := omega) only [A_rel_Rel_Maybe, W_skip, W_ext, W_ret, W_seq, thenQ_nrm, thenQ_ext, thenQ_ret, W_cond, selW_true, selW_false, W_blk, blkQ_nrm, blkQ_ret, blkQ_same, blkQ_ne, W_reg, nrmQ_is, WR_nil, WR_cons, selO_true, selO_false, bindO_some, loopQ_nrm, loopQ_ext, loopQ_ret, wanted_none, wanted_some, wantV_1, wantV_0, wantV_undef, ev_t, ev_c, put_some, put_none, upd_same, upd_ne, List.length_cons, List.length_nil, List.map_cons, List.map_nil, allow_no, allow_lt, argEnv_0, argEnv_1, argEnv_2, argEnv_3, argEnv_4, argEnv_5, res_1, res_2, retQ_nrm, retQ_ret, o_mv, o_pick, vPick_t, vPick_f, o_new, o_box, vBox_S, boxD_ok, vMap_some, vMapL_some, o_build, o_ld, vLd_ptr, vLd_S, ldS_ok, selB_true, o_st, vSt_S, stS_ok, stD_ok, o_nilck, vNil_ptr, vNil_mp, vNil_fn, o_bin, o_un, o_mkfn, o_fa, vFa_mp, vFa_S, faD_ok, o_fld, vFld_agg, o_ia, vIa_sl, vIa_ms, o_iaa, vIaa_ptr, vIaa_mp, o_len, vLen_sl, vLen_ms, o_mx, o_mn, vMx_i, vMn_i, o_ext, vExt_tup, b_add, b_sub, b_mul, b_lss, b_leq, b_gtr, b_geq, b_eql, b_neq, o_pure, List.nil_append, List.append_nil, List.cons_append, frz_d_i, frz_d_b, frz_d_s, frz_d_nilp, frz_d_ptr, frz_d_sl, frz_d_fn0, Bool.not_true, Bool.not_false, Bool.true_and, Bool.and_true, Bool.false_and, Bool.and_false, decide_true, decide_false, beq_self_eq_true, Bool.true_eq_false, Bool.false_eq_true, Nat.zero_add, Nat.add_zero, Int.toNat_natCast, ge_iff_le, gt_iff_lt, fill_S, fillD_ok, fill_nil, cellsOf_agg, cellsOf_i, cellsOf_b, cellsOf_s, cellsOf_ptr, cellsOf_nilp, cellsOf_sl, cellsOf_mp, cellsOf_fn, one_i, one_b, one_s, one_ptr, one_nilp, one_sl, one_mp, one_fn, List.all_cons, List.all_nil, splice_1, splice_2, splice_3, part_0, part_1, part_2, drop_0, g0_nx, g0_hp, List.set_cons_zero, List.set_cons_succ, List.length_append, List.length_replicate, Nat.reduceAdd, Nat.reduceMul, Nat.reduceSub, eq_self, true_and, and_true, vPure_S, purS_some, purD_some, purE_true, frzL_cons, frzL_nil, consO_ok, flat_i, flat_b, flat_s, flat_nilp, flat_ptr, flat_sl, flat_agg, flat_tup, vis_i, vis_b, vis_s, vis_nilp, vis_ptr, vis_sl, vis_fn0, List.flatMap_cons, List.flatMap_nil, isEmpty_nil, Bool.true_or, Bool.false_or, Bool.or_true, Bool.or_false, frz_P, frz_Q, frzP_cells, frzB_true, map_some', rd_S, o_bsl, vBsl_t, vBsl_f, o_app, appD_ok, vApp_rig, vApp_rig0, appK_ok, vApp_own, o_eqn, o_eqb, o_eqa, aeqn_pn, aeqn_np, aeqn_mn, aeqn_nn, aeqb_bb, negb_t, negb_f, aun_not, midQ_nrm, relC_n, relC_row, relC_row', relC_drop1, relC_len, rowsC_len, relC_one, relC_flat, cellsOf_U, one_U, frz_U, flat_U, vis_U, relC_set', u_shl, u_or, u_and, u_andNot, part_rel, splice_rel, part_rows, eqa_rows]
  refine W_loop (fun m e g => ∃ k, m = n - k ∧ k ≤ n ∧ e 11 = .i .i64 n ∧ e 12 = .i .i64 k ∧ e 3 = .mp 4 0 ∧ g.hp 4 = some (.cells (relC n (maybeK k R)) false) ∧ 4 < g.nx) n ?_ ?_
  · refine ⟨0, rfl, Nat.zero_le _, ?_⟩
    simp (disch := omega) only [W_skip, W_ext, W_ret, W_seq, thenQ_nrm, thenQ_ext, thenQ_ret, W_cond, selW_true, selW_false, W_blk, blkQ_nrm, blkQ_ret, blkQ_same, blkQ_ne, W_reg, nrmQ_is, WR_nil, WR_cons, selO_true, selO_false, bindO_some, loopQ_nrm, loopQ_ext, loopQ_ret, wanted_none, wanted_some, wantV_1, wantV_0, wantV_undef, ev_t, ev_c, put_some, put_none, upd_same, upd_ne, List.length_cons, List.length_nil, List.map_cons, List.map_nil, allow_no, allow_lt, argEnv_0, argEnv_1, argEnv_2, argEnv_3, argEnv_4, argEnv_5, res_1, res_2, retQ_nrm, retQ_ret, o_mv, o_pick, vPick_t, vPick_f, o_new, o_box, vBox_S, boxD_ok, vMap_some, vMapL_some, o_build, o_ld, vLd_ptr, vLd_S, ldS_ok, selB_true, o_st, vSt_S, stS_ok, stD_ok, o_nilck, vNil_ptr, vNil_mp, vNil_fn, o_bin, o_un, o_mkfn, o_fa, vFa_mp, vFa_S, faD_ok, o_fld, vFld_agg, o_ia, vIa_sl, vIa_ms, o_iaa, vIaa_ptr, vIaa_mp, o_len, vLen_sl, vLen_ms, o_mx, o_mn, vMx_i, vMn_i, o_ext, vExt_tup, b_add, b_sub, b_mul, b_lss, b_leq, b_gtr, b_geq, b_eql, b_neq, o_pure, List.nil_append, List.append_nil, List.cons_append, frz_d_i, frz_d_b, frz_d_s, frz_d_nilp, frz_d_ptr, frz_d_sl, frz_d_fn0, Bool.not_true, Bool.not_false, Bool.true_and, Bool.and_true, Bool.false_and, Bool.and_false, decide_true, decide_false, beq_self_eq_true, Bool.true_eq_false, Bool.false_eq_true, Nat.zero_add, Nat.add_zero, Int.toNat_natCast, ge_iff_le, gt_iff_lt, fill_S, fillD_ok, fill_nil, cellsOf_agg, cellsOf_i, cellsOf_b, cellsOf_s, cellsOf_ptr, cellsOf_nilp, cellsOf_sl, cellsOf_mp, cellsOf_fn, one_i, one_b, one_s, one_ptr, one_nilp, one_sl, one_mp, one_fn, List.all_cons, List.all_nil, splice_1, splice_2, splice_3, part_0, part_1, part_2, drop_0, g0_nx, g0_hp, List.set_cons_zero, List.set_cons_succ, List.length_append, List.length_replicate, Nat.reduceAdd, Nat.reduceMul, Nat.reduceSub, eq_self, true_and, and_true, vPure_S, purS_some, purD_some, purE_true, frzL_cons, frzL_nil, consO_ok, flat_i, flat_b, flat_s, flat_nilp, flat_ptr, flat_sl, flat_agg, flat_tup, vis_i, vis_b, vis_s, vis_nilp, vis_ptr, vis_sl, vis_fn0, List.flatMap_cons, List.flatMap_nil, isEmpty_nil, Bool.true_or, Bool.false_or, Bool.or_true, Bool.or_false, frz_P, frz_Q, frzP_cells, frzB_true, map_some', rd_S, o_bsl, vBsl_t, vBsl_f, o_app, appD_ok, vApp_rig, vApp_rig0, appK_ok, vApp_own, o_eqn, o_eqb, o_eqa, aeqn_pn, aeqn_np, aeqn_mn, aeqn_nn, aeqb_bb, negb_t, negb_f, aun_not, midQ_nrm]
    exact ⟨rfl, rfl, by omega⟩
  · rintro m e g ⟨k, rfl, hk, h11, h12, h3, hg, hnx⟩
    by_cases hk' : k < n
    · have hk1 : (k : Int) < n := by omega
      have hw := succ_wrap (k := k) (by omega)
      simp (disch := omega) only [W_skip, W_ext, W_ret, W_seq, thenQ_nrm, thenQ_ext, thenQ_ret, W_cond, selW_true, selW_false, W_blk, blkQ_nrm, blkQ_ret, blkQ_same, blkQ_ne, W_reg, nrmQ_is, WR_nil, WR_cons, selO_true, selO_false, bindO_some, loopQ_nrm, loopQ_ext, loopQ_ret, wanted_none, wanted_some, wantV_1, wantV_0, wantV_undef, ev_t, ev_c, put_some, put_none, upd_same, upd_ne, List.length_cons, List.length_nil, List.map_cons, List.map_nil, allow_no, allow_lt, argEnv_0, argEnv_1, argEnv_2, argEnv_3, argEnv_4, argEnv_5, res_1, res_2, retQ_nrm, retQ_ret, o_mv, o_pick, vPick_t, vPick_f, o_new, o_box, vBox_S, boxD_ok, vMap_some, vMapL_some, o_build, o_ld, vLd_ptr, vLd_S, ldS_ok, selB_true, o_st, vSt_S, stS_ok, stD_ok, o_nilck, vNil_ptr, vNil_mp, vNil_fn, o_bin, o_un, o_mkfn, o_fa, vFa_mp, vFa_S, faD_ok, o_fld, vFld_agg, o_ia, vIa_sl, vIa_ms, o_iaa, vIaa_ptr, vIaa_mp, o_len, vLen_sl, vLen_ms, o_mx, o_mn, vMx_i, vMn_i, o_ext, vExt_tup, b_add, b_sub, b_mul, b_lss, b_leq, b_gtr, b_geq, b_eql, b_neq, o_pure, List.nil_append, List.append_nil, List.cons_append, frz_d_i, frz_d_b, frz_d_s, frz_d_nilp, frz_d_ptr, frz_d_sl, frz_d_fn0, Bool.not_true, Bool.not_false, Bool.true_and, Bool.and_true, Bool.false_and, Bool.and_false, decide_true, decide_false, beq_self_eq_true, Bool.true_eq_false, Bool.false_eq_true, Nat.zero_add, Nat.add_zero, Int.toNat_natCast, ge_iff_le, gt_iff_lt, fill_S, fillD_ok, fill_nil, cellsOf_agg, cellsOf_i, cellsOf_b, cellsOf_s, cellsOf_ptr, cellsOf_nilp, cellsOf_sl, cellsOf_mp, cellsOf_fn, one_i, one_b, one_s, one_ptr, one_nilp, one_sl, one_mp, one_fn, List.all_cons, List.all_nil, splice_1, splice_2, splice_3, part_0, part_1, part_2, drop_0, g0_nx, g0_hp, List.set_cons_zero, List.set_cons_succ, List.length_append, List.length_replicate, Nat.reduceAdd, Nat.reduceMul, Nat.reduceSub, eq_self, true_and, and_true, vPure_S, purS_some, purD_some, purE_true, frzL_cons, frzL_nil, consO_ok, flat_i, flat_b, flat_s, flat_nilp, flat_ptr, flat_sl, flat_agg, flat_tup, vis_i, vis_b, vis_s, vis_nilp, vis_ptr, vis_sl, vis_fn0, List.flatMap_cons, List.flatMap_nil, isEmpty_nil, Bool.true_or, Bool.false_or, Bool.or_true, Bool.or_false, frz_P, frz_Q, frzP_cells, frzB_true, map_some', rd_S, o_bsl, vBsl_t, vBsl_f, o_app, appD_ok, vApp_rig, vApp_rig0, appK_ok, vApp_own, o_eqn, o_eqb, o_eqa, aeqn_pn, aeqn_np, aeqn_mn, aeqn_nn, aeqb_bb, negb_t, negb_f, aun_not, midQ_nrm, h11, h12, h3, hk1, hg, relC_n, relC_row, relC_row', relC_drop1, relC_len, rowsC_len, relC_one, relC_flat, cellsOf_U, one_U, frz_U, flat_U, vis_U, relC_set', u_shl, u_or, u_and, u_andNot, part_rel, splice_rel, part_rows, eqa_rows, hw]
      refine ⟨_, ?_, k + 1, rfl, by omega, rfl, ?_, by show 4 < _; omega⟩
      · omega
      · rw [maybeK_succ]
    · obtain rfl : k = n := by omega
      have hk1 : ¬ ((k : Int) < k) := by omega
      simp (disch := omega) only [W_skip, W_ext, W_ret, W_seq, thenQ_nrm, thenQ_ext, thenQ_ret, W_cond, selW_true, selW_false, W_blk, blkQ_nrm, blkQ_ret, blkQ_same, blkQ_ne, W_reg, nrmQ_is, WR_nil, WR_cons, selO_true, selO_false, bindO_some, loopQ_nrm, loopQ_ext, loopQ_ret, wanted_none, wanted_some, wantV_1, wantV_0, wantV_undef, ev_t, ev_c, put_some, put_none, upd_same, upd_ne, List.length_cons, List.length_nil, List.map_cons, List.map_nil, allow_no, allow_lt, argEnv_0, argEnv_1, argEnv_2, argEnv_3, argEnv_4, argEnv_5, res_1, res_2, retQ_nrm, retQ_ret, o_mv, o_pick, vPick_t, vPick_f, o_new, o_box, vBox_S, boxD_ok, vMap_some, vMapL_some, o_build, o_ld, vLd_ptr, vLd_S, ldS_ok, selB_true, o_st, vSt_S, stS_ok, stD_ok, o_nilck, vNil_ptr, vNil_mp, vNil_fn, o_bin, o_un, o_mkfn, o_fa, vFa_mp, vFa_S, faD_ok, o_fld, vFld_agg, o_ia, vIa_sl, vIa_ms, o_iaa, vIaa_ptr, vIaa_mp, o_len, vLen_sl, vLen_ms, o_mx, o_mn, vMx_i, vMn_i, o_ext, vExt_tup, b_add, b_sub, b_mul, b_lss, b_leq, b_gtr, b_geq, b_eql, b_neq, o_pure, List.nil_append, List.append_nil, List.cons_append, frz_d_i, frz_d_b, frz_d_s, frz_d_nilp, frz_d_ptr, frz_d_sl, frz_d_fn0, Bool.not_true, Bool.not_false, Bool.true_and, Bool.and_true, Bool.false_and, Bool.and_false, decide_true, decide_false, beq_self_eq_true, Bool.true_eq_false, Bool.false_eq_true, Nat.zero_add, Nat.add_zero, Int.toNat_natCast, ge_iff_le, gt_iff_lt, fill_S, fillD_ok, fill_nil, cellsOf_agg, cellsOf_i, cellsOf_b, cellsOf_s, cellsOf_ptr, cellsOf_nilp, cellsOf_sl, cellsOf_mp, cellsOf_fn, one_i, one_b, one_s, one_ptr, one_nilp, one_sl, one_mp, one_fn, List.all_cons, List.all_nil, splice_1, splice_2, splice_3, part_0, part_1, part_2, drop_0, g0_nx, g0_hp, List.set_cons_zero, List.set_cons_succ, List.length_append, List.length_replicate, Nat.reduceAdd, Nat.reduceMul, Nat.reduceSub, eq_self, true_and, and_true, vPure_S, purS_some, purD_some, purE_true, frzL_cons, frzL_nil, consO_ok, flat_i, flat_b, flat_s, flat_nilp, flat_ptr, flat_sl, flat_agg, flat_tup, vis_i, vis_b, vis_s, vis_nilp, vis_ptr, vis_sl, vis_fn0, List.flatMap_cons, List.flatMap_nil, isEmpty_nil, Bool.true_or, Bool.false_or, Bool.or_true, Bool.or_false, frz_P, frz_Q, frzP_cells, frzB_true, map_some', rd_S, o_bsl, vBsl_t, vBsl_f, o_app, appD_ok, vApp_rig, vApp_rig0, appK_ok, vApp_own, o_eqn, o_eqb, o_eqa, aeqn_pn, aeqn_np, aeqn_mn, aeqn_nn, aeqb_bb, negb_t, negb_f, aun_not, midQ_nrm, h11, h12, h3, hk1, hg, relC_n, relC_row, relC_row', relC_drop1, relC_len, rowsC_len, relC_one, relC_flat, cellsOf_U, one_U, frz_U, flat_U, vis_U, relC_set', u_shl, u_or, u_and, u_andNot, part_rel, splice_rel, part_rows, eqa_rows]

def loopsR (n : Nat) (R : Rw) : Bool := (List.range n).any fun a => has n (plusR n R) a a
set_option maxHeartbeats 1000000 in
theorem sp_loops (pk : Pk_rel F) {n : Nat} (hn : n ≤ 40) (R : Rw) : pureS F 14 [.ptr (relC n R)] = some (.b (loopsR n R)) := by
  refine pure_of pk.rel_Rel_Loops ?_
  simp (disch := omega) only [A_rel_Rel_Loops, W_skip, W_ext, W_ret, W_seq, thenQ_nrm, thenQ_ext, thenQ_ret, W_cond, selW_true, selW_false, W_blk, blkQ_nrm, blkQ_ret, blkQ_same, blkQ_ne, W_reg, nrmQ_is, WR_nil, WR_cons, selO_true, selO_false, bindO_some, loopQ_nrm, loopQ_ext, loopQ_ret, wanted_none, wanted_some, wantV_1, wantV_0, wantV_undef, ev_t, ev_c, put_some, put_none, upd_same, upd_ne, List.length_cons, List.length_nil, List.map_cons, List.map_nil, allow_no, allow_lt, argEnv_0, argEnv_1, argEnv_2, argEnv_3, argEnv_4, argEnv_5, res_1, res_2, retQ_nrm, retQ_ret, o_mv, o_pick, vPick_t, vPick_f, o_new, o_box, vBox_S, boxD_ok, vMap_some, vMapL_some, o_build, o_ld, vLd_ptr, vLd_S, ldS_ok, selB_true, o_st, vSt_S, stS_ok, stD_ok, o_nilck, vNil_ptr, vNil_mp, vNil_fn, o_bin, o_un, o_mkfn, o_fa, vFa_mp, vFa_S, faD_ok, o_fld, vFld_agg, o_ia, vIa_sl, vIa_ms, o_iaa, vIaa_ptr, vIaa_mp, o_len, vLen_sl, vLen_ms, o_mx, o_mn, vMx_i, vMn_i, o_ext, vExt_tup, b_add, b_sub, b_mul, b_lss, b_leq, b_gtr, b_geq, b_eql, b_neq, o_pure, List.nil_append, List.append_nil, List.cons_append, frz_d_i, frz_d_b, frz_d_s, frz_d_nilp, frz_d_ptr, frz_d_sl, frz_d_fn0, Bool.not_true, Bool.not_false, Bool.true_and, Bool.and_true, Bool.false_and, Bool.and_false, decide_true, decide_false, beq_self_eq_true, Bool.true_eq_false, Bool.false_eq_true, Nat.zero_add, Nat.add_zero, Int.toNat_natCast, ge_iff_le, gt_iff_lt, fill_S, fillD_ok, fill_nil, cellsOf_agg, cellsOf_i, cellsOf_b, cellsOf_s, cellsOf_ptr, cellsOf_nilp, cellsOf_sl, cellsOf_mp, cellsOf_fn, one_i, one_b, one_s, one_ptr, one_nilp, one_sl, one_mp, one_fn, List.all_cons, List.all_nil, splice_1, splice_2, splice_3, part_0, part_1, part_2, drop_0, g0_nx, g0_hp, List.set_cons_zero, List.set_cons_succ, List.length_append, List.length_replicate, Nat.reduceAdd, Nat.reduceMul, Nat.reduceSub, eq_self, true_and, and_true, vPure_S, purS_some, purD_some, purE_true, frzL_cons, frzL_nil, consO_ok, flat_i, flat_b, flat_s, flat_nilp, flat_ptr, flat_sl, flat_agg, flat_tup, vis_i, vis_b, vis_s, vis_nilp, vis_ptr, vis_sl, vis_fn0, List.flatMap_cons, List.flatMap_nil, isEmpty_nil, Bool.true_or, Bool.false_or, Bool.or_true, Bool.or_false, frz_P, frz_Q, frzP_cells, frzB_true, map_some', rd_S, o_bsl, vBsl_t, vBsl_f, o_app, appD_ok, vApp_rig, vApp_rig0, appK_ok, vApp_own, o_eqn, o_eqb, o_eqa, aeqn_pn, aeqn_np, aeqn_mn, aeqn_nn, aeqb_bb, negb_t, negb_f, aun_not, midQ_nrm, relC_n, relC_row, relC_row', relC_drop1, relC_len, rowsC_len, relC_one, relC_flat, cellsOf_U, one_U, frz_U, flat_U, vis_U, relC_set', u_shl, u_or, u_and, u_andNot, part_rel, splice_rel, part_rows, eqa_rows, sp_plus pk hn]
  refine W_loop (fun m e g => ∃ k, m = n - k ∧ k ≤ n ∧ e 10 = .i .i64 n ∧ e 11 = .i .i64 k ∧ e 3 = .ptr (relC n (plusR n R)) ∧ ∀ a, a < k → has n (plusR n R) a a = false) n ?_ ?_
  · refine ⟨0, rfl, Nat.zero_le _, ?_⟩
    simp (disch := omega) only [W_skip, W_ext, W_ret, W_seq, thenQ_nrm, thenQ_ext, thenQ_ret, W_cond, selW_true, selW_false, W_blk, blkQ_nrm, blkQ_ret, blkQ_same, blkQ_ne, W_reg, nrmQ_is, WR_nil, WR_cons, selO_true, selO_false, bindO_some, loopQ_nrm, loopQ_ext, loopQ_ret, wanted_none, wanted_some, wantV_1, wantV_0, wantV_undef, ev_t, ev_c, put_some, put_none, upd_same, upd_ne, List.length_cons, List.length_nil, List.map_cons, List.map_nil, allow_no, allow_lt, argEnv_0, argEnv_1, argEnv_2, argEnv_3, argEnv_4, argEnv_5, res_1, res_2, retQ_nrm, retQ_ret, o_mv, o_pick, vPick_t, vPick_f, o_new, o_box, vBox_S, boxD_ok, vMap_some, vMapL_some, o_build, o_ld, vLd_ptr, vLd_S, ldS_ok, selB_true, o_st, vSt_S, stS_ok, stD_ok, o_nilck, vNil_ptr, vNil_mp, vNil_fn, o_bin, o_un, o_mkfn, o_fa, vFa_mp, vFa_S, faD_ok, o_fld, vFld_agg, o_ia, vIa_sl, vIa_ms, o_iaa, vIaa_ptr, vIaa_mp, o_len, vLen_sl, vLen_ms, o_mx, o_mn, vMx_i, vMn_i, o_ext, vExt_tup, b_add, b_sub, b_mul, b_lss, b_leq, b_gtr, b_geq, b_eql, b_neq, o_pure, List.nil_append, List.append_nil, List.cons_append, frz_d_i, frz_d_b, frz_d_s, frz_d_nilp, frz_d_ptr, frz_d_sl, frz_d_fn0, Bool.not_true, Bool.not_false, Bool.true_and, Bool.and_true, Bool.false_and, Bool.and_false, decide_true, decide_false, beq_self_eq_true, Bool.true_eq_false, Bool.false_eq_true, Nat.zero_add, Nat.add_zero, Int.toNat_natCast, ge_iff_le, gt_iff_lt, fill_S, fillD_ok, fill_nil, cellsOf_agg, cellsOf_i, cellsOf_b, cellsOf_s, cellsOf_ptr, cellsOf_nilp, cellsOf_sl, cellsOf_mp, cellsOf_fn, one_i, one_b, one_s, one_ptr, one_nilp, one_sl, one_mp, one_fn, List.all_cons, List.all_nil, splice_1, splice_2, splice_3, part_0, part_1, part_2, drop_0, g0_nx, g0_hp, List.set_cons_zero, List.set_cons_succ, List.length_append, List.length_replicate, Nat.reduceAdd, Nat.reduceMul, Nat.reduceSub, eq_self, true_and, and_true, vPure_S, purS_some, purD_some, purE_true, frzL_cons, frzL_nil, consO_ok, flat_i, flat_b, flat_s, flat_nilp, flat_ptr, flat_sl, flat_agg, flat_tup, vis_i, vis_b, vis_s, vis_nilp, vis_ptr, vis_sl, vis_fn0, List.flatMap_cons, List.flatMap_nil, isEmpty_nil, Bool.true_or, Bool.false_or, Bool.or_true, Bool.or_false, frz_P, frz_Q, frzP_cells, frzB_true, map_some', rd_S, o_bsl, vBsl_t, vBsl_f, o_app, appD_ok, vApp_rig, vApp_rig0, appK_ok, vApp_own, o_eqn, o_eqb, o_eqa, aeqn_pn, aeqn_np, aeqn_mn, aeqn_nn, aeqb_bb, negb_t, negb_f, aun_not, midQ_nrm]
    exact ⟨rfl, fun a ha => absurd ha (Nat.not_lt_zero _)⟩
  · rintro m e g ⟨k, rfl, hk, h10, h11, h3, hall⟩
    by_cases hk' : k < n
    · have hk1 : (k : Int) < n := by omega
      have hw := succ_wrap (k := k) (by omega)
      by_cases hh : has n (plusR n R) k k = true
      · simp (disch := omega) only [W_skip, W_ext, W_ret, W_seq, thenQ_nrm, thenQ_ext, thenQ_ret, W_cond, selW_true, selW_false, W_blk, blkQ_nrm, blkQ_ret, blkQ_same, blkQ_ne, W_reg, nrmQ_is, WR_nil, WR_cons, selO_true, selO_false, bindO_some, loopQ_nrm, loopQ_ext, loopQ_ret, wanted_none, wanted_some, wantV_1, wantV_0, wantV_undef, ev_t, ev_c, put_some, put_none, upd_same, upd_ne, List.length_cons, List.length_nil, List.map_cons, List.map_nil, allow_no, allow_lt, argEnv_0, argEnv_1, argEnv_2, argEnv_3, argEnv_4, argEnv_5, res_1, res_2, retQ_nrm, retQ_ret, o_mv, o_pick, vPick_t, vPick_f, o_new, o_box, vBox_S, boxD_ok, vMap_some, vMapL_some, o_build, o_ld, vLd_ptr, vLd_S, ldS_ok, selB_true, o_st, vSt_S, stS_ok, stD_ok, o_nilck, vNil_ptr, vNil_mp, vNil_fn, o_bin, o_un, o_mkfn, o_fa, vFa_mp, vFa_S, faD_ok, o_fld, vFld_agg, o_ia, vIa_sl, vIa_ms, o_iaa, vIaa_ptr, vIaa_mp, o_len, vLen_sl, vLen_ms, o_mx, o_mn, vMx_i, vMn_i, o_ext, vExt_tup, b_add, b_sub, b_mul, b_lss, b_leq, b_gtr, b_geq, b_eql, b_neq, o_pure, List.nil_append, List.append_nil, List.cons_append, frz_d_i, frz_d_b, frz_d_s, frz_d_nilp, frz_d_ptr, frz_d_sl, frz_d_fn0, Bool.not_true, Bool.not_false, Bool.true_and, Bool.and_true, Bool.false_and, Bool.and_false, decide_true, decide_false, beq_self_eq_true, Bool.true_eq_false, Bool.false_eq_true, Nat.zero_add, Nat.add_zero, Int.toNat_natCast, ge_iff_le, gt_iff_lt, fill_S, fillD_ok, fill_nil, cellsOf_agg, cellsOf_i, cellsOf_b, cellsOf_s, cellsOf_ptr, cellsOf_nilp, cellsOf_sl, cellsOf_mp, cellsOf_fn, one_i, one_b, one_s, one_ptr, one_nilp, one_sl, one_mp, one_fn, List.all_cons, List.all_nil, splice_1, splice_2, splice_3, part_0, part_1, part_2, drop_0, g0_nx, g0_hp, List.set_cons_zero, List.set_cons_succ, List.length_append, List.length_replicate, Nat.reduceAdd, Nat.reduceMul, Nat.reduceSub, eq_self, true_and, and_true, vPure_S, purS_some, purD_some, purE_true, frzL_cons, frzL_nil, consO_ok, flat_i, flat_b, flat_s, flat_nilp, flat_ptr, flat_sl, flat_agg, flat_tup, vis_i, vis_b, vis_s, vis_nilp, vis_ptr, vis_sl, vis_fn0, List.flatMap_cons, List.flatMap_nil, isEmpty_nil, Bool.true_or, Bool.false_or, Bool.or_true, Bool.or_false, frz_P, frz_Q, frzP_cells, frzB_true, map_some', rd_S, o_bsl, vBsl_t, vBsl_f, o_app, appD_ok, vApp_rig, vApp_rig0, appK_ok, vApp_own, o_eqn, o_eqb, o_eqa, aeqn_pn, aeqn_np, aeqn_mn, aeqn_nn, aeqb_bb, negb_t, negb_f, aun_not, midQ_nrm, h10, h11, h3, hk1, relC_n, relC_row, relC_row', relC_drop1, relC_len, rowsC_len, relC_one, relC_flat, cellsOf_U, one_U, frz_U, flat_U, vis_U, relC_set', u_shl, u_or, u_and, u_andNot, part_rel, splice_rel, part_rows, eqa_rows, hw, sp_has pk hn, hh]
        have : loopsR n R = true := List.any_eq_true.2 ⟨k, List.mem_range.2 hk', hh⟩
        rw [this]
      · simp (disch := omega) only [W_skip, W_ext, W_ret, W_seq, thenQ_nrm, thenQ_ext, thenQ_ret, W_cond, selW_true, selW_false, W_blk, blkQ_nrm, blkQ_ret, blkQ_same, blkQ_ne, W_reg, nrmQ_is, WR_nil, WR_cons, selO_true, selO_false, bindO_some, loopQ_nrm, loopQ_ext, loopQ_ret, wanted_none, wanted_some, wantV_1, wantV_0, wantV_undef, ev_t, ev_c, put_some, put_none, upd_same, upd_ne, List.length_cons, List.length_nil, List.map_cons, List.map_nil, allow_no, allow_lt, argEnv_0, argEnv_1, argEnv_2, argEnv_3, argEnv_4, argEnv_5, res_1, res_2, retQ_nrm, retQ_ret, o_mv, o_pick, vPick_t, vPick_f, o_new, o_box, vBox_S, boxD_ok, vMap_some, vMapL_some, o_build, o_ld, vLd_ptr, vLd_S, ldS_ok, selB_true, o_st, vSt_S, stS_ok, stD_ok, o_nilck, vNil_ptr, vNil_mp, vNil_fn, o_bin, o_un, o_mkfn, o_fa, vFa_mp, vFa_S, faD_ok, o_fld, vFld_agg, o_ia, vIa_sl, vIa_ms, o_iaa, vIaa_ptr, vIaa_mp, o_len, vLen_sl, vLen_ms, o_mx, o_mn, vMx_i, vMn_i, o_ext, vExt_tup, b_add, b_sub, b_mul, b_lss, b_leq, b_gtr, b_geq, b_eql, b_neq, o_pure, List.nil_append, List.append_nil, List.cons_append, frz_d_i, frz_d_b, frz_d_s, frz_d_nilp, frz_d_ptr, frz_d_sl, frz_d_fn0, Bool.not_true, Bool.not_false, Bool.true_and, Bool.and_true, Bool.false_and, Bool.and_false, decide_true, decide_false, beq_self_eq_true, Bool.true_eq_false, Bool.false_eq_true, Nat.zero_add, Nat.add_zero, Int.toNat_natCast, ge_iff_le, gt_iff_lt, fill_S, fillD_ok, fill_nil, cellsOf_agg, cellsOf_i, cellsOf_b, cellsOf_s, cellsOf_ptr, cellsOf_nilp, cellsOf_sl, cellsOf_mp, cellsOf_fn, one_i, one_b, one_s, one_ptr, one_nilp, one_sl, one_mp, one_fn, List.all_cons, List.all_nil, splice_1, splice_2, splice_3, part_0, part_1, part_2, drop_0, g0_nx, g0_hp, List.set_cons_zero, List.set_cons_succ, List.length_append, List.length_replicate, Nat.reduceAdd, Nat.reduceMul, Nat.reduceSub, eq_self, true_and, and_true, vPure_S, purS_some, purD_some, purE_true, frzL_cons, frzL_nil, consO_ok, flat_i, flat_b, flat_s, flat_nilp, flat_ptr, flat_sl, flat_agg, flat_tup, vis_i, vis_b, vis_s, vis_nilp, vis_ptr, vis_sl, vis_fn0, List.flatMap_cons, List.flatMap_nil, isEmpty_nil, Bool.true_or, Bool.false_or, Bool.or_true, Bool.or_false, frz_P, frz_Q, frzP_cells, frzB_true, map_some', rd_S, o_bsl, vBsl_t, vBsl_f, o_app, appD_ok, vApp_rig, vApp_rig0, appK_ok, vApp_own, o_eqn, o_eqb, o_eqa, aeqn_pn, aeqn_np, aeqn_mn, aeqn_nn, aeqb_bb, negb_t, negb_f, aun_not, midQ_nrm, h10, h11, h3, hk1, relC_n, relC_row, relC_row', relC_drop1, relC_len, rowsC_len, relC_one, relC_flat, cellsOf_U, one_U, frz_U, flat_U, vis_U, relC_set', u_shl, u_or, u_and, u_andNot, part_rel, splice_rel, part_rows, eqa_rows, hw, sp_has pk hn, hh]
        refine ⟨_, ?_, k + 1, rfl, by omega, rfl, fun a ha => ?_⟩
        · omega
        · by_cases hak : a = k
          · subst hak; simpa using hh
          · exact hall a (by omega)
    · obtain rfl : k = n := by omega
      have hk1 : ¬ ((k : Int) < k) := by omega
      simp (disch := omega) only [W_skip, W_ext, W_ret, W_seq, thenQ_nrm, thenQ_ext, thenQ_ret, W_cond, selW_true, selW_false, W_blk, blkQ_nrm, blkQ_ret, blkQ_same, blkQ_ne, W_reg, nrmQ_is, WR_nil, WR_cons, selO_true, selO_false, bindO_some, loopQ_nrm, loopQ_ext, loopQ_ret, wanted_none, wanted_some, wantV_1, wantV_0, wantV_undef, ev_t, ev_c, put_some, put_none, upd_same, upd_ne, List.length_cons, List.length_nil, List.map_cons, List.map_nil, allow_no, allow_lt, argEnv_0, argEnv_1, argEnv_2, argEnv_3, argEnv_4, argEnv_5, res_1, res_2, retQ_nrm, retQ_ret, o_mv, o_pick, vPick_t, vPick_f, o_new, o_box, vBox_S, boxD_ok, vMap_some, vMapL_some, o_build, o_ld, vLd_ptr, vLd_S, ldS_ok, selB_true, o_st, vSt_S, stS_ok, stD_ok, o_nilck, vNil_ptr, vNil_mp, vNil_fn, o_bin, o_un, o_mkfn, o_fa, vFa_mp, vFa_S, faD_ok, o_fld, vFld_agg, o_ia, vIa_sl, vIa_ms, o_iaa, vIaa_ptr, vIaa_mp, o_len, vLen_sl, vLen_ms, o_mx, o_mn, vMx_i, vMn_i, o_ext, vExt_tup, b_add, b_sub, b_mul, b_lss, b_leq, b_gtr, b_geq, b_eql, b_neq, o_pure, List.nil_append, List.append_nil, List.cons_append, frz_d_i, frz_d_b, frz_d_s, frz_d_nilp, frz_d_ptr, frz_d_sl, frz_d_fn0, Bool.not_true, Bool.not_false, Bool.true_and, Bool.and_true, Bool.false_and, Bool.and_false, decide_true, decide_false, beq_self_eq_true, Bool.true_eq_false, Bool.false_eq_true, Nat.zero_add, Nat.add_zero, Int.toNat_natCast, ge_iff_le, gt_iff_lt, fill_S, fillD_ok, fill_nil, cellsOf_agg, cellsOf_i, cellsOf_b, cellsOf_s, cellsOf_ptr, cellsOf_nilp, cellsOf_sl, cellsOf_mp, cellsOf_fn, one_i, one_b, one_s, one_ptr, one_nilp, one_sl, one_mp, one_fn, List.all_cons, List.all_nil, splice_1, splice_2, splice_3, part_0, part_1, part_2, drop_0, g0_nx, g0_hp, List.set_cons_zero, List.set_cons_succ, List.length_append, List.length_replicate, Nat.reduceAdd, Nat.reduceMul, Nat.reduceSub, eq_self, true_and, and_true, vPure_S, purS_some, purD_some, purE_true, frzL_cons, frzL_nil, consO_ok, flat_i, flat_b, flat_s, flat_nilp, flat_ptr, flat_sl, flat_agg, flat_tup, vis_i, vis_b, vis_s, vis_nilp, vis_ptr, vis_sl, vis_fn0, List.flatMap_cons, List.flatMap_nil, isEmpty_nil, Bool.true_or, Bool.false_or, Bool.or_true, Bool.or_false, frz_P, frz_Q, frzP_cells, frzB_true, map_some', rd_S, o_bsl, vBsl_t, vBsl_f, o_app, appD_ok, vApp_rig, vApp_rig0, appK_ok, vApp_own, o_eqn, o_eqb, o_eqa, aeqn_pn, aeqn_np, aeqn_mn, aeqn_nn, aeqb_bb, negb_t, negb_f, aun_not, midQ_nrm, h10, h11, h3, hk1, relC_n, relC_row, relC_row', relC_drop1, relC_len, rowsC_len, relC_one, relC_flat, cellsOf_U, one_U, frz_U, flat_U, vis_U, relC_set', u_shl, u_or, u_and, u_andNot, part_rel, splice_rel, part_rows, eqa_rows]
      have : loopsR k R = false := List.any_eq_false.2 fun a ha => by rw [hall a (List.mem_range.1 ha)]; simp
      rw [this]

/-! ### Pairs -/
def rowPr (n : Nat) (R : Rw) (a j : Nat) : List (Int × Int) := ((List.range j).filter fun (b : Nat) => has n R a b).map fun (b : Nat) => ((a : Int), (b : Int))
def pairsK (n k : Nat) (R : Rw) : List (Int × Int) := (List.range k).flatMap fun a => rowPr n R a n
def pairsR (n : Nat) (R : Rw) : List (Int × Int) := pairsK n n R
theorem pairsK_succ (n k R) : pairsK n (k + 1) R = pairsK n k R ++ rowPr n R k n := by simp [pairsK, List.range_succ]
theorem rowPr_succ (n R a j) : rowPr n R a (j + 1) = if has n R a j then rowPr n R a j ++ [((a : Int), (j : Int))] else rowPr n R a j := by
  unfold rowPr
  rw [List.range_succ, List.filter_append, List.filter_cons]
  split <;> simp
def partL (n k j : Nat) (R : Rw) : List (Int × Int) := pairsK n k R ++ rowPr n R k j
theorem partL_0 (n k R) : partL n k 0 R = pairsK n k R := by simp [partL, rowPr]
theorem partL_n (n k R) : partL n k n R = pairsK n (k + 1) R := (pairsK_succ n k R).symm
theorem partL_succ (n k j R) : partL n k (j + 1) R = if has n R k j then partL n k j R ++ [((k : Int), (j : Int))] else partL n k j R := by
  unfold partL
  rw [rowPr_succ]; split <;> simp
theorem pairsC_app (l m : List (Int × Int)) : pairsC (l ++ m) = pairsC l ++ pairsC m := by simp [pairsC]
theorem pairsC_one (a b : Int) : pairsC [(a, b)] = [.i .i64 a, .i .i64 b] := rfl
def Live (g : G) (esz : Nat) (t : Tok) : Prop := t = .rig ∨ ∃ τ, t = .own τ esz ∧ g.hp τ = some (.tok true) ∧ τ < g.nx
set_option maxHeartbeats 1000000 in
theorem sp_pairs (pk : Pk_rel F) {n : Nat} (hn : n ≤ 40) (R : Rw) : pureS F 15 [.ptr (relC n R)] = some (.sl (pairsC (pairsR n R)) (pairsR n R).length .non) := by
  refine pure_of pk.rel_Rel_Pairs ?_
  simp (disch := omega) only [A_rel_Rel_Pairs, W_skip, W_ext, W_ret, W_seq, thenQ_nrm, thenQ_ext, thenQ_ret, W_cond, selW_true, selW_false, W_blk, blkQ_nrm, blkQ_ret, blkQ_same, blkQ_ne, W_reg, nrmQ_is, WR_nil, WR_cons, selO_true, selO_false, bindO_some, loopQ_nrm, loopQ_ext, loopQ_ret, wanted_none, wanted_some, wantV_1, wantV_0, wantV_undef, ev_t, ev_c, put_some, put_none, upd_same, upd_ne, List.length_cons, List.length_nil, List.map_cons, List.map_nil, allow_no, allow_lt, argEnv_0, argEnv_1, argEnv_2, argEnv_3, argEnv_4, argEnv_5, res_1, res_2, retQ_nrm, retQ_ret, o_mv, o_pick, vPick_t, vPick_f, o_new, o_box, vBox_S, boxD_ok, vMap_some, vMapL_some, o_build, o_ld, vLd_ptr, vLd_S, ldS_ok, selB_true, o_st, vSt_S, stS_ok, stD_ok, o_nilck, vNil_ptr, vNil_mp, vNil_fn, o_bin, o_un, o_mkfn, o_fa, vFa_mp, vFa_S, faD_ok, o_fld, vFld_agg, o_ia, vIa_sl, vIa_ms, o_iaa, vIaa_ptr, vIaa_mp, o_len, vLen_sl, vLen_ms, o_mx, o_mn, vMx_i, vMn_i, o_ext, vExt_tup, b_add, b_sub, b_mul, b_lss, b_leq, b_gtr, b_geq, b_eql, b_neq, o_pure, List.nil_append, List.append_nil, List.cons_append, frz_d_i, frz_d_b, frz_d_s, frz_d_nilp, frz_d_ptr, frz_d_sl, frz_d_fn0, Bool.not_true, Bool.not_false, Bool.true_and, Bool.and_true, Bool.false_and, Bool.and_false, decide_true, decide_false, beq_self_eq_true, Bool.true_eq_false, Bool.false_eq_true, Nat.zero_add, Nat.add_zero, Int.toNat_natCast, ge_iff_le, gt_iff_lt, fill_S, fillD_ok, fill_nil, cellsOf_agg, cellsOf_i, cellsOf_b, cellsOf_s, cellsOf_ptr, cellsOf_nilp, cellsOf_sl, cellsOf_mp, cellsOf_fn, one_i, one_b, one_s, one_ptr, one_nilp, one_sl, one_mp, one_fn, List.all_cons, List.all_nil, splice_1, splice_2, splice_3, part_0, part_1, part_2, drop_0, g0_nx, g0_hp, List.set_cons_zero, List.set_cons_succ, List.length_append, List.length_replicate, Nat.reduceAdd, Nat.reduceMul, Nat.reduceSub, eq_self, true_and, and_true, vPure_S, purS_some, purD_some, purE_true, frzL_cons, frzL_nil, consO_ok, flat_i, flat_b, flat_s, flat_nilp, flat_ptr, flat_sl, flat_agg, flat_tup, vis_i, vis_b, vis_s, vis_nilp, vis_ptr, vis_sl, vis_fn0, List.flatMap_cons, List.flatMap_nil, isEmpty_nil, Bool.true_or, Bool.false_or, Bool.or_true, Bool.or_false, frz_P, frz_Q, frzP_cells, frzB_true, map_some', rd_S, o_bsl, vBsl_t, vBsl_f, o_app, appD_ok, vApp_rig, vApp_rig0, appK_ok, vApp_own, o_eqn, o_eqb, o_eqa, aeqn_pn, aeqn_np, aeqn_mn, aeqn_nn, aeqb_bb, negb_t, negb_f, aun_not, midQ_nrm, relC_n, relC_row, relC_row', relC_drop1, relC_len, rowsC_len, relC_one, relC_flat, cellsOf_U, one_U, frz_U, flat_U, vis_U, relC_set', u_shl, u_or, u_and, u_andNot, part_rel, splice_rel, part_rows, eqa_rows]
  refine W_loop (fun m e g => ∃ k t, m = n - k ∧ k ≤ n ∧ e 0 = .ptr (relC n R) ∧ e 9 = .i .i64 n ∧ e 10 = .i .i64 k ∧ e 3 = .sl (pairsC (pairsK n k R)) (pairsK n k R).length t ∧ Live g 2 t ∧ (pairsK n k R).length ≤ 40 * k) n ?_ ?_
  · refine ⟨0, .rig, rfl, Nat.zero_le _, ?_⟩
    simp (disch := omega) only [W_skip, W_ext, W_ret, W_seq, thenQ_nrm, thenQ_ext, thenQ_ret, W_cond, selW_true, selW_false, W_blk, blkQ_nrm, blkQ_ret, blkQ_same, blkQ_ne, W_reg, nrmQ_is, WR_nil, WR_cons, selO_true, selO_false, bindO_some, loopQ_nrm, loopQ_ext, loopQ_ret, wanted_none, wanted_some, wantV_1, wantV_0, wantV_undef, ev_t, ev_c, put_some, put_none, upd_same, upd_ne, List.length_cons, List.length_nil, List.map_cons, List.map_nil, allow_no, allow_lt, argEnv_0, argEnv_1, argEnv_2, argEnv_3, argEnv_4, argEnv_5, res_1, res_2, retQ_nrm, retQ_ret, o_mv, o_pick, vPick_t, vPick_f, o_new, o_box, vBox_S, boxD_ok, vMap_some, vMapL_some, o_build, o_ld, vLd_ptr, vLd_S, ldS_ok, selB_true, o_st, vSt_S, stS_ok, stD_ok, o_nilck, vNil_ptr, vNil_mp, vNil_fn, o_bin, o_un, o_mkfn, o_fa, vFa_mp, vFa_S, faD_ok, o_fld, vFld_agg, o_ia, vIa_sl, vIa_ms, o_iaa, vIaa_ptr, vIaa_mp, o_len, vLen_sl, vLen_ms, o_mx, o_mn, vMx_i, vMn_i, o_ext, vExt_tup, b_add, b_sub, b_mul, b_lss, b_leq, b_gtr, b_geq, b_eql, b_neq, o_pure, List.nil_append, List.append_nil, List.cons_append, frz_d_i, frz_d_b, frz_d_s, frz_d_nilp, frz_d_ptr, frz_d_sl, frz_d_fn0, Bool.not_true, Bool.not_false, Bool.true_and, Bool.and_true, Bool.false_and, Bool.and_false, decide_true, decide_false, beq_self_eq_true, Bool.true_eq_false, Bool.false_eq_true, Nat.zero_add, Nat.add_zero, Int.toNat_natCast, ge_iff_le, gt_iff_lt, fill_S, fillD_ok, fill_nil, cellsOf_agg, cellsOf_i, cellsOf_b, cellsOf_s, cellsOf_ptr, cellsOf_nilp, cellsOf_sl, cellsOf_mp, cellsOf_fn, one_i, one_b, one_s, one_ptr, one_nilp, one_sl, one_mp, one_fn, List.all_cons, List.all_nil, splice_1, splice_2, splice_3, part_0, part_1, part_2, drop_0, g0_nx, g0_hp, List.set_cons_zero, List.set_cons_succ, List.length_append, List.length_replicate, Nat.reduceAdd, Nat.reduceMul, Nat.reduceSub, eq_self, true_and, and_true, vPure_S, purS_some, purD_some, purE_true, frzL_cons, frzL_nil, consO_ok, flat_i, flat_b, flat_s, flat_nilp, flat_ptr, flat_sl, flat_agg, flat_tup, vis_i, vis_b, vis_s, vis_nilp, vis_ptr, vis_sl, vis_fn0, List.flatMap_cons, List.flatMap_nil, isEmpty_nil, Bool.true_or, Bool.false_or, Bool.or_true, Bool.or_false, frz_P, frz_Q, frzP_cells, frzB_true, map_some', rd_S, o_bsl, vBsl_t, vBsl_f, o_app, appD_ok, vApp_rig, vApp_rig0, appK_ok, vApp_own, o_eqn, o_eqb, o_eqa, aeqn_pn, aeqn_np, aeqn_mn, aeqn_nn, aeqb_bb, negb_t, negb_f, aun_not, midQ_nrm]
    exact ⟨rfl, rfl, .inl rfl, Nat.zero_le _⟩
  · rintro m e g ⟨k, t, rfl, hk, h0, h9, h10, h3, ht, hl⟩
    by_cases hk' : k < n
    · have hk1 : (k : Int) < n := by omega
      have hw := succ_wrap (k := k) (by omega)
      simp (disch := omega) only [W_skip, W_ext, W_ret, W_seq, thenQ_nrm, thenQ_ext, thenQ_ret, W_cond, selW_true, selW_false, W_blk, blkQ_nrm, blkQ_ret, blkQ_same, blkQ_ne, W_reg, nrmQ_is, WR_nil, WR_cons, selO_true, selO_false, bindO_some, loopQ_nrm, loopQ_ext, loopQ_ret, wanted_none, wanted_some, wantV_1, wantV_0, wantV_undef, ev_t, ev_c, put_some, put_none, upd_same, upd_ne, List.length_cons, List.length_nil, List.map_cons, List.map_nil, allow_no, allow_lt, argEnv_0, argEnv_1, argEnv_2, argEnv_3, argEnv_4, argEnv_5, res_1, res_2, retQ_nrm, retQ_ret, o_mv, o_pick, vPick_t, vPick_f, o_new, o_box, vBox_S, boxD_ok, vMap_some, vMapL_some, o_build, o_ld, vLd_ptr, vLd_S, ldS_ok, selB_true, o_st, vSt_S, stS_ok, stD_ok, o_nilck, vNil_ptr, vNil_mp, vNil_fn, o_bin, o_un, o_mkfn, o_fa, vFa_mp, vFa_S, faD_ok, o_fld, vFld_agg, o_ia, vIa_sl, vIa_ms, o_iaa, vIaa_ptr, vIaa_mp, o_len, vLen_sl, vLen_ms, o_mx, o_mn, vMx_i, vMn_i, o_ext, vExt_tup, b_add, b_sub, b_mul, b_lss, b_leq, b_gtr, b_geq, b_eql, b_neq, o_pure, List.nil_append, List.append_nil, List.cons_append, frz_d_i, frz_d_b, frz_d_s, frz_d_nilp, frz_d_ptr, frz_d_sl, frz_d_fn0, Bool.not_true, Bool.not_false, Bool.true_and, Bool.and_true, Bool.false_and, Bool.and_false, decide_true, decide_false, beq_self_eq_true, Bool.true_eq_false, Bool.false_eq_true, Nat.zero_add, Nat.add_zero, Int.toNat_natCast, ge_iff_le, gt_iff_lt, fill_S, fillD_ok, fill_nil, cellsOf_agg, cellsOf_i, cellsOf_b, cellsOf_s, cellsOf_ptr, cellsOf_nilp, cellsOf_sl, cellsOf_mp, cellsOf_fn, one_i, one_b, one_s, one_ptr, one_nilp, one_sl, one_mp, one_fn, List.all_cons, List.all_nil, splice_1, splice_2, splice_3, part_0, part_1, part_2, drop_0, g0_nx, g0_hp, List.set_cons_zero, List.set_cons_succ, List.length_append, List.length_replicate, Nat.reduceAdd, Nat.reduceMul, Nat.reduceSub, eq_self, true_and, and_true, vPure_S, purS_some, purD_some, purE_true, frzL_cons, frzL_nil, consO_ok, flat_i, flat_b, flat_s, flat_nilp, flat_ptr, flat_sl, flat_agg, flat_tup, vis_i, vis_b, vis_s, vis_nilp, vis_ptr, vis_sl, vis_fn0, List.flatMap_cons, List.flatMap_nil, isEmpty_nil, Bool.true_or, Bool.false_or, Bool.or_true, Bool.or_false, frz_P, frz_Q, frzP_cells, frzB_true, map_some', rd_S, o_bsl, vBsl_t, vBsl_f, o_app, appD_ok, vApp_rig, vApp_rig0, appK_ok, vApp_own, o_eqn, o_eqb, o_eqa, aeqn_pn, aeqn_np, aeqn_mn, aeqn_nn, aeqb_bb, negb_t, negb_f, aun_not, midQ_nrm, h0, h9, h10, h3, hk1, relC_n, relC_row, relC_row', relC_drop1, relC_len, rowsC_len, relC_one, relC_flat, cellsOf_U, one_U, frz_U, flat_U, vis_U, relC_set', u_shl, u_or, u_and, u_andNot, part_rel, splice_rel, part_rows, eqa_rows]
      refine W_loop (fun m e g => ∃ j t, m = n - j ∧ j ≤ n ∧ e 0 = .ptr (relC n R) ∧ e 9 = .i .i64 n ∧ e 10 = .i .i64 k ∧ e 4 = .i .i64 k ∧ e 16 = .i .i64 n ∧ e 17 = .i .i64 j ∧ e 3 = .sl (pairsC (partL n k j R)) (partL n k j R).length t ∧ Live g 2 t ∧ (partL n k j R).length ≤ 40 * k + j) n ?_ ?_
      · refine ⟨0, t, rfl, Nat.zero_le _, ?_⟩
        simp (disch := omega) only [W_skip, W_ext, W_ret, W_seq, thenQ_nrm, thenQ_ext, thenQ_ret, W_cond, selW_true, selW_false, W_blk, blkQ_nrm, blkQ_ret, blkQ_same, blkQ_ne, W_reg, nrmQ_is, WR_nil, WR_cons, selO_true, selO_false, bindO_some, loopQ_nrm, loopQ_ext, loopQ_ret, wanted_none, wanted_some, wantV_1, wantV_0, wantV_undef, ev_t, ev_c, put_some, put_none, upd_same, upd_ne, List.length_cons, List.length_nil, List.map_cons, List.map_nil, allow_no, allow_lt, argEnv_0, argEnv_1, argEnv_2, argEnv_3, argEnv_4, argEnv_5, res_1, res_2, retQ_nrm, retQ_ret, o_mv, o_pick, vPick_t, vPick_f, o_new, o_box, vBox_S, boxD_ok, vMap_some, vMapL_some, o_build, o_ld, vLd_ptr, vLd_S, ldS_ok, selB_true, o_st, vSt_S, stS_ok, stD_ok, o_nilck, vNil_ptr, vNil_mp, vNil_fn, o_bin, o_un, o_mkfn, o_fa, vFa_mp, vFa_S, faD_ok, o_fld, vFld_agg, o_ia, vIa_sl, vIa_ms, o_iaa, vIaa_ptr, vIaa_mp, o_len, vLen_sl, vLen_ms, o_mx, o_mn, vMx_i, vMn_i, o_ext, vExt_tup, b_add, b_sub, b_mul, b_lss, b_leq, b_gtr, b_geq, b_eql, b_neq, o_pure, List.nil_append, List.append_nil, List.cons_append, frz_d_i, frz_d_b, frz_d_s, frz_d_nilp, frz_d_ptr, frz_d_sl, frz_d_fn0, Bool.not_true, Bool.not_false, Bool.true_and, Bool.and_true, Bool.false_and, Bool.and_false, decide_true, decide_false, beq_self_eq_true, Bool.true_eq_false, Bool.false_eq_true, Nat.zero_add, Nat.add_zero, Int.toNat_natCast, ge_iff_le, gt_iff_lt, fill_S, fillD_ok, fill_nil, cellsOf_agg, cellsOf_i, cellsOf_b, cellsOf_s, cellsOf_ptr, cellsOf_nilp, cellsOf_sl, cellsOf_mp, cellsOf_fn, one_i, one_b, one_s, one_ptr, one_nilp, one_sl, one_mp, one_fn, List.all_cons, List.all_nil, splice_1, splice_2, splice_3, part_0, part_1, part_2, drop_0, g0_nx, g0_hp, List.set_cons_zero, List.set_cons_succ, List.length_append, List.length_replicate, Nat.reduceAdd, Nat.reduceMul, Nat.reduceSub, eq_self, true_and, and_true, vPure_S, purS_some, purD_some, purE_true, frzL_cons, frzL_nil, consO_ok, flat_i, flat_b, flat_s, flat_nilp, flat_ptr, flat_sl, flat_agg, flat_tup, vis_i, vis_b, vis_s, vis_nilp, vis_ptr, vis_sl, vis_fn0, List.flatMap_cons, List.flatMap_nil, isEmpty_nil, Bool.true_or, Bool.false_or, Bool.or_true, Bool.or_false, frz_P, frz_Q, frzP_cells, frzB_true, map_some', rd_S, o_bsl, vBsl_t, vBsl_f, o_app, appD_ok, vApp_rig, vApp_rig0, appK_ok, vApp_own, o_eqn, o_eqb, o_eqa, aeqn_pn, aeqn_np, aeqn_mn, aeqn_nn, aeqb_bb, negb_t, negb_f, aun_not, midQ_nrm, h0, h9, h10, h3]
        rw [partL_0]
        refine ⟨rfl, rfl, ?_, by omega⟩
        rcases ht with rfl | ⟨τ, rfl, hτ, hlt⟩
        · exact .inl rfl
        · exact .inr ⟨τ, rfl, hτ, Nat.lt_of_lt_of_le hlt (by dsimp only; omega)⟩
      · rintro m e g ⟨j, t, rfl, hj, h0, h9, h10, h4, h16, h17, h3, ht, hl⟩
        have hLn := partL_succ n k j R
        by_cases hj' : j < n
        · have hj1 : (j : Int) < n := by omega
          have hwj := succ_wrap (k := j) (by omega)
          by_cases hh : has n R k j = true
          · rw [if_pos hh] at hLn
            rcases ht with rfl | ⟨τ, rfl, hτ, hlt⟩
            · simp (disch := omega) only [W_skip, W_ext, W_ret, W_seq, thenQ_nrm, thenQ_ext, thenQ_ret, W_cond, selW_true, selW_false, W_blk, blkQ_nrm, blkQ_ret, blkQ_same, blkQ_ne, W_reg, nrmQ_is, WR_nil, WR_cons, selO_true, selO_false, bindO_some, loopQ_nrm, loopQ_ext, loopQ_ret, wanted_none, wanted_some, wantV_1, wantV_0, wantV_undef, ev_t, ev_c, put_some, put_none, upd_same, upd_ne, List.length_cons, List.length_nil, List.map_cons, List.map_nil, allow_no, allow_lt, argEnv_0, argEnv_1, argEnv_2, argEnv_3, argEnv_4, argEnv_5, res_1, res_2, retQ_nrm, retQ_ret, o_mv, o_pick, vPick_t, vPick_f, o_new, o_box, vBox_S, boxD_ok, vMap_some, vMapL_some, o_build, o_ld, vLd_ptr, vLd_S, ldS_ok, selB_true, o_st, vSt_S, stS_ok, stD_ok, o_nilck, vNil_ptr, vNil_mp, vNil_fn, o_bin, o_un, o_mkfn, o_fa, vFa_mp, vFa_S, faD_ok, o_fld, vFld_agg, o_ia, vIa_sl, vIa_ms, o_iaa, vIaa_ptr, vIaa_mp, o_len, vLen_sl, vLen_ms, o_mx, o_mn, vMx_i, vMn_i, o_ext, vExt_tup, b_add, b_sub, b_mul, b_lss, b_leq, b_gtr, b_geq, b_eql, b_neq, o_pure, List.nil_append, List.append_nil, List.cons_append, frz_d_i, frz_d_b, frz_d_s, frz_d_nilp, frz_d_ptr, frz_d_sl, frz_d_fn0, Bool.not_true, Bool.not_false, Bool.true_and, Bool.and_true, Bool.false_and, Bool.and_false, decide_true, decide_false, beq_self_eq_true, Bool.true_eq_false, Bool.false_eq_true, Nat.zero_add, Nat.add_zero, Int.toNat_natCast, ge_iff_le, gt_iff_lt, fill_S, fillD_ok, fill_nil, cellsOf_agg, cellsOf_i, cellsOf_b, cellsOf_s, cellsOf_ptr, cellsOf_nilp, cellsOf_sl, cellsOf_mp, cellsOf_fn, one_i, one_b, one_s, one_ptr, one_nilp, one_sl, one_mp, one_fn, List.all_cons, List.all_nil, splice_1, splice_2, splice_3, part_0, part_1, part_2, drop_0, g0_nx, g0_hp, List.set_cons_zero, List.set_cons_succ, List.length_append, List.length_replicate, Nat.reduceAdd, Nat.reduceMul, Nat.reduceSub, eq_self, true_and, and_true, vPure_S, purS_some, purD_some, purE_true, frzL_cons, frzL_nil, consO_ok, flat_i, flat_b, flat_s, flat_nilp, flat_ptr, flat_sl, flat_agg, flat_tup, vis_i, vis_b, vis_s, vis_nilp, vis_ptr, vis_sl, vis_fn0, List.flatMap_cons, List.flatMap_nil, isEmpty_nil, Bool.true_or, Bool.false_or, Bool.or_true, Bool.or_false, frz_P, frz_Q, frzP_cells, frzB_true, map_some', rd_S, o_bsl, vBsl_t, vBsl_f, o_app, appD_ok, vApp_rig, vApp_rig0, appK_ok, vApp_own, o_eqn, o_eqb, o_eqa, aeqn_pn, aeqn_np, aeqn_mn, aeqn_nn, aeqb_bb, negb_t, negb_f, aun_not, midQ_nrm, h0, h9, h10, h4, h16, h17, h3, hj1, relC_n, relC_row, relC_row', relC_drop1, relC_len, rowsC_len, relC_one, relC_flat, cellsOf_U, one_U, frz_U, flat_U, vis_U, relC_set', u_shl, u_or, u_and, u_andNot, part_rel, splice_rel, part_rows, eqa_rows, sp_has pk hn, hh, hwj, pairsC_len]
              refine ⟨n - (j + 1), ?_, j + 1, ?_⟩
              · omega
              · rw [hLn, pairsC_app, pairsC_one, List.length_append]
                exact ⟨_, rfl, by omega, rfl, rfl, .inr ⟨_, rfl, upd_same _ _ _, by dsimp only; omega⟩, by simp; omega⟩
            · simp (disch := omega) only [W_skip, W_ext, W_ret, W_seq, thenQ_nrm, thenQ_ext, thenQ_ret, W_cond, selW_true, selW_false, W_blk, blkQ_nrm, blkQ_ret, blkQ_same, blkQ_ne, W_reg, nrmQ_is, WR_nil, WR_cons, selO_true, selO_false, bindO_some, loopQ_nrm, loopQ_ext, loopQ_ret, wanted_none, wanted_some, wantV_1, wantV_0, wantV_undef, ev_t, ev_c, put_some, put_none, upd_same, upd_ne, List.length_cons, List.length_nil, List.map_cons, List.map_nil, allow_no, allow_lt, argEnv_0, argEnv_1, argEnv_2, argEnv_3, argEnv_4, argEnv_5, res_1, res_2, retQ_nrm, retQ_ret, o_mv, o_pick, vPick_t, vPick_f, o_new, o_box, vBox_S, boxD_ok, vMap_some, vMapL_some, o_build, o_ld, vLd_ptr, vLd_S, ldS_ok, selB_true, o_st, vSt_S, stS_ok, stD_ok, o_nilck, vNil_ptr, vNil_mp, vNil_fn, o_bin, o_un, o_mkfn, o_fa, vFa_mp, vFa_S, faD_ok, o_fld, vFld_agg, o_ia, vIa_sl, vIa_ms, o_iaa, vIaa_ptr, vIaa_mp, o_len, vLen_sl, vLen_ms, o_mx, o_mn, vMx_i, vMn_i, o_ext, vExt_tup, b_add, b_sub, b_mul, b_lss, b_leq, b_gtr, b_geq, b_eql, b_neq, o_pure, List.nil_append, List.append_nil, List.cons_append, frz_d_i, frz_d_b, frz_d_s, frz_d_nilp, frz_d_ptr, frz_d_sl, frz_d_fn0, Bool.not_true, Bool.not_false, Bool.true_and, Bool.and_true, Bool.false_and, Bool.and_false, decide_true, decide_false, beq_self_eq_true, Bool.true_eq_false, Bool.false_eq_true, Nat.zero_add, Nat.add_zero, Int.toNat_natCast, ge_iff_le, gt_iff_lt, fill_S, fillD_ok, fill_nil, cellsOf_agg, cellsOf_i, cellsOf_b, cellsOf_s, cellsOf_ptr, cellsOf_nilp, cellsOf_sl, cellsOf_mp, cellsOf_fn, one_i, one_b, one_s, one_ptr, one_nilp, one_sl, one_mp, one_fn, List.all_cons, List.all_nil, splice_1, splice_2, splice_3, part_0, part_1, part_2, drop_0, g0_nx, g0_hp, List.set_cons_zero, List.set_cons_succ, List.length_append, List.length_replicate, Nat.reduceAdd, Nat.reduceMul, Nat.reduceSub, eq_self, true_and, and_true, vPure_S, purS_some, purD_some, purE_true, frzL_cons, frzL_nil, consO_ok, flat_i, flat_b, flat_s, flat_nilp, flat_ptr, flat_sl, flat_agg, flat_tup, vis_i, vis_b, vis_s, vis_nilp, vis_ptr, vis_sl, vis_fn0, List.flatMap_cons, List.flatMap_nil, isEmpty_nil, Bool.true_or, Bool.false_or, Bool.or_true, Bool.or_false, frz_P, frz_Q, frzP_cells, frzB_true, map_some', rd_S, o_bsl, vBsl_t, vBsl_f, o_app, appD_ok, vApp_rig, vApp_rig0, appK_ok, vApp_own, o_eqn, o_eqb, o_eqa, aeqn_pn, aeqn_np, aeqn_mn, aeqn_nn, aeqb_bb, negb_t, negb_f, aun_not, midQ_nrm, h0, h9, h10, h4, h16, h17, h3, hj1, relC_n, relC_row, relC_row', relC_drop1, relC_len, rowsC_len, relC_one, relC_flat, cellsOf_U, one_U, frz_U, flat_U, vis_U, relC_set', u_shl, u_or, u_and, u_andNot, part_rel, splice_rel, part_rows, eqa_rows, sp_has pk hn, hh, hwj, pairsC_len, hτ]
              refine ⟨n - (j + 1), ?_, j + 1, ?_⟩
              · omega
              · rw [hLn, pairsC_app, pairsC_one, List.length_append]
                exact ⟨_, rfl, by omega, rfl, rfl, .inr ⟨_, rfl, upd_same _ _ _, by dsimp only; omega⟩, by simp; omega⟩
          · rw [if_neg hh] at hLn
            simp (disch := omega) only [W_skip, W_ext, W_ret, W_seq, thenQ_nrm, thenQ_ext, thenQ_ret, W_cond, selW_true, selW_false, W_blk, blkQ_nrm, blkQ_ret, blkQ_same, blkQ_ne, W_reg, nrmQ_is, WR_nil, WR_cons, selO_true, selO_false, bindO_some, loopQ_nrm, loopQ_ext, loopQ_ret, wanted_none, wanted_some, wantV_1, wantV_0, wantV_undef, ev_t, ev_c, put_some, put_none, upd_same, upd_ne, List.length_cons, List.length_nil, List.map_cons, List.map_nil, allow_no, allow_lt, argEnv_0, argEnv_1, argEnv_2, argEnv_3, argEnv_4, argEnv_5, res_1, res_2, retQ_nrm, retQ_ret, o_mv, o_pick, vPick_t, vPick_f, o_new, o_box, vBox_S, boxD_ok, vMap_some, vMapL_some, o_build, o_ld, vLd_ptr, vLd_S, ldS_ok, selB_true, o_st, vSt_S, stS_ok, stD_ok, o_nilck, vNil_ptr, vNil_mp, vNil_fn, o_bin, o_un, o_mkfn, o_fa, vFa_mp, vFa_S, faD_ok, o_fld, vFld_agg, o_ia, vIa_sl, vIa_ms, o_iaa, vIaa_ptr, vIaa_mp, o_len, vLen_sl, vLen_ms, o_mx, o_mn, vMx_i, vMn_i, o_ext, vExt_tup, b_add, b_sub, b_mul, b_lss, b_leq, b_gtr, b_geq, b_eql, b_neq, o_pure, List.nil_append, List.append_nil, List.cons_append, frz_d_i, frz_d_b, frz_d_s, frz_d_nilp, frz_d_ptr, frz_d_sl, frz_d_fn0, Bool.not_true, Bool.not_false, Bool.true_and, Bool.and_true, Bool.false_and, Bool.and_false, decide_true, decide_false, beq_self_eq_true, Bool.true_eq_false, Bool.false_eq_true, Nat.zero_add, Nat.add_zero, Int.toNat_natCast, ge_iff_le, gt_iff_lt, fill_S, fillD_ok, fill_nil, cellsOf_agg, cellsOf_i, cellsOf_b, cellsOf_s, cellsOf_ptr, cellsOf_nilp, cellsOf_sl, cellsOf_mp, cellsOf_fn, one_i, one_b, one_s, one_ptr, one_nilp, one_sl, one_mp, one_fn, List.all_cons, List.all_nil, splice_1, splice_2, splice_3, part_0, part_1, part_2, drop_0, g0_nx, g0_hp, List.set_cons_zero, List.set_cons_succ, List.length_append, List.length_replicate, Nat.reduceAdd, Nat.reduceMul, Nat.reduceSub, eq_self, true_and, and_true, vPure_S, purS_some, purD_some, purE_true, frzL_cons, frzL_nil, consO_ok, flat_i, flat_b, flat_s, flat_nilp, flat_ptr, flat_sl, flat_agg, flat_tup, vis_i, vis_b, vis_s, vis_nilp, vis_ptr, vis_sl, vis_fn0, List.flatMap_cons, List.flatMap_nil, isEmpty_nil, Bool.true_or, Bool.false_or, Bool.or_true, Bool.or_false, frz_P, frz_Q, frzP_cells, frzB_true, map_some', rd_S, o_bsl, vBsl_t, vBsl_f, o_app, appD_ok, vApp_rig, vApp_rig0, appK_ok, vApp_own, o_eqn, o_eqb, o_eqa, aeqn_pn, aeqn_np, aeqn_mn, aeqn_nn, aeqb_bb, negb_t, negb_f, aun_not, midQ_nrm, h0, h9, h10, h4, h16, h17, h3, hj1, relC_n, relC_row, relC_row', relC_drop1, relC_len, rowsC_len, relC_one, relC_flat, cellsOf_U, one_U, frz_U, flat_U, vis_U, relC_set', u_shl, u_or, u_and, u_andNot, part_rel, splice_rel, part_rows, eqa_rows, sp_has pk hn, hh, hwj]
            refine ⟨_, ?_, j + 1, t, rfl, by omega, rfl, ?_⟩
            · omega
            · rw [hLn]
              refine ⟨rfl, ?_, by omega⟩
              rcases ht with rfl | ⟨τ, rfl, hτ, hlt⟩
              · exact .inl rfl
              · exact .inr ⟨τ, rfl, hτ, Nat.lt_of_lt_of_le hlt (by dsimp only; omega)⟩
        · obtain rfl : j = n := by omega
          have hj1 : ¬ ((j : Int) < j) := by omega
          simp (disch := omega) only [W_skip, W_ext, W_ret, W_seq, thenQ_nrm, thenQ_ext, thenQ_ret, W_cond, selW_true, selW_false, W_blk, blkQ_nrm, blkQ_ret, blkQ_same, blkQ_ne, W_reg, nrmQ_is, WR_nil, WR_cons, selO_true, selO_false, bindO_some, loopQ_nrm, loopQ_ext, loopQ_ret, wanted_none, wanted_some, wantV_1, wantV_0, wantV_undef, ev_t, ev_c, put_some, put_none, upd_same, upd_ne, List.length_cons, List.length_nil, List.map_cons, List.map_nil, allow_no, allow_lt, argEnv_0, argEnv_1, argEnv_2, argEnv_3, argEnv_4, argEnv_5, res_1, res_2, retQ_nrm, retQ_ret, o_mv, o_pick, vPick_t, vPick_f, o_new, o_box, vBox_S, boxD_ok, vMap_some, vMapL_some, o_build, o_ld, vLd_ptr, vLd_S, ldS_ok, selB_true, o_st, vSt_S, stS_ok, stD_ok, o_nilck, vNil_ptr, vNil_mp, vNil_fn, o_bin, o_un, o_mkfn, o_fa, vFa_mp, vFa_S, faD_ok, o_fld, vFld_agg, o_ia, vIa_sl, vIa_ms, o_iaa, vIaa_ptr, vIaa_mp, o_len, vLen_sl, vLen_ms, o_mx, o_mn, vMx_i, vMn_i, o_ext, vExt_tup, b_add, b_sub, b_mul, b_lss, b_leq, b_gtr, b_geq, b_eql, b_neq, o_pure, List.nil_append, List.append_nil, List.cons_append, frz_d_i, frz_d_b, frz_d_s, frz_d_nilp, frz_d_ptr, frz_d_sl, frz_d_fn0, Bool.not_true, Bool.not_false, Bool.true_and, Bool.and_true, Bool.false_and, Bool.and_false, decide_true, decide_false, beq_self_eq_true, Bool.true_eq_false, Bool.false_eq_true, Nat.zero_add, Nat.add_zero, Int.toNat_natCast, ge_iff_le, gt_iff_lt, fill_S, fillD_ok, fill_nil, cellsOf_agg, cellsOf_i, cellsOf_b, cellsOf_s, cellsOf_ptr, cellsOf_nilp, cellsOf_sl, cellsOf_mp, cellsOf_fn, one_i, one_b, one_s, one_ptr, one_nilp, one_sl, one_mp, one_fn, List.all_cons, List.all_nil, splice_1, splice_2, splice_3, part_0, part_1, part_2, drop_0, g0_nx, g0_hp, List.set_cons_zero, List.set_cons_succ, List.length_append, List.length_replicate, Nat.reduceAdd, Nat.reduceMul, Nat.reduceSub, eq_self, true_and, and_true, vPure_S, purS_some, purD_some, purE_true, frzL_cons, frzL_nil, consO_ok, flat_i, flat_b, flat_s, flat_nilp, flat_ptr, flat_sl, flat_agg, flat_tup, vis_i, vis_b, vis_s, vis_nilp, vis_ptr, vis_sl, vis_fn0, List.flatMap_cons, List.flatMap_nil, isEmpty_nil, Bool.true_or, Bool.false_or, Bool.or_true, Bool.or_false, frz_P, frz_Q, frzP_cells, frzB_true, map_some', rd_S, o_bsl, vBsl_t, vBsl_f, o_app, appD_ok, vApp_rig, vApp_rig0, appK_ok, vApp_own, o_eqn, o_eqb, o_eqa, aeqn_pn, aeqn_np, aeqn_mn, aeqn_nn, aeqb_bb, negb_t, negb_f, aun_not, midQ_nrm, h0, h9, h10, h4, h16, h17, h3, hj1, hw]
          refine ⟨_, ?_, k + 1, t, rfl, by omega, rfl, ?_⟩
          · omega
          · rw [← partL_n]
            refine ⟨rfl, ?_, by omega⟩
            rcases ht with rfl | ⟨τ, rfl, hτ, hlt⟩
            · exact .inl rfl
            · exact .inr ⟨τ, rfl, hτ, Nat.lt_of_lt_of_le hlt (by dsimp only; omega)⟩
    · obtain rfl : k = n := by omega
      have hk1 : ¬ ((k : Int) < k) := by omega
      simp (disch := omega) only [W_skip, W_ext, W_ret, W_seq, thenQ_nrm, thenQ_ext, thenQ_ret, W_cond, selW_true, selW_false, W_blk, blkQ_nrm, blkQ_ret, blkQ_same, blkQ_ne, W_reg, nrmQ_is, WR_nil, WR_cons, selO_true, selO_false, bindO_some, loopQ_nrm, loopQ_ext, loopQ_ret, wanted_none, wanted_some, wantV_1, wantV_0, wantV_undef, ev_t, ev_c, put_some, put_none, upd_same, upd_ne, List.length_cons, List.length_nil, List.map_cons, List.map_nil, allow_no, allow_lt, argEnv_0, argEnv_1, argEnv_2, argEnv_3, argEnv_4, argEnv_5, res_1, res_2, retQ_nrm, retQ_ret, o_mv, o_pick, vPick_t, vPick_f, o_new, o_box, vBox_S, boxD_ok, vMap_some, vMapL_some, o_build, o_ld, vLd_ptr, vLd_S, ldS_ok, selB_true, o_st, vSt_S, stS_ok, stD_ok, o_nilck, vNil_ptr, vNil_mp, vNil_fn, o_bin, o_un, o_mkfn, o_fa, vFa_mp, vFa_S, faD_ok, o_fld, vFld_agg, o_ia, vIa_sl, vIa_ms, o_iaa, vIaa_ptr, vIaa_mp, o_len, vLen_sl, vLen_ms, o_mx, o_mn, vMx_i, vMn_i, o_ext, vExt_tup, b_add, b_sub, b_mul, b_lss, b_leq, b_gtr, b_geq, b_eql, b_neq, o_pure, List.nil_append, List.append_nil, List.cons_append, frz_d_i, frz_d_b, frz_d_s, frz_d_nilp, frz_d_ptr, frz_d_sl, frz_d_fn0, Bool.not_true, Bool.not_false, Bool.true_and, Bool.and_true, Bool.false_and, Bool.and_false, decide_true, decide_false, beq_self_eq_true, Bool.true_eq_false, Bool.false_eq_true, Nat.zero_add, Nat.add_zero, Int.toNat_natCast, ge_iff_le, gt_iff_lt, fill_S, fillD_ok, fill_nil, cellsOf_agg, cellsOf_i, cellsOf_b, cellsOf_s, cellsOf_ptr, cellsOf_nilp, cellsOf_sl, cellsOf_mp, cellsOf_fn, one_i, one_b, one_s, one_ptr, one_nilp, one_sl, one_mp, one_fn, List.all_cons, List.all_nil, splice_1, splice_2, splice_3, part_0, part_1, part_2, drop_0, g0_nx, g0_hp, List.set_cons_zero, List.set_cons_succ, List.length_append, List.length_replicate, Nat.reduceAdd, Nat.reduceMul, Nat.reduceSub, eq_self, true_and, and_true, vPure_S, purS_some, purD_some, purE_true, frzL_cons, frzL_nil, consO_ok, flat_i, flat_b, flat_s, flat_nilp, flat_ptr, flat_sl, flat_agg, flat_tup, vis_i, vis_b, vis_s, vis_nilp, vis_ptr, vis_sl, vis_fn0, List.flatMap_cons, List.flatMap_nil, isEmpty_nil, Bool.true_or, Bool.false_or, Bool.or_true, Bool.or_false, frz_P, frz_Q, frzP_cells, frzB_true, map_some', rd_S, o_bsl, vBsl_t, vBsl_f, o_app, appD_ok, vApp_rig, vApp_rig0, appK_ok, vApp_own, o_eqn, o_eqb, o_eqa, aeqn_pn, aeqn_np, aeqn_mn, aeqn_nn, aeqb_bb, negb_t, negb_f, aun_not, midQ_nrm, h0, h9, h10, h3, hk1, relC_n, relC_row, relC_row', relC_drop1, relC_len, rowsC_len, relC_one, relC_flat, cellsOf_U, one_U, frz_U, flat_U, vis_U, relC_set', u_shl, u_or, u_and, u_andNot, part_rel, splice_rel, part_rows, eqa_rows]
      rfl
end Go.Ab
end
