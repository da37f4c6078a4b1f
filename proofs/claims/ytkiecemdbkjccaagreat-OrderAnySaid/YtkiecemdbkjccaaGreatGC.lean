/- The abstract machine, its adequacy, what functions compute; lemmas, no claim of its own. -/
import Derived.Test.YtkiecemdbkjccaaGreatGA
import Derived.Test.YtkiecemdbkjccaaGreatGB
section
/- Resolved functions of package rel, written by a program (res.py). -/
namespace Go.Ab
def A_rel_New : AFun := { res := [.t 4], body := (.seq (.reg false [{ dst := some 4, op := .mv (.c (.nilp)) }])
 (.seq (.reg false [{ dst := some 8, op := .mv (.t 0) },
  { dst := some 9, op := .mn (.t 8) (.c (.i .i64 40)) },
  { dst := some 10, op := .mx (.c (.i .i64 0)) (.t 9) },
  { dst := some 11, op := .build ([.i .i64 0] ++ List.replicate 40 (.i .u64 0)) [(0, 1, .t 10)] },
  { dst := some 12, op := .box (.t 11) },
  { dst := some 5, op := .mv (.t 12) }])
 (.seq (.seq (.reg false [{ dst := some 13, op := .mv (.t 1) },
  { dst := some 14, op := .len (.t 13) },
  { dst := some 15, op := .mv (.c (.i .i64 0)) }])
 (.blk 0 (.loop (.seq (.reg false [{ dst := some 16, op := .bin .lss (.t 15) (.t 14) }])
 (.seq (.cond (.t 16) .skip
 (.ext 0))
 (.seq (.blk 1 (.seq (.reg false [{ dst := some 17, op := .ia 2 (.t 13) (.t 15) },
  { dst := some 18, op := .ld (some 2) (.t 17) },
  { dst := some 7, op := .new ([.i .i64 0, .i .i64 0]) },
  { dst := none, op := .st 2 (.t 7) (.t 18) }])
 (.seq (.reg true [{ dst := some 19, op := .fa 0 (.t 7) },
  { dst := some 20, op := .ld none (.t 19), pre := [] },
  { dst := some 21, op := .bin .geq (.t 20) (.c (.i .i64 0)) },
  { dst := some 22, op := .mv (.t 21) },
  { dst := some 23, op := .fa 0 (.t 7), grd := some (22, true) },
  { dst := some 24, op := .ld none (.t 23), grd := some (22, true), pre := [] },
  { dst := some 25, op := .mv (.t 5), grd := some (22, true) },
  { dst := some 26, op := .nilck (.t 25), grd := some (22, true) },
  { dst := some 27, op := .fa 0 (.t 26), grd := some (22, true) },
  { dst := some 28, op := .ld none (.t 27), grd := some (22, true), pre := [] },
  { dst := some 29, op := .bin .lss (.t 24) (.t 28), grd := some (22, true) },
  { dst := some 30, op := .pick (.t 22) (.t 29) (.c (.b false)) },
  { dst := some 31, op := .mv (.t 30) },
  { dst := some 32, op := .fa 1 (.t 7), grd := some (31, true) },
  { dst := some 33, op := .ld none (.t 32), grd := some (31, true), pre := [] },
  { dst := some 34, op := .bin .geq (.t 33) (.c (.i .i64 0)), grd := some (31, true) },
  { dst := some 35, op := .pick (.t 31) (.t 34) (.c (.b false)) },
  { dst := some 36, op := .mv (.t 35) },
  { dst := some 37, op := .fa 1 (.t 7), grd := some (36, true) },
  { dst := some 38, op := .ld none (.t 37), grd := some (36, true), pre := [] },
  { dst := some 39, op := .mv (.t 5), grd := some (36, true) },
  { dst := some 40, op := .nilck (.t 39), grd := some (36, true) },
  { dst := some 41, op := .fa 0 (.t 40), grd := some (36, true) },
  { dst := some 42, op := .ld none (.t 41), grd := some (36, true), pre := [] },
  { dst := some 43, op := .bin .lss (.t 38) (.t 42), grd := some (36, true) },
  { dst := some 44, op := .pick (.t 36) (.t 43) (.c (.b false)) }])
 (.cond (.t 44) (.reg true [{ dst := some 45, op := .mv (.t 5) },
  { dst := some 46, op := .fa 0 (.t 7) },
  { dst := some 47, op := .ld none (.t 46), pre := [] },
  { dst := some 48, op := .nilck (.t 45) },
  { dst := some 49, op := .fa 1 (.t 48) },
  { dst := some 50, op := .iaa 40 1 (.t 49) (.t 47) },
  { dst := some 51, op := .ld none (.t 50), pre := [] },
  { dst := some 52, op := .fa 1 (.t 7) },
  { dst := some 53, op := .ld none (.t 52), pre := [] },
  { dst := some 54, op := .bin .shl (.c (.i .u64 1)) (.t 53) },
  { dst := some 55, op := .bin .or (.t 51) (.t 54) },
  { dst := some 56, op := .nilck (.t 45) },
  { dst := some 57, op := .fa 1 (.t 56) },
  { dst := some 58, op := .iaa 40 1 (.t 57) (.t 47) },
  { dst := none, op := .st 1 (.t 58) (.t 55), pre := [] }])
 .skip))))
 (.reg false [{ dst := some 59, op := .bin .add (.t 15) (.c (.i .i64 1)) },
  { dst := some 15, op := .mv (.t 59) }])))))))
 (.seq (.reg false [{ dst := some 60, op := .mv (.t 5) },
  { dst := some 4, op := .mv (.t 60) }])
 .ret)))) }
def A_rel_Rel_Plus : AFun := { res := [.t 2], body := (.seq (.reg false [{ dst := some 2, op := .mv (.c (.nilp)) }])
 (.seq (.reg false [{ dst := some 6, op := .mv (.t 0) },
  { dst := some 7, op := .nilck (.t 6) },
  { dst := some 8, op := .ld (some 41) (.t 7) },
  { dst := some 3, op := .new ([.i .i64 0] ++ List.replicate 40 (.i .u64 0)) },
  { dst := none, op := .st 41 (.t 3) (.t 8) }])
 (.seq (.seq (.reg false [{ dst := some 9, op := .mv (.t 0) },
  { dst := some 10, op := .nilck (.t 9) },
  { dst := some 11, op := .fa 0 (.t 10) },
  { dst := some 12, op := .ld none (.t 11) },
  { dst := some 13, op := .mv (.c (.i .i64 0)) }])
 (.blk 0 (.loop (.seq (.reg false [{ dst := some 14, op := .bin .lss (.t 13) (.t 12) }])
 (.seq (.cond (.t 14) .skip
 (.ext 0))
 (.seq (.blk 1 (.seq (.reg false [{ dst := some 15, op := .mv (.t 13) },
  { dst := some 4, op := .mv (.t 15) }])
 (.seq (.reg false [{ dst := some 16, op := .mv (.t 0) },
  { dst := some 17, op := .nilck (.t 16) },
  { dst := some 18, op := .fa 0 (.t 17) },
  { dst := some 19, op := .ld none (.t 18) },
  { dst := some 20, op := .mv (.c (.i .i64 0)) }])
 (.blk 2 (.loop (.seq (.reg false [{ dst := some 21, op := .bin .lss (.t 20) (.t 19) }])
 (.seq (.cond (.t 21) .skip
 (.ext 2))
 (.seq (.blk 3 (.seq (.reg false [{ dst := some 22, op := .mv (.t 20) },
  { dst := some 5, op := .mv (.t 22) }])
 (.seq (.reg false [{ dst := some 23, op := .mv (.t 5) },
  { dst := some 24, op := .mv (.t 4) },
  { dst := some 25, op := .call .pure (.c (.fn 13 [] [])) [.t 3, .t 23, .t 24] }])
 (.cond (.t 25) (.reg true [{ dst := some 26, op := .mv (.t 5) },
  { dst := some 27, op := .fa 1 (.t 3) },
  { dst := some 28, op := .iaa 40 1 (.t 27) (.t 26) },
  { dst := some 29, op := .ld none (.t 28), pre := [] },
  { dst := some 30, op := .mv (.t 4) },
  { dst := some 31, op := .fa 1 (.t 3) },
  { dst := some 32, op := .iaa 40 1 (.t 31) (.t 30) },
  { dst := some 33, op := .ld none (.t 32), pre := [] },
  { dst := some 34, op := .bin .or (.t 29) (.t 33) },
  { dst := some 35, op := .fa 1 (.t 3) },
  { dst := some 36, op := .iaa 40 1 (.t 35) (.t 26) },
  { dst := none, op := .st 1 (.t 36) (.t 34), pre := [] }])
 .skip))))
 (.reg false [{ dst := some 37, op := .bin .add (.t 20) (.c (.i .i64 1)) },
  { dst := some 20, op := .mv (.t 37) }])))))))))
 (.reg false [{ dst := some 38, op := .bin .add (.t 13) (.c (.i .i64 1)) },
  { dst := some 13, op := .mv (.t 38) }])))))))
 (.seq (.reg false [{ dst := some 2, op := .mv (.t 3) }])
 .ret)))) }
def A_rel_Rel_Has : AFun := { res := [.t 6], body := (.seq (.reg false [{ dst := some 6, op := .mv (.c (.b false)) }])
 (.seq (.reg false [{ dst := some 7, op := .mv (.t 1) },
  { dst := some 8, op := .bin .geq (.t 7) (.c (.i .i64 0)) },
  { dst := some 9, op := .mv (.t 8) },
  { dst := some 10, op := .mv (.t 1), grd := some (9, true) },
  { dst := some 11, op := .mv (.t 0), grd := some (9, true) },
  { dst := some 12, op := .nilck (.t 11), grd := some (9, true) },
  { dst := some 13, op := .fa 0 (.t 12), grd := some (9, true) },
  { dst := some 14, op := .ld none (.t 13), grd := some (9, true) },
  { dst := some 15, op := .bin .lss (.t 10) (.t 14), grd := some (9, true) },
  { dst := some 16, op := .pick (.t 9) (.t 15) (.c (.b false)) },
  { dst := some 17, op := .mv (.t 16) },
  { dst := some 18, op := .mv (.t 2), grd := some (17, true) },
  { dst := some 19, op := .bin .geq (.t 18) (.c (.i .i64 0)), grd := some (17, true) },
  { dst := some 20, op := .pick (.t 17) (.t 19) (.c (.b false)) },
  { dst := some 21, op := .mv (.t 20) },
  { dst := some 22, op := .mv (.t 2), grd := some (21, true) },
  { dst := some 23, op := .mv (.t 0), grd := some (21, true) },
  { dst := some 24, op := .nilck (.t 23), grd := some (21, true) },
  { dst := some 25, op := .fa 0 (.t 24), grd := some (21, true) },
  { dst := some 26, op := .ld none (.t 25), grd := some (21, true) },
  { dst := some 27, op := .bin .lss (.t 22) (.t 26), grd := some (21, true) },
  { dst := some 28, op := .pick (.t 21) (.t 27) (.c (.b false)) },
  { dst := some 29, op := .mv (.t 28) },
  { dst := some 30, op := .mv (.t 0), grd := some (29, true) },
  { dst := some 31, op := .mv (.t 1), grd := some (29, true) },
  { dst := some 32, op := .nilck (.t 30), grd := some (29, true) },
  { dst := some 33, op := .fa 1 (.t 32), grd := some (29, true) },
  { dst := some 34, op := .iaa 40 1 (.t 33) (.t 31), grd := some (29, true) },
  { dst := some 35, op := .ld none (.t 34), grd := some (29, true) },
  { dst := some 36, op := .mv (.t 2), grd := some (29, true) },
  { dst := some 37, op := .bin .shr (.t 35) (.t 36), grd := some (29, true) },
  { dst := some 38, op := .bin .and (.t 37) (.c (.i .u64 1)), grd := some (29, true) },
  { dst := some 39, op := .bin .neq (.t 38) (.c (.i .u64 0)), grd := some (29, true) },
  { dst := some 40, op := .pick (.t 29) (.t 39) (.c (.b false)) },
  { dst := some 6, op := .mv (.t 40) }])
 .ret)) }
def A_rel_Rel_Loops : AFun := { res := [.t 2], body := (.seq (.reg false [{ dst := some 2, op := .mv (.c (.b false)) }])
 (.seq (.reg false [{ dst := some 5, op := .mv (.t 0) },
  { dst := some 6, op := .call .pure (.c (.fn 12 [] [])) [.t 5] },
  { dst := some 3, op := .mv (.t 6) }])
 (.seq (.seq (.reg false [{ dst := some 7, op := .mv (.t 0) },
  { dst := some 8, op := .nilck (.t 7) },
  { dst := some 9, op := .fa 0 (.t 8) },
  { dst := some 10, op := .ld none (.t 9) },
  { dst := some 11, op := .mv (.c (.i .i64 0)) }])
 (.blk 0 (.loop (.seq (.reg false [{ dst := some 12, op := .bin .lss (.t 11) (.t 10) }])
 (.seq (.cond (.t 12) .skip
 (.ext 0))
 (.seq (.blk 1 (.seq (.reg false [{ dst := some 13, op := .mv (.t 11) },
  { dst := some 4, op := .mv (.t 13) }])
 (.seq (.reg false [{ dst := some 14, op := .mv (.t 3) },
  { dst := some 15, op := .mv (.t 4) },
  { dst := some 16, op := .mv (.t 4) },
  { dst := some 17, op := .call .pure (.c (.fn 13 [] [])) [.t 14, .t 15, .t 16] }])
 (.cond (.t 17) (.seq (.reg false [{ dst := some 2, op := .mv (.c (.b true)) }])
 .ret)
 .skip))))
 (.reg false [{ dst := some 18, op := .bin .add (.t 11) (.c (.i .i64 1)) },
  { dst := some 11, op := .mv (.t 18) }])))))))
 (.seq (.reg false [{ dst := some 2, op := .mv (.c (.b false)) }])
 .ret)))) }
def A_rel_Rel_Pairs : AFun := { res := [.t 2], body := (.seq (.reg false [{ dst := some 2, op := .mv (.c (.sl [] 0 .rig)) }])
 (.seq (.reg false [{ dst := some 3, op := .mv (.c (.sl [] 0 .rig)) }])
 (.seq (.seq (.reg false [{ dst := some 6, op := .mv (.t 0) },
  { dst := some 7, op := .nilck (.t 6) },
  { dst := some 8, op := .fa 0 (.t 7) },
  { dst := some 9, op := .ld none (.t 8) },
  { dst := some 10, op := .mv (.c (.i .i64 0)) }])
 (.blk 0 (.loop (.seq (.reg false [{ dst := some 11, op := .bin .lss (.t 10) (.t 9) }])
 (.seq (.cond (.t 11) .skip
 (.ext 0))
 (.seq (.blk 1 (.seq (.reg false [{ dst := some 12, op := .mv (.t 10) },
  { dst := some 4, op := .mv (.t 12) }])
 (.seq (.reg false [{ dst := some 13, op := .mv (.t 0) },
  { dst := some 14, op := .nilck (.t 13) },
  { dst := some 15, op := .fa 0 (.t 14) },
  { dst := some 16, op := .ld none (.t 15) },
  { dst := some 17, op := .mv (.c (.i .i64 0)) }])
 (.blk 2 (.loop (.seq (.reg false [{ dst := some 18, op := .bin .lss (.t 17) (.t 16) }])
 (.seq (.cond (.t 18) .skip
 (.ext 2))
 (.seq (.blk 3 (.seq (.reg false [{ dst := some 19, op := .mv (.t 17) },
  { dst := some 5, op := .mv (.t 19) }])
 (.seq (.reg false [{ dst := some 20, op := .mv (.t 0) },
  { dst := some 21, op := .mv (.t 4) },
  { dst := some 22, op := .mv (.t 5) },
  { dst := some 23, op := .call .pure (.c (.fn 13 [] [])) [.t 20, .t 21, .t 22] }])
 (.cond (.t 23) (.reg false [{ dst := some 24, op := .mv (.t 3) },
  { dst := some 25, op := .mv (.t 4) },
  { dst := some 26, op := .mv (.t 5) },
  { dst := some 27, op := .build ([.i .i64 0, .i .i64 0]) [(0, 1, .t 25), (1, 1, .t 26)] },
  { dst := some 28, op := .bsl true 1 ([.i .i64 0, .i .i64 0]) [(0, 2, .t 27)] },
  { dst := some 29, op := .app 2 16 (.t 24) (.t 28) },
  { dst := some 3, op := .mv (.t 29) }])
 .skip))))
 (.reg false [{ dst := some 30, op := .bin .add (.t 17) (.c (.i .i64 1)) },
  { dst := some 17, op := .mv (.t 30) }])))))))))
 (.reg false [{ dst := some 31, op := .bin .add (.t 10) (.c (.i .i64 1)) },
  { dst := some 10, op := .mv (.t 31) }])))))))
 (.seq (.reg false [{ dst := some 32, op := .mv (.t 3) },
  { dst := some 2, op := .mv (.t 32) }])
 .ret)))) }
def A_rel_Rel_Maybe : AFun := { res := [.t 2], body := (.seq (.reg false [{ dst := some 2, op := .mv (.c (.nilp)) }])
 (.seq (.reg false [{ dst := some 5, op := .mv (.t 0) },
  { dst := some 6, op := .nilck (.t 5) },
  { dst := some 7, op := .ld (some 41) (.t 6) },
  { dst := some 3, op := .new ([.i .i64 0] ++ List.replicate 40 (.i .u64 0)) },
  { dst := none, op := .st 41 (.t 3) (.t 7) }])
 (.seq (.seq (.reg false [{ dst := some 8, op := .mv (.t 0) },
  { dst := some 9, op := .nilck (.t 8) },
  { dst := some 10, op := .fa 0 (.t 9) },
  { dst := some 11, op := .ld none (.t 10) },
  { dst := some 12, op := .mv (.c (.i .i64 0)) }])
 (.blk 0 (.loop (.seq (.reg false [{ dst := some 13, op := .bin .lss (.t 12) (.t 11) }])
 (.seq (.cond (.t 13) .skip
 (.ext 0))
 (.seq (.blk 1 (.seq (.reg false [{ dst := some 14, op := .mv (.t 12) },
  { dst := some 4, op := .mv (.t 14) }])
 (.reg true [{ dst := some 15, op := .mv (.t 4) },
  { dst := some 16, op := .fa 1 (.t 3) },
  { dst := some 17, op := .iaa 40 1 (.t 16) (.t 15) },
  { dst := some 18, op := .ld none (.t 17), pre := [] },
  { dst := some 19, op := .mv (.t 4) },
  { dst := some 20, op := .bin .shl (.c (.i .u64 1)) (.t 19) },
  { dst := some 21, op := .bin .or (.t 18) (.t 20) },
  { dst := some 22, op := .fa 1 (.t 3) },
  { dst := some 23, op := .iaa 40 1 (.t 22) (.t 15) },
  { dst := none, op := .st 1 (.t 23) (.t 21), pre := [] }])))
 (.reg false [{ dst := some 24, op := .bin .add (.t 12) (.c (.i .i64 1)) },
  { dst := some 12, op := .mv (.t 24) }])))))))
 (.seq (.reg false [{ dst := some 2, op := .mv (.t 3) }])
 .ret)))) }
def A_rel_Rel_Len : AFun := { res := [.t 2], body := (.seq (.reg false [{ dst := some 2, op := .mv (.c (.i .i64 0)) }])
 (.seq (.reg false [{ dst := some 3, op := .mv (.t 0) },
  { dst := some 4, op := .nilck (.t 3) },
  { dst := some 5, op := .fa 0 (.t 4) },
  { dst := some 6, op := .ld none (.t 5) },
  { dst := some 2, op := .mv (.t 6) }])
 .ret)) }
def A_rel_Rel_And : AFun := { res := [.t 4], body := (.seq (.reg false [{ dst := some 4, op := .mv (.c (.nilp)) }])
 (.seq (.reg false [{ dst := some 5, op := .mv (.t 0) },
  { dst := some 6, op := .mv (.t 1) },
  { dst := some 7, op := .call .pure (.c (.fn 51 [] [])) [.t 5, .t 6, .c (.fn 52 [] [])] },
  { dst := some 4, op := .mv (.t 7) }])
 .ret)) }
def A_rel_Rel_In : AFun := { res := [.t 4], body := (.seq (.reg false [{ dst := some 4, op := .mv (.c (.b false)) }])
 (.seq (.reg false [{ dst := some 5, op := .mv (.t 0) },
  { dst := some 6, op := .mv (.t 1) },
  { dst := some 7, op := .call .pure (.c (.fn 26 [] [])) [.t 5, .t 6] },
  { dst := some 8, op := .nilck (.t 7) },
  { dst := some 9, op := .fa 1 (.t 8) },
  { dst := some 10, op := .ld (some 40) (.t 9) },
  { dst := some 11, op := .build (List.replicate 40 (.i .u64 0)) [] },
  { dst := some 12, op := .eqa false (List.replicate 40 0) (.t 10) (.t 11) },
  { dst := some 4, op := .mv (.t 12) }])
 .ret)) }
def A_rel_Rel_Then : AFun := { res := [.t 4], body := (.seq (.reg false [{ dst := some 4, op := .mv (.c (.nilp)) }])
 (.seq (.reg true [{ dst := some 8, op := .mv (.t 0) },
  { dst := some 9, op := .nilck (.t 8) },
  { dst := some 10, op := .fa 0 (.t 9) },
  { dst := some 11, op := .ld none (.t 10), pre := [] },
  { dst := some 12, op := .mv (.t 1) },
  { dst := some 13, op := .nilck (.t 12) },
  { dst := some 14, op := .fa 0 (.t 13) },
  { dst := some 15, op := .ld none (.t 14), pre := [] },
  { dst := some 16, op := .mx (.t 11) (.t 15) },
  { dst := some 17, op := .build ([.i .i64 0] ++ List.replicate 40 (.i .u64 0)) [(0, 1, .t 16)] },
  { dst := some 18, op := .box (.t 17) },
  { dst := some 5, op := .mv (.t 18) }])
 (.seq (.seq (.reg false [{ dst := some 19, op := .mv (.t 0) },
  { dst := some 20, op := .nilck (.t 19) },
  { dst := some 21, op := .fa 0 (.t 20) },
  { dst := some 22, op := .ld none (.t 21) },
  { dst := some 23, op := .mv (.c (.i .i64 0)) }])
 (.blk 0 (.loop (.seq (.reg false [{ dst := some 24, op := .bin .lss (.t 23) (.t 22) }])
 (.seq (.cond (.t 24) .skip
 (.ext 0))
 (.seq (.blk 1 (.seq (.reg false [{ dst := some 25, op := .mv (.t 23) },
  { dst := some 6, op := .mv (.t 25) }])
 (.seq (.reg false [{ dst := some 26, op := .mv (.t 0) },
  { dst := some 27, op := .nilck (.t 26) },
  { dst := some 28, op := .fa 0 (.t 27) },
  { dst := some 29, op := .ld none (.t 28) },
  { dst := some 30, op := .mv (.c (.i .i64 0)) }])
 (.blk 2 (.loop (.seq (.reg false [{ dst := some 31, op := .bin .lss (.t 30) (.t 29) }])
 (.seq (.cond (.t 31) .skip
 (.ext 2))
 (.seq (.blk 3 (.seq (.reg false [{ dst := some 32, op := .mv (.t 30) },
  { dst := some 7, op := .mv (.t 32) }])
 (.seq (.reg false [{ dst := some 33, op := .mv (.t 0) },
  { dst := some 34, op := .mv (.t 6) },
  { dst := some 35, op := .mv (.t 7) },
  { dst := some 36, op := .call .pure (.c (.fn 13 [] [])) [.t 33, .t 34, .t 35] }])
 (.cond (.t 36) (.reg true [{ dst := some 37, op := .mv (.t 5) },
  { dst := some 38, op := .mv (.t 6) },
  { dst := some 39, op := .nilck (.t 37) },
  { dst := some 40, op := .fa 1 (.t 39) },
  { dst := some 41, op := .iaa 40 1 (.t 40) (.t 38) },
  { dst := some 42, op := .ld none (.t 41), pre := [] },
  { dst := some 43, op := .mv (.t 1) },
  { dst := some 44, op := .mv (.t 7) },
  { dst := some 45, op := .nilck (.t 43) },
  { dst := some 46, op := .fa 1 (.t 45) },
  { dst := some 47, op := .iaa 40 1 (.t 46) (.t 44) },
  { dst := some 48, op := .ld none (.t 47), pre := [] },
  { dst := some 49, op := .bin .or (.t 42) (.t 48) },
  { dst := some 50, op := .nilck (.t 37) },
  { dst := some 51, op := .fa 1 (.t 50) },
  { dst := some 52, op := .iaa 40 1 (.t 51) (.t 38) },
  { dst := none, op := .st 1 (.t 52) (.t 49), pre := [] }])
 .skip))))
 (.reg false [{ dst := some 53, op := .bin .add (.t 30) (.c (.i .i64 1)) },
  { dst := some 30, op := .mv (.t 53) }])))))))))
 (.reg false [{ dst := some 54, op := .bin .add (.t 23) (.c (.i .i64 1)) },
  { dst := some 23, op := .mv (.t 54) }])))))))
 (.seq (.reg false [{ dst := some 55, op := .mv (.t 5) },
  { dst := some 4, op := .mv (.t 55) }])
 .ret)))) }
def A_rel_Rel_Or : AFun := { res := [.t 4], body := (.seq (.reg false [{ dst := some 4, op := .mv (.c (.nilp)) }])
 (.seq (.reg false [{ dst := some 5, op := .mv (.t 0) },
  { dst := some 6, op := .mv (.t 1) },
  { dst := some 7, op := .call .pure (.c (.fn 51 [] [])) [.t 5, .t 6, .c (.fn 53 [] [])] },
  { dst := some 4, op := .mv (.t 7) }])
 .ret)) }
def A_rel_Rel_Back : AFun := { res := [.t 2], body := (.seq (.reg false [{ dst := some 2, op := .mv (.c (.nilp)) }])
 (.seq (.reg false [{ dst := some 6, op := .mv (.t 0) },
  { dst := some 7, op := .nilck (.t 6) },
  { dst := some 8, op := .fa 0 (.t 7) },
  { dst := some 9, op := .ld none (.t 8) },
  { dst := some 10, op := .build ([.i .i64 0] ++ List.replicate 40 (.i .u64 0)) [(0, 1, .t 9)] },
  { dst := some 11, op := .box (.t 10) },
  { dst := some 3, op := .mv (.t 11) }])
 (.seq (.seq (.reg false [{ dst := some 12, op := .mv (.t 0) },
  { dst := some 13, op := .call .pure (.c (.fn 15 [] [])) [.t 12] },
  { dst := some 14, op := .len (.t 13) },
  { dst := some 15, op := .mv (.c (.i .i64 0)) }])
 (.blk 0 (.loop (.seq (.reg false [{ dst := some 16, op := .bin .lss (.t 15) (.t 14) }])
 (.seq (.cond (.t 16) .skip
 (.ext 0))
 (.seq (.blk 1 (.seq (.reg false [{ dst := some 17, op := .ia 2 (.t 13) (.t 15) },
  { dst := some 18, op := .ld (some 2) (.t 17) },
  { dst := some 5, op := .new ([.i .i64 0, .i .i64 0]) },
  { dst := none, op := .st 2 (.t 5) (.t 18) }])
 (.reg true [{ dst := some 19, op := .mv (.t 3) },
  { dst := some 20, op := .fa 1 (.t 5) },
  { dst := some 21, op := .ld none (.t 20), pre := [] },
  { dst := some 22, op := .nilck (.t 19) },
  { dst := some 23, op := .fa 1 (.t 22) },
  { dst := some 24, op := .iaa 40 1 (.t 23) (.t 21) },
  { dst := some 25, op := .ld none (.t 24), pre := [] },
  { dst := some 26, op := .fa 0 (.t 5) },
  { dst := some 27, op := .ld none (.t 26), pre := [] },
  { dst := some 28, op := .bin .shl (.c (.i .u64 1)) (.t 27) },
  { dst := some 29, op := .bin .or (.t 25) (.t 28) },
  { dst := some 30, op := .nilck (.t 19) },
  { dst := some 31, op := .fa 1 (.t 30) },
  { dst := some 32, op := .iaa 40 1 (.t 31) (.t 21) },
  { dst := none, op := .st 1 (.t 32) (.t 29), pre := [] }])))
 (.reg false [{ dst := some 33, op := .bin .add (.t 15) (.c (.i .i64 1)) },
  { dst := some 15, op := .mv (.t 33) }])))))))
 (.seq (.reg false [{ dst := some 34, op := .mv (.t 3) },
  { dst := some 2, op := .mv (.t 34) }])
 .ret)))) }
def A_rel_Rel_Less : AFun := { res := [.t 4], body := (.seq (.reg false [{ dst := some 4, op := .mv (.c (.nilp)) }])
 (.seq (.reg false [{ dst := some 5, op := .mv (.t 0) },
  { dst := some 6, op := .mv (.t 1) },
  { dst := some 7, op := .call .pure (.c (.fn 51 [] [])) [.t 5, .t 6, .c (.fn 54 [] [])] },
  { dst := some 4, op := .mv (.t 7) }])
 .ret)) }
def A_rel_Rel_by : AFun := { res := [.t 6], body := (.seq (.reg false [{ dst := some 6, op := .mv (.c (.nilp)) }])
 (.seq (.reg true [{ dst := some 9, op := .mv (.t 0) },
  { dst := some 10, op := .nilck (.t 9) },
  { dst := some 11, op := .fa 0 (.t 10) },
  { dst := some 12, op := .ld none (.t 11), pre := [] },
  { dst := some 13, op := .mv (.t 1) },
  { dst := some 14, op := .nilck (.t 13) },
  { dst := some 15, op := .fa 0 (.t 14) },
  { dst := some 16, op := .ld none (.t 15), pre := [] },
  { dst := some 17, op := .mx (.t 12) (.t 16) },
  { dst := some 18, op := .build ([.i .i64 0] ++ List.replicate 40 (.i .u64 0)) [(0, 1, .t 17)] },
  { dst := some 19, op := .box (.t 18) },
  { dst := some 7, op := .mv (.t 19) }])
 (.seq (.seq (.reg false [{ dst := some 20, op := .mv (.c (.i .i64 0)) }])
 (.blk 0 (.loop (.seq (.reg false [{ dst := some 21, op := .bin .lss (.t 20) (.c (.i .i64 40)) }])
 (.seq (.cond (.t 21) .skip
 (.ext 0))
 (.seq (.blk 1 (.seq (.reg false [{ dst := some 22, op := .mv (.t 20) },
  { dst := some 8, op := .mv (.t 22) }])
 (.reg true [{ dst := some 23, op := .mv (.t 7) },
  { dst := some 24, op := .mv (.t 8) },
  { dst := some 25, op := .mv (.t 2) },
  { dst := some 26, op := .mv (.t 0) },
  { dst := some 27, op := .mv (.t 8) },
  { dst := some 28, op := .nilck (.t 26) },
  { dst := some 29, op := .fa 1 (.t 28) },
  { dst := some 30, op := .iaa 40 1 (.t 29) (.t 27) },
  { dst := some 31, op := .ld none (.t 30), pre := [] },
  { dst := some 32, op := .mv (.t 1) },
  { dst := some 33, op := .mv (.t 8) },
  { dst := some 34, op := .nilck (.t 32) },
  { dst := some 35, op := .fa 1 (.t 34) },
  { dst := some 36, op := .iaa 40 1 (.t 35) (.t 33) },
  { dst := some 37, op := .ld none (.t 36), pre := [] },
  { dst := some 38, op := .call .pure (.t 25) [.t 31, .t 37], pre := [] },
  { dst := some 39, op := .nilck (.t 23) },
  { dst := some 40, op := .fa 1 (.t 39) },
  { dst := some 41, op := .iaa 40 1 (.t 40) (.t 24) },
  { dst := none, op := .st 1 (.t 41) (.t 38), pre := [] }])))
 (.reg false [{ dst := some 42, op := .bin .add (.t 20) (.c (.i .i64 1)) },
  { dst := some 20, op := .mv (.t 42) }])))))))
 (.seq (.reg false [{ dst := some 43, op := .mv (.t 7) },
  { dst := some 6, op := .mv (.t 43) }])
 .ret)))) }
def A_rel_Rel_And_1 : AFun := { res := [.t 4], body := (.seq (.reg false [{ dst := some 4, op := .mv (.c (.i .u64 0)) }])
 (.seq (.reg false [{ dst := some 5, op := .mv (.t 0) },
  { dst := some 6, op := .mv (.t 1) },
  { dst := some 7, op := .bin .and (.t 5) (.t 6) },
  { dst := some 4, op := .mv (.t 7) }])
 .ret)) }
def A_rel_Rel_Or_1 : AFun := { res := [.t 4], body := (.seq (.reg false [{ dst := some 4, op := .mv (.c (.i .u64 0)) }])
 (.seq (.reg false [{ dst := some 5, op := .mv (.t 0) },
  { dst := some 6, op := .mv (.t 1) },
  { dst := some 7, op := .bin .or (.t 5) (.t 6) },
  { dst := some 4, op := .mv (.t 7) }])
 .ret)) }
def A_rel_Rel_Less_1 : AFun := { res := [.t 4], body := (.seq (.reg false [{ dst := some 4, op := .mv (.c (.i .u64 0)) }])
 (.seq (.reg false [{ dst := some 5, op := .mv (.t 0) },
  { dst := some 6, op := .mv (.t 1) },
  { dst := some 7, op := .bin .andNot (.t 5) (.t 6) },
  { dst := some 4, op := .mv (.t 7) }])
 .ret)) }
structure Pk_rel (F : Funs) : Prop where
  rel_New : F 11 = some A_rel_New
  rel_Rel_Plus : F 12 = some A_rel_Rel_Plus
  rel_Rel_Has : F 13 = some A_rel_Rel_Has
  rel_Rel_Loops : F 14 = some A_rel_Rel_Loops
  rel_Rel_Pairs : F 15 = some A_rel_Rel_Pairs
  rel_Rel_Maybe : F 16 = some A_rel_Rel_Maybe
  rel_Rel_Len : F 17 = some A_rel_Rel_Len
  rel_Rel_And : F 18 = some A_rel_Rel_And
  rel_Rel_Then : F 23 = some A_rel_Rel_Then
  rel_Rel_Or : F 24 = some A_rel_Rel_Or
  rel_Rel_by : F 51 = some A_rel_Rel_by
  rel_Rel_And_1 : F 52 = some A_rel_Rel_And_1
  rel_Rel_Or_1 : F 53 = some A_rel_Rel_Or_1
end Go.Ab
end
section
/- Resolved functions of package xlaw00, written by a program (res.py). -/
namespace Go.Ab
def A_xlaw00_Place : AFun := { res := [.t 4], body := (.seq (.reg false [{ dst := some 4, op := .mv (.c (.i .i64 0)) }])
 (.seq (.reg false [{ dst := some 6, op := .mv (.t 0) },
  { dst := some 7, op := .mv (.t 1) },
  { dst := some 8, op := .bin .rem (.t 6) (.t 7) },
  { dst := some 5, op := .mv (.t 8) }])
 (.seq (.seq (.reg false [{ dst := some 9, op := .mv (.t 5) },
  { dst := some 10, op := .bin .lss (.t 9) (.c (.i .i64 0)) }])
 (.cond (.t 10) (.reg false [{ dst := some 11, op := .mv (.t 5) },
  { dst := some 12, op := .mv (.t 1) },
  { dst := some 13, op := .bin .add (.t 11) (.t 12) },
  { dst := some 5, op := .mv (.t 13) }])
 .skip))
 (.seq (.reg false [{ dst := some 14, op := .mv (.t 5) },
  { dst := some 4, op := .mv (.t 14) }])
 .ret)))) }
def A_xlaw00_FewGraph : AFun := { res := [.t 2], body := (.seq (.reg false [{ dst := some 1, op := .box (.t 0) },
  { dst := some 2, op := .mv (.c (.b false)) }])
 (.seq (.seq (.reg false [{ dst := some 3, op := .mv (.c (.i .i64 0)) }])
 (.blk 0 (.loop (.seq (.seq (.reg false [{ dst := some 4, op := .mv (.t 3) },
  { dst := some 5, op := .fa 3 (.t 1) },
  { dst := some 6, op := .ld none (.t 5) },
  { dst := some 7, op := .len (.t 6) },
  { dst := some 8, op := .bin .lss (.t 4) (.t 7) },
  { dst := some 9, op := .mv (.t 8) },
  { dst := some 10, op := .mv (.t 3), grd := some (9, true) },
  { dst := some 11, op := .bin .lss (.t 10) (.c (.i .i64 6)), grd := some (9, true) },
  { dst := some 12, op := .pick (.t 9) (.t 11) (.c (.b false)) }])
 (.cond (.t 12) .skip
 (.ext 0)))
 (.seq (.blk 1 (.seq (.reg false [{ dst := some 15, op := .fa 3 (.t 1) },
  { dst := some 16, op := .ld none (.t 15) },
  { dst := some 17, op := .mv (.t 3) },
  { dst := some 18, op := .ia 1 (.t 16) (.t 17) },
  { dst := some 19, op := .ld none (.t 18) },
  { dst := some 20, op := .len (.t 19) },
  { dst := some 21, op := .bin .gtr (.t 20) (.c (.i .i64 50)) }])
 (.cond (.t 21) (.seq (.reg false [{ dst := some 2, op := .mv (.c (.b false)) }])
 .ret)
 .skip)))
 (.reg false [{ dst := some 13, op := .mv (.t 3) },
  { dst := some 14, op := .bin .add (.t 13) (.c (.i .i64 1)) },
  { dst := some 3, op := .mv (.t 14) }]))))))
 (.seq (.reg false [{ dst := some 22, op := .fa 1 (.t 1) },
  { dst := some 23, op := .ld none (.t 22) },
  { dst := some 24, op := .len (.t 23) },
  { dst := some 25, op := .bin .leq (.t 24) (.c (.i .i64 50)) },
  { dst := some 26, op := .mv (.t 25) },
  { dst := some 27, op := .fa 2 (.t 1), grd := some (26, true) },
  { dst := some 28, op := .ld none (.t 27), grd := some (26, true) },
  { dst := some 29, op := .len (.t 28), grd := some (26, true) },
  { dst := some 30, op := .bin .leq (.t 29) (.c (.i .i64 60)), grd := some (26, true) },
  { dst := some 31, op := .pick (.t 26) (.t 30) (.c (.b false)) },
  { dst := some 32, op := .mv (.t 31) },
  { dst := some 33, op := .fa 3 (.t 1), grd := some (32, true) },
  { dst := some 34, op := .ld none (.t 33), grd := some (32, true) },
  { dst := some 35, op := .len (.t 34), grd := some (32, true) },
  { dst := some 36, op := .bin .leq (.t 35) (.c (.i .i64 6)), grd := some (32, true) },
  { dst := some 37, op := .pick (.t 32) (.t 36) (.c (.b false)) },
  { dst := some 38, op := .mv (.t 37) },
  { dst := some 39, op := .fa 4 (.t 1), grd := some (38, true) },
  { dst := some 40, op := .ld none (.t 39), grd := some (38, true) },
  { dst := some 41, op := .len (.t 40), grd := some (38, true) },
  { dst := some 42, op := .bin .leq (.t 41) (.c (.i .i64 50)), grd := some (38, true) },
  { dst := some 43, op := .pick (.t 38) (.t 42) (.c (.b false)) },
  { dst := some 44, op := .mv (.t 43) },
  { dst := some 45, op := .fa 5 (.t 1), grd := some (44, true) },
  { dst := some 46, op := .ld none (.t 45), grd := some (44, true) },
  { dst := some 47, op := .len (.t 46), grd := some (44, true) },
  { dst := some 48, op := .bin .leq (.t 47) (.c (.i .i64 300)), grd := some (44, true) },
  { dst := some 49, op := .pick (.t 44) (.t 48) (.c (.b false)) },
  { dst := some 50, op := .mv (.t 49) },
  { dst := some 51, op := .fa 6 (.t 1), grd := some (50, true) },
  { dst := some 52, op := .ld none (.t 51), grd := some (50, true) },
  { dst := some 53, op := .len (.t 52), grd := some (50, true) },
  { dst := some 54, op := .bin .leq (.t 53) (.c (.i .i64 300)), grd := some (50, true) },
  { dst := some 55, op := .pick (.t 50) (.t 54) (.c (.b false)) },
  { dst := some 56, op := .mv (.t 55) },
  { dst := some 57, op := .fa 7 (.t 1), grd := some (56, true) },
  { dst := some 58, op := .ld none (.t 57), grd := some (56, true) },
  { dst := some 59, op := .len (.t 58), grd := some (56, true) },
  { dst := some 60, op := .bin .leq (.t 59) (.c (.i .i64 300)), grd := some (56, true) },
  { dst := some 61, op := .pick (.t 56) (.t 60) (.c (.b false)) },
  { dst := some 2, op := .mv (.t 61) }])
 .ret))) }
def A_xlaw00_Small : AFun := { res := [.cell 2 (some 2)], body := (.seq (.reg false [{ dst := some 2, op := .new ([.i .i64 0, .sl [] 0 .rig]) }])
 (.seq (.seq (.reg false [{ dst := some 3, op := .mv (.t 0) },
  { dst := some 4, op := .len (.t 3) },
  { dst := some 5, op := .bin .gtr (.t 4) (.c (.i .i64 0)) },
  { dst := some 6, op := .mv (.t 5) },
  { dst := some 7, op := .mv (.t 0), grd := some (6, true) },
  { dst := some 8, op := .ia 1 (.t 7) (.c (.i .i64 0)), grd := some (6, true) },
  { dst := some 9, op := .ld none (.t 8), grd := some (6, true) },
  { dst := some 10, op := .call .pure (.c (.fn 10 [] [])) [.t 9, .c (.i .i64 4)], grd := some (6, true) },
  { dst := some 11, op := .bin .eql (.t 10) (.c (.i .i64 0)), grd := some (6, true) },
  { dst := some 12, op := .pick (.t 6) (.t 11) (.c (.b false)) }])
 (.cond (.t 12) (.seq (.reg false [{ dst := some 13, op := .mv (.t 0) },
  { dst := some 14, op := .call .pure (.c (.fn 86 [] [])) [.t 13, .c (.i .i64 3), .c (.i .i64 2)] },
  { dst := none, op := .st 2 (.t 2) (.t 14) }])
 .ret)
 .skip))
 (.seq (.reg false [{ dst := some 15, op := .mv (.t 0) },
  { dst := some 16, op := .call .pure (.c (.fn 86 [] [])) [.t 15, .c (.i .i64 2), .c (.i .i64 3)] },
  { dst := none, op := .st 2 (.t 2) (.t 16) }])
 .ret))) }
def A_xlaw00_Loads : AFun := { res := [.t 2], body := (.seq (.reg false [{ dst := some 1, op := .box (.t 0) },
  { dst := some 2, op := .mv (.c (.i .i64 0)) }])
 (.seq (.reg false [{ dst := some 3, op := .mv (.c (.i .i64 0)) }])
 (.seq (.seq (.reg false [{ dst := some 4, op := .mv (.c (.i .i64 0)) }])
 (.blk 0 (.loop (.seq (.seq (.reg false [{ dst := some 7, op := .mv (.t 4) },
  { dst := some 8, op := .fa 1 (.t 1) },
  { dst := some 9, op := .ld none (.t 8) },
  { dst := some 10, op := .len (.t 9) },
  { dst := some 11, op := .bin .lss (.t 7) (.t 10) }])
 (.cond (.t 11) .skip
 (.ext 0)))
 (.seq (.blk 1 (.seq (.reg false [{ dst := some 5, op := .mv (.c (.i .i64 0)) }])
 (.blk 2 (.loop (.seq (.seq (.reg false [{ dst := some 14, op := .mv (.t 5) },
  { dst := some 15, op := .fa 1 (.t 1) },
  { dst := some 16, op := .ld none (.t 15) },
  { dst := some 17, op := .mv (.t 4) },
  { dst := some 18, op := .ia 1 (.t 16) (.t 17) },
  { dst := some 19, op := .ld none (.t 18) },
  { dst := some 20, op := .len (.t 19) },
  { dst := some 21, op := .bin .lss (.t 14) (.t 20) }])
 (.cond (.t 21) .skip
 (.ext 2)))
 (.seq (.blk 3 (.seq (.reg false [{ dst := some 24, op := .fa 1 (.t 1) },
  { dst := some 25, op := .ld none (.t 24) },
  { dst := some 26, op := .mv (.t 4) },
  { dst := some 27, op := .ia 1 (.t 25) (.t 26) },
  { dst := some 28, op := .ld none (.t 27) },
  { dst := some 29, op := .mv (.t 5) },
  { dst := some 30, op := .ia 7 (.t 28) (.t 29) },
  { dst := some 31, op := .ld (some 7) (.t 30) },
  { dst := some 6, op := .new (List.replicate 5 (.i .i64 0) ++ [.sl [] 0 .rig, .i .i64 0]) },
  { dst := none, op := .st 7 (.t 6) (.t 31) }])
 (.seq (.reg false [{ dst := some 32, op := .fa 0 (.t 6) },
  { dst := some 33, op := .ld none (.t 32) },
  { dst := some 34, op := .bin .eql (.t 33) (.c (.i .i64 1)) },
  { dst := some 35, op := .mv (.t 34) },
  { dst := some 36, op := .fa 0 (.t 6), grd := some (35, false) },
  { dst := some 37, op := .ld none (.t 36), grd := some (35, false) },
  { dst := some 38, op := .bin .eql (.t 37) (.c (.i .i64 4)), grd := some (35, false) },
  { dst := some 39, op := .pick (.t 35) (.c (.b true)) (.t 38) }])
 (.cond (.t 39) (.reg false [{ dst := some 40, op := .mv (.t 3) },
  { dst := some 41, op := .bin .add (.t 40) (.c (.i .i64 1)) },
  { dst := some 3, op := .mv (.t 41) }])
 .skip))))
 (.reg false [{ dst := some 22, op := .mv (.t 5) },
  { dst := some 23, op := .bin .add (.t 22) (.c (.i .i64 1)) },
  { dst := some 5, op := .mv (.t 23) }])))))))
 (.reg false [{ dst := some 12, op := .mv (.t 4) },
  { dst := some 13, op := .bin .add (.t 12) (.c (.i .i64 1)) },
  { dst := some 4, op := .mv (.t 13) }]))))))
 (.seq (.reg false [{ dst := some 42, op := .mv (.t 3) },
  { dst := some 2, op := .mv (.t 42) }])
 .ret)))) }
def A_xlaw00_Domain : AFun := { res := [.t 0], body := (.seq (.reg false [{ dst := some 0, op := .mv (.c (.sl [] 0 .rig)) }])
 (.seq (.reg false [{ dst := some 1, op := .bsl true 3 ([.i .i64 0, .i .i64 0, .i .i64 0]) [(0, 1, .c (.i .i64 0)), (1, 1, .c (.i .i64 1)), (2, 1, .c (.i .i64 2))] },
  { dst := some 0, op := .mv (.t 1) }])
 .ret)) }
def A_xlaw00_Prog : AFun := { res := [.cell 6 (some 2)], body := (.seq (.reg false [{ dst := some 6, op := .new ([.i .i64 0, .sl [] 0 .rig]) }])
 (.seq (.reg false [{ dst := some 14, op := .mv (.t 1) },
  { dst := some 15, op := .mksl ([.sl [] 0 .rig]) 1 24 (.t 14) (.t 14) },
  { dst := some 16, op := .build ([.i .i64 0, .sl [] 0 .rig]) [(0, 1, .c (.i .i64 2)), (1, 1, .t 15)] },
  { dst := some 7, op := .new ([.i .i64 0, .sl [] 0 .rig]) },
  { dst := none, op := .st 2 (.t 7) (.t 16) }])
 (.seq (.seq (.reg false [{ dst := some 8, op := .mv (.c (.i .i64 0)) }])
 (.blk 0 (.loop (.seq (.seq (.reg false [{ dst := some 17, op := .mv (.t 8) },
  { dst := some 18, op := .mv (.t 1) },
  { dst := some 19, op := .bin .lss (.t 17) (.t 18) }])
 (.cond (.t 19) .skip
 (.ext 0)))
 (.seq (.blk 1 (.seq (.reg false [{ dst := some 9, op := .mv (.c (.i .i64 0)) },
  { dst := some 10, op := .mv (.c (.i .i64 0)) }])
 (.seq (.seq (.reg false [{ dst := some 22, op := .mv (.t 8) },
  { dst := some 11, op := .mv (.t 22) }])
 (.blk 2 (.loop (.seq (.seq (.reg false [{ dst := some 23, op := .mv (.t 11) },
  { dst := some 24, op := .mv (.t 0) },
  { dst := some 25, op := .len (.t 24) },
  { dst := some 26, op := .bin .lss (.t 23) (.t 25) },
  { dst := some 27, op := .mv (.t 26) },
  { dst := some 28, op := .mv (.t 9), grd := some (27, true) },
  { dst := some 29, op := .mv (.t 2), grd := some (27, true) },
  { dst := some 30, op := .bin .lss (.t 28) (.t 29), grd := some (27, true) },
  { dst := some 31, op := .pick (.t 27) (.t 30) (.c (.b false)) }])
 (.cond (.t 31) .skip
 (.ext 2)))
 (.seq (.blk 3 (.reg false [{ dst := some 35, op := .mv (.t 9) },
  { dst := some 36, op := .bin .add (.t 35) (.c (.i .i64 1)) },
  { dst := some 9, op := .mv (.t 36) }]))
 (.reg false [{ dst := some 32, op := .mv (.t 11) },
  { dst := some 33, op := .mv (.t 1) },
  { dst := some 34, op := .bin .add (.t 32) (.t 33) },
  { dst := some 11, op := .mv (.t 34) }]))))))
 (.seq (.reg false [{ dst := some 12, op := .mv (.c (.i .i64 0)) }])
 (.blk 4 (.loop (.seq (.seq (.reg false [{ dst := some 37, op := .mv (.t 12) },
  { dst := some 38, op := .mv (.t 9) },
  { dst := some 39, op := .bin .lss (.t 37) (.t 38) }])
 (.cond (.t 39) .skip
 (.ext 4)))
 (.seq (.blk 5 (.seq (.reg true [{ dst := some 42, op := .mv (.t 0) },
  { dst := some 43, op := .mv (.t 8) },
  { dst := some 44, op := .mv (.t 12) },
  { dst := some 45, op := .mv (.t 1) },
  { dst := some 46, op := .bin .mul (.t 44) (.t 45) },
  { dst := some 47, op := .bin .add (.t 43) (.t 46) },
  { dst := some 48, op := .ia 1 (.t 42) (.t 47) },
  { dst := some 49, op := .ld none (.t 48), pre := [] },
  { dst := some 50, op := .fa 0 (.t 7) },
  { dst := some 51, op := .ld none (.t 50), pre := [] },
  { dst := some 52, op := .mv (.t 9) },
  { dst := some 53, op := .bin .sub (.t 52) (.c (.i .i64 1)) },
  { dst := some 54, op := .mv (.t 12) },
  { dst := some 55, op := .bin .sub (.t 53) (.t 54) },
  { dst := some 56, op := .call .pure (.c (.fn 97 [] [])) [.t 49, .t 51, .t 55], pre := [] },
  { dst := some 13, op := .new (List.replicate 5 (.i .i64 0) ++ [.sl [] 0 .rig, .i .i64 0]) },
  { dst := none, op := .stL 7 (.t 13) (.t 56), pre := [15] }])
 (.seq (.seq (.reg false [{ dst := some 57, op := .fa 0 (.t 13) },
  { dst := some 58, op := .ld none (.t 57) },
  { dst := some 59, op := .bin .eql (.t 58) (.c (.i .i64 6)) }])
 (.cond (.t 59) (.seq (.reg false [{ dst := some 60, op := .mv (.t 10) },
  { dst := some 61, op := .bin .add (.t 60) (.c (.i .i64 1)) },
  { dst := some 10, op := .mv (.t 61) }])
 (.seq (.reg false [{ dst := some 62, op := .mv (.t 10) },
  { dst := some 63, op := .bin .gtr (.t 62) (.c (.i .i64 2)) }])
 (.cond (.t 63) (.reg false [{ dst := some 64, op := .build (List.replicate 5 (.i .i64 0) ++ [.sl [] 0 .rig, .i .i64 0]) [(0, 1, .c (.i .i64 3)), (1, 1, .c (.i .i64 4))] },
  { dst := none, op := .st 7 (.t 13) (.t 64) }])
 .skip)))
 .skip))
 (.reg true [{ dst := some 65, op := .fa 1 (.t 7) },
  { dst := some 66, op := .ld none (.t 65), pre := [] },
  { dst := some 67, op := .mv (.t 8) },
  { dst := some 68, op := .fa 1 (.t 7) },
  { dst := some 69, op := .ld none (.t 68), pre := [] },
  { dst := some 70, op := .mv (.t 8) },
  { dst := some 71, op := .ia 1 (.t 69) (.t 70) },
  { dst := some 72, op := .ld none (.t 71), pre := [] },
  { dst := some 73, op := .ld (some 7) (.t 13), pre := [] },
  { dst := some 74, op := .bsl true 1 (List.replicate 5 (.i .i64 0) ++ [.sl [] 0 .rig, .i .i64 0]) [(0, 7, .t 73)], pre := [] },
  { dst := some 75, op := .app 7 72 (.t 72) (.t 74), pre := [] },
  { dst := some 76, op := .ia 1 (.t 66) (.t 67) },
  { dst := none, op := .st 1 (.t 76) (.t 75), pre := [10] }]))))
 (.reg false [{ dst := some 40, op := .mv (.t 12) },
  { dst := some 41, op := .bin .add (.t 40) (.c (.i .i64 1)) },
  { dst := some 12, op := .mv (.t 41) }])))))))))
 (.reg false [{ dst := some 20, op := .mv (.t 8) },
  { dst := some 21, op := .bin .add (.t 20) (.c (.i .i64 1)) },
  { dst := some 8, op := .mv (.t 21) }]))))))
 (.seq (.reg false [{ dst := some 77, op := .ld (some 2) (.t 7) },
  { dst := none, op := .st 2 (.t 6) (.t 77) }])
 .ret)))) }
def A_xlaw00_Instr : AFun := { res := [.cell 6 (some 7)], body := (.seq (.reg false [{ dst := some 6, op := .new (List.replicate 5 (.i .i64 0) ++ [.sl [] 0 .rig, .i .i64 0]) }])
 (.seq (.reg false [{ dst := some 15, op := .mv (.t 0) },
  { dst := some 16, op := .call .pure (.c (.fn 10 [] [])) [.t 15, .c (.i .i64 1099511627776)] },
  { dst := some 7, op := .mv (.t 16) }])
 (.seq (.reg false [{ dst := some 17, op := .mv (.t 7) },
  { dst := some 18, op := .bin .quo (.t 17) (.c (.i .i64 20)) },
  { dst := some 8, op := .mv (.t 18) }])
 (.seq (.reg true [{ dst := some 19, op := .mv (.t 8) },
  { dst := some 20, op := .bin .rem (.t 19) (.c (.i .i64 3)) },
  { dst := some 21, op := .mv (.t 8) },
  { dst := some 22, op := .bin .quo (.t 21) (.c (.i .i64 3)) },
  { dst := some 23, op := .mv (.t 1) },
  { dst := some 24, op := .bin .rem (.t 22) (.t 23) },
  { dst := some 25, op := .mv (.t 8) },
  { dst := some 26, op := .bin .quo (.t 25) (.c (.i .i64 12)) },
  { dst := some 27, op := .call .pure (.c (.fn 107 [] [])) [.t 26], pre := [] },
  { dst := some 9, op := .mv (.t 20) },
  { dst := some 10, op := .mv (.t 24) },
  { dst := some 11, op := .mv (.t 27) }])
 (.seq (.reg true [{ dst := some 28, op := .build ([.i .i64 0, .i .i64 0, .i .i64 0]) [(0, 1, .c (.i .i64 0)), (1, 1, .c (.i .i64 0)), (2, 1, .c (.i .i64 1))] },
  { dst := some 29, op := .mv (.t 8) },
  { dst := some 30, op := .bin .quo (.t 29) (.c (.i .i64 7)) },
  { dst := some 31, op := .bin .rem (.t 30) (.c (.i .i64 3)) },
  { dst := some 32, op := .idx 3 1 none (.t 28) (.t 31) },
  { dst := some 33, op := .build ([.i .i64 0, .i .i64 0, .i .i64 0]) [(0, 1, .c (.i .i64 0)), (1, 1, .c (.i .i64 0)), (2, 1, .c (.i .i64 2))] },
  { dst := some 34, op := .mv (.t 8) },
  { dst := some 35, op := .bin .quo (.t 34) (.c (.i .i64 11)) },
  { dst := some 36, op := .bin .rem (.t 35) (.c (.i .i64 3)) },
  { dst := some 37, op := .idx 3 1 none (.t 33) (.t 36) },
  { dst := some 12, op := .mv (.t 32) },
  { dst := some 13, op := .mv (.t 37) }])
 (.seq (.seq (.reg false [{ dst := some 38, op := .mv (.t 7) },
  { dst := some 39, op := .bin .rem (.t 38) (.c (.i .i64 20)) },
  { dst := some 14, op := .mv (.t 39) }])
 (.blk 0 (.seq (.reg false [{ dst := some 41, op := .mv (.t 14) },
  { dst := some 42, op := .bin .lss (.t 41) (.c (.i .i64 6)) },
  { dst := some 40, op := .mv (.t 42) }])
 (.cond (.t 40) (.seq (.reg false [{ dst := some 43, op := .mv (.t 9) },
  { dst := some 44, op := .mv (.t 10) },
  { dst := some 45, op := .mv (.t 12) },
  { dst := some 46, op := .build (List.replicate 5 (.i .i64 0) ++ [.sl [] 0 .rig, .i .i64 0]) [(0, 1, .c (.i .i64 1)), (3, 1, .t 43), (4, 1, .t 44), (1, 1, .t 45)] },
  { dst := none, op := .st 7 (.t 6) (.t 46) }])
 .ret)
 (.seq (.reg false [{ dst := some 48, op := .mv (.t 14) },
  { dst := some 49, op := .bin .lss (.t 48) (.c (.i .i64 12)) },
  { dst := some 47, op := .mv (.t 49) }])
 (.cond (.t 47) (.seq (.reg false [{ dst := some 50, op := .mv (.t 10) },
  { dst := some 51, op := .mv (.t 13) },
  { dst := some 52, op := .mv (.t 11) },
  { dst := some 53, op := .build (List.replicate 5 (.i .i64 0) ++ [.sl [] 0 .rig, .i .i64 0]) [(0, 1, .c (.i .i64 2)), (4, 1, .t 50), (1, 1, .t 51), (5, 1, .t 52)] },
  { dst := none, op := .st 7 (.t 6) (.t 53) }])
 .ret)
 (.seq (.reg false [{ dst := some 55, op := .mv (.t 14) },
  { dst := some 56, op := .bin .lss (.t 55) (.c (.i .i64 15)) },
  { dst := some 54, op := .mv (.t 56) }])
 (.cond (.t 54) (.seq (.reg false [{ dst := some 57, op := .mv (.t 8) },
  { dst := some 58, op := .bin .quo (.t 57) (.c (.i .i64 5)) },
  { dst := some 59, op := .bin .rem (.t 58) (.c (.i .i64 4)) },
  { dst := some 60, op := .bin .add (.c (.i .i64 1)) (.t 59) },
  { dst := some 61, op := .build (List.replicate 5 (.i .i64 0) ++ [.sl [] 0 .rig, .i .i64 0]) [(0, 1, .c (.i .i64 3)), (1, 1, .t 60)] },
  { dst := none, op := .st 7 (.t 6) (.t 61) }])
 .ret)
 (.seq (.reg false [{ dst := some 63, op := .mv (.t 14) },
  { dst := some 64, op := .bin .lss (.t 63) (.c (.i .i64 16)) },
  { dst := some 62, op := .mv (.t 64) }])
 (.cond (.t 62) (.seq (.reg false [{ dst := some 65, op := .mv (.t 9) },
  { dst := some 66, op := .mv (.t 10) },
  { dst := some 67, op := .mv (.t 12) },
  { dst := some 68, op := .mv (.t 13) },
  { dst := some 69, op := .mv (.t 8) },
  { dst := some 70, op := .bin .quo (.t 69) (.c (.i .i64 17)) },
  { dst := some 71, op := .bin .rem (.t 70) (.c (.i .i64 2)) },
  { dst := some 72, op := .call .pure (.c (.fn 108 [] [])) [.t 71] },
  { dst := some 73, op := .bsl true 1 ([.i .i64 0, .i .i64 0]) [(0, 2, .t 72)] },
  { dst := some 74, op := .build (List.replicate 5 (.i .i64 0) ++ [.sl [] 0 .rig, .i .i64 0]) [(0, 1, .c (.i .i64 4)), (3, 1, .t 65), (4, 1, .t 66), (1, 1, .t 67), (2, 1, .t 68), (5, 1, .t 73)] },
  { dst := none, op := .st 7 (.t 6) (.t 74) }])
 .ret)
 (.seq (.reg false [{ dst := some 76, op := .mv (.t 14) },
  { dst := some 77, op := .bin .lss (.t 76) (.c (.i .i64 18)) },
  { dst := some 75, op := .mv (.t 77) }])
 (.cond (.t 75) (.seq (.reg false [{ dst := some 78, op := .mv (.t 9) },
  { dst := some 79, op := .mv (.t 11) },
  { dst := some 80, op := .build (List.replicate 5 (.i .i64 0) ++ [.sl [] 0 .rig, .i .i64 0]) [(0, 1, .c (.i .i64 5)), (3, 1, .t 78), (5, 1, .t 79)] },
  { dst := none, op := .st 7 (.t 6) (.t 80) }])
 .ret)
 .skip))))))))))))
 (.seq (.reg false [{ dst := some 81, op := .mv (.t 8) },
  { dst := some 82, op := .bin .quo (.t 81) (.c (.i .i64 19)) },
  { dst := some 83, op := .mv (.t 2) },
  { dst := some 84, op := .bin .add (.t 83) (.c (.i .i64 1)) },
  { dst := some 85, op := .bin .rem (.t 82) (.t 84) },
  { dst := some 86, op := .mv (.t 11) },
  { dst := some 87, op := .build (List.replicate 5 (.i .i64 0) ++ [.sl [] 0 .rig, .i .i64 0]) [(0, 1, .c (.i .i64 6)), (6, 1, .t 85), (5, 1, .t 86)] },
  { dst := none, op := .st 7 (.t 6) (.t 87) }])
 .ret))))))) }
def A_xlaw00_Expr : AFun := { res := [.t 2], body := (.seq (.reg false [{ dst := some 2, op := .mv (.c (.sl [] 0 .rig)) }])
 (.seq (.reg false [{ dst := some 6, op := .mv (.t 0) },
  { dst := some 7, op := .call .pure (.c (.fn 10 [] [])) [.t 6, .c (.i .i64 1073741824)] },
  { dst := some 3, op := .mv (.t 7) }])
 (.seq (.reg false [{ dst := some 8, op := .mv (.t 3) },
  { dst := some 9, op := .bin .quo (.t 8) (.c (.i .i64 10)) },
  { dst := some 10, op := .bin .rem (.t 9) (.c (.i .i64 3)) },
  { dst := some 11, op := .call .pure (.c (.fn 123 [] [])) [.t 10] },
  { dst := some 12, op := .mv (.t 3) },
  { dst := some 13, op := .bin .quo (.t 12) (.c (.i .i64 30)) },
  { dst := some 14, op := .bin .rem (.t 13) (.c (.i .i64 3)) },
  { dst := some 15, op := .call .pure (.c (.fn 108 [] [])) [.t 14] },
  { dst := some 4, op := .new ([.i .i64 0, .i .i64 0]) },
  { dst := some 5, op := .new ([.i .i64 0, .i .i64 0]) },
  { dst := none, op := .st 2 (.t 4) (.t 11) },
  { dst := none, op := .st 2 (.t 5) (.t 15) }])
 (.seq (.seq (.reg false [{ dst := some 16, op := .mv (.t 3) },
  { dst := some 17, op := .bin .rem (.t 16) (.c (.i .i64 10)) }])
 (.blk 0 (.seq (.seq (.reg false [{ dst := some 19, op := .bin .eql (.t 17) (.c (.i .i64 0)) },
  { dst := some 18, op := .mv (.t 19) }])
 (.cond (.t 18) .skip
 (.seq (.reg false [{ dst := some 20, op := .bin .eql (.t 17) (.c (.i .i64 1)) },
  { dst := some 18, op := .mv (.t 20) }])
 (.cond (.t 18) .skip
 (.reg false [{ dst := some 21, op := .bin .eql (.t 17) (.c (.i .i64 2)) },
  { dst := some 18, op := .mv (.t 21) }])))))
 (.cond (.t 18) (.seq (.reg false [{ dst := some 22, op := .ld (some 2) (.t 5) },
  { dst := some 23, op := .bsl true 1 ([.i .i64 0, .i .i64 0]) [(0, 2, .t 22)] },
  { dst := some 2, op := .mv (.t 23) }])
 .ret)
 (.seq (.seq (.reg false [{ dst := some 25, op := .bin .eql (.t 17) (.c (.i .i64 3)) },
  { dst := some 24, op := .mv (.t 25) }])
 (.cond (.t 24) .skip
 (.seq (.reg false [{ dst := some 26, op := .bin .eql (.t 17) (.c (.i .i64 4)) },
  { dst := some 24, op := .mv (.t 26) }])
 (.cond (.t 24) .skip
 (.reg false [{ dst := some 27, op := .bin .eql (.t 17) (.c (.i .i64 5)) },
  { dst := some 24, op := .mv (.t 27) }])))))
 (.cond (.t 24) (.seq (.reg false [{ dst := some 28, op := .ld (some 2) (.t 4) },
  { dst := some 29, op := .bsl true 1 ([.i .i64 0, .i .i64 0]) [(0, 2, .t 28)] },
  { dst := some 2, op := .mv (.t 29) }])
 .ret)
 (.seq (.reg false [{ dst := some 31, op := .bin .eql (.t 17) (.c (.i .i64 6)) },
  { dst := some 30, op := .mv (.t 31) }])
 (.cond (.t 30) (.seq (.reg true [{ dst := some 32, op := .ld (some 2) (.t 4), pre := [] },
  { dst := some 33, op := .ld (some 2) (.t 4), pre := [] },
  { dst := some 34, op := .call .pure (.c (.fn 124 [] [])) [.c (.i .i64 4)], pre := [] },
  { dst := some 35, op := .bsl true 3 (List.replicate 6 (.i .i64 0)) [(0, 2, .t 32), (2, 2, .t 33), (4, 2, .t 34)], pre := [] },
  { dst := some 2, op := .mv (.t 35) }])
 .ret)
 (.seq (.reg false [{ dst := some 37, op := .bin .eql (.t 17) (.c (.i .i64 7)) },
  { dst := some 36, op := .mv (.t 37) }])
 (.cond (.t 36) (.seq (.reg true [{ dst := some 38, op := .ld (some 2) (.t 4), pre := [] },
  { dst := some 39, op := .ld (some 2) (.t 5), pre := [] },
  { dst := some 40, op := .call .pure (.c (.fn 124 [] [])) [.c (.i .i64 5)], pre := [] },
  { dst := some 41, op := .bsl true 3 (List.replicate 6 (.i .i64 0)) [(0, 2, .t 38), (2, 2, .t 39), (4, 2, .t 40)], pre := [] },
  { dst := some 2, op := .mv (.t 41) }])
 .ret)
 (.seq (.reg false [{ dst := some 43, op := .bin .eql (.t 17) (.c (.i .i64 8)) },
  { dst := some 42, op := .mv (.t 43) }])
 (.cond (.t 42) (.seq (.reg true [{ dst := some 44, op := .ld (some 2) (.t 4), pre := [] },
  { dst := some 45, op := .ld (some 2) (.t 5), pre := [] },
  { dst := some 46, op := .call .pure (.c (.fn 124 [] [])) [.c (.i .i64 6)], pre := [] },
  { dst := some 47, op := .bsl true 3 (List.replicate 6 (.i .i64 0)) [(0, 2, .t 44), (2, 2, .t 45), (4, 2, .t 46)], pre := [] },
  { dst := some 2, op := .mv (.t 47) }])
 .ret)
 .skip))))))))))))
 (.seq (.reg true [{ dst := some 48, op := .ld (some 2) (.t 5), pre := [] },
  { dst := some 49, op := .call .pure (.c (.fn 108 [] [])) [.c (.i .i64 1)], pre := [] },
  { dst := some 50, op := .call .pure (.c (.fn 124 [] [])) [.c (.i .i64 3)], pre := [] },
  { dst := some 51, op := .bsl true 3 (List.replicate 6 (.i .i64 0)) [(0, 2, .t 48), (2, 2, .t 49), (4, 2, .t 50)], pre := [] },
  { dst := some 2, op := .mv (.t 51) }])
 .ret))))) }
def A_xlaw00_num : AFun := { res := [.cell 2 (some 2)], body := (.seq (.reg false [{ dst := some 2, op := .new ([.i .i64 0, .i .i64 0]) }])
 (.seq (.reg false [{ dst := some 3, op := .mv (.t 0) },
  { dst := some 4, op := .build ([.i .i64 0, .i .i64 0]) [(0, 1, .c (.i .i64 1)), (1, 1, .t 3)] },
  { dst := none, op := .st 2 (.t 2) (.t 4) }])
 .ret)) }
def A_xlaw00_reg : AFun := { res := [.cell 2 (some 2)], body := (.seq (.reg false [{ dst := some 2, op := .new ([.i .i64 0, .i .i64 0]) }])
 (.seq (.reg false [{ dst := some 3, op := .mv (.t 0) },
  { dst := some 4, op := .build ([.i .i64 0, .i .i64 0]) [(0, 1, .c (.i .i64 2)), (1, 1, .t 3)] },
  { dst := none, op := .st 2 (.t 2) (.t 4) }])
 .ret)) }
def A_xlaw00_op : AFun := { res := [.cell 2 (some 2)], body := (.seq (.reg false [{ dst := some 2, op := .new ([.i .i64 0, .i .i64 0]) }])
 (.seq (.reg false [{ dst := some 3, op := .mv (.t 0) },
  { dst := some 4, op := .build ([.i .i64 0, .i .i64 0]) [(0, 1, .c (.i .i64 3)), (1, 1, .t 3)] },
  { dst := none, op := .st 2 (.t 2) (.t 4) }])
 .ret)) }
structure Pk_xlaw00 (F : Funs) : Prop where
  xlaw00_Place : F 10 = some A_xlaw00_Place
  xlaw00_FewGraph : F 44 = some A_xlaw00_FewGraph
  xlaw00_Small : F 76 = some A_xlaw00_Small
  xlaw00_Loads : F 77 = some A_xlaw00_Loads
  xlaw00_Domain : F 79 = some A_xlaw00_Domain
  xlaw00_Prog : F 86 = some A_xlaw00_Prog
  xlaw00_Instr : F 97 = some A_xlaw00_Instr
  xlaw00_Expr : F 107 = some A_xlaw00_Expr
  xlaw00_num : F 108 = some A_xlaw00_num
  xlaw00_reg : F 123 = some A_xlaw00_reg
  xlaw00_op : F 124 = some A_xlaw00_op
end Go.Ab
end
section
/- Relations asx the program has them: a number of places, forty rows of bits. -/
set_option linter.unusedVariables false
set_option linter.unusedSimpArgs false
namespace Go.Ab
abbrev Rw := Nat → BitVec 64
def U (x : BitVec 64) : AV := .i .u64 (x.toNat : Int)
def rowsC (R : Rw) : List AV := (List.range 40).map fun a => U (R a)
def relC (n : Nat) (R : Rw) : List AV := .i .i64 n :: rowsC R
theorem rowsC_len (R : Rw) : (rowsC R).length = 40 := by simp [rowsC]
theorem relC_len (n : Nat) (R : Rw) : (relC n R).length = 41 := by simp [relC, rowsC_len]
theorem rowsC_get {R : Rw} {a : Nat} (h : a < 40) : (rowsC R)[a]? = some (U (R a)) := by
  simp [rowsC, h]
theorem relC_n (n : Nat) (R : Rw) : part (relC n R) 0 none = some (.i .i64 n) := rfl
theorem relC_row {n : Nat} {R : Rw} {a : Nat} (h : a < 40) : part (relC n R) (0 + 1 + a * 1) none = some (U (R a)) := by
  rw [show 0 + 1 + a * 1 = a + 1 by omega]
  simp only [part, relC, List.getElem?_cons_succ, rowsC_get h]
theorem relC_drop1 (n : Nat) (R : Rw) : (relC n R).drop 1 = rowsC R := rfl
theorem relC_row' {R : Rw} {a : Nat} (h : a < 40) : part ((rowsC R).drop (a * 1)) 0 none = some (U (R a)) := by
  simp only [part, List.getElem?_drop, Nat.mul_one, Nat.add_zero, rowsC_get h]
theorem relC_set {n : Nat} {R : Rw} {a : Nat} {x : BitVec 64} (h : a < 40) : splice (relC n R) (0 + 1 + a * 1) [U x] = relC n (upd R a x) := by
  rw [show 0 + 1 + a * 1 = a + 1 by omega]
  show (relC n R).set (a + 1) (U x) = _
  simp only [relC, List.set_cons_succ]
  congr 1
  refine List.ext_getElem? fun i => ?_
  rw [List.getElem?_set]
  by_cases hi : i < 40
  · rw [rowsC_get hi]
    by_cases ha : a = i
    · subst ha
      rw [if_pos rfl, if_pos (by rw [rowsC_len]; exact h), rowsC_get hi, upd_same]
    · have : i ≠ a := fun h => ha h.symm
      rw [if_neg ha, rowsC_get hi, upd_ne _ _ this]
  · have h1 : (rowsC R)[i]? = none := by rw [List.getElem?_eq_none]; rw [rowsC_len]; omega
    have h2 : (rowsC (upd R a x))[i]? = none := by rw [List.getElem?_eq_none]; rw [rowsC_len]; omega
    rw [h2, h1]
    have : a ≠ i := by omega
    simp [this]
theorem relC_set' {n : Nat} {R : Rw} {a : Nat} {x : BitVec 64} (h : a < 40) : (relC n R).set (0 + 1 + a * 1) (U x) = relC n (upd R a x) := relC_set h
theorem cellsOf_U (x : BitVec 64) : cellsOf (U x) = [U x] := rfl
theorem one_U (x : BitVec 64) : one (U x) = true := rfl
theorem relC_flat (n : Nat) (R : Rw) : (relC n R).all flat = true := by
  simp [relC, rowsC, U, flat]
theorem relC_one (n : Nat) (R : Rw) : (relC n R).all one = true := by
  simp [relC, rowsC, U, one]
def bit (b : Nat) : BitVec 64 := 1#64 <<< b
theorem u64_wrap {x : Nat} (h : x < 2 ^ 64) : IntKind.u64.wrap (x : Int) = x := by
  simp [IntKind.wrap, IntKind.bits, IntKind.signed, IntKind.min, IntKind.max]
  omega
theorem ofU (x : BitVec 64) : BitVec.ofInt IntKind.u64.bits (x.toNat : Int) = x := by
  show BitVec.ofInt 64 _ = _
  apply BitVec.eq_of_toNat_eq
  simp
theorem u_or (x y : BitVec 64) : abin .or (U x) (U y) = some (U (x ||| y)) := by
  simp only [abin, U, ibin, if_true, ofU]
  show some (AV.i .u64 (IntKind.u64.wrap (((x ||| y : BitVec 64).toNat : Nat) : Int))) = _
  rw [u64_wrap (x ||| y : BitVec 64).isLt]
theorem u_and (x y : BitVec 64) : abin .and (U x) (U y) = some (U (x &&& y)) := by
  simp only [abin, U, ibin, if_true, ofU]
  show some (AV.i .u64 (IntKind.u64.wrap (((x &&& y : BitVec 64).toNat : Nat) : Int))) = _
  rw [u64_wrap (x &&& y : BitVec 64).isLt]
theorem u_andNot (x y : BitVec 64) : abin .andNot (U x) (U y) = some (U (x &&& ~~~ y)) := by
  simp only [abin, U, ibin, if_true, ofU]
  show some (AV.i .u64 (IntKind.u64.wrap (((x &&& ~~~ y : BitVec 64).toNat : Nat) : Int))) = _
  rw [u64_wrap (x &&& ~~~ y : BitVec 64).isLt]
theorem u_shl {b : Int} (h0 : 0 ≤ b) (h : b < 40) : abin .shl (.i .u64 1) (.i .i64 b) = some (U (bit b.toNat)) := by
  obtain ⟨k, rfl⟩ : ∃ k : Nat, b = k := ⟨b.toNat, by omega⟩
  have hk : k < 40 := by omega
  simp only [abin, ishift]
  rw [if_neg (by omega)]
  rw [show min ((k : Int)).toNat IntKind.u64.bits = k by show min k 64 = k; omega]
  have h2 : (2 ^ k : Nat) < 2 ^ 64 := Nat.pow_lt_pow_right (by omega) (by omega)
  have : (1 : Int) * 2 ^ k = ((2 ^ k : Nat) : Int) := by simp
  rw [this, u64_wrap h2]
  simp only [U, bit, Int.toNat_natCast, BitVec.toNat_shiftLeft, Nat.shiftLeft_eq]
  congr 2
  rw [show (1#64).toNat = 1 from rfl, Nat.one_mul, Nat.mod_eq_of_lt h2]
theorem u_test {x : BitVec 64} {b : Int} (h0 : 0 ≤ b) (h : b < 40) : ∃ y : BitVec 64, abin .shr (U x) (.i .i64 b) = some (U y) ∧ abin .and (U y) (.i .u64 1) = some (U (y &&& 1#64)) ∧ abin .neq (U (y &&& 1#64)) (.i .u64 0) = some (.b (x.getLsbD b.toNat)) := by
  obtain ⟨k, rfl⟩ : ∃ k : Nat, b = k := ⟨b.toNat, by omega⟩
  have hk : k < 40 := by omega
  refine ⟨x >>> k, ?_, u_and _ 1#64, ?_⟩
  · simp only [abin, ishift, U]
    rw [if_neg (by omega)]
    rw [show min ((k : Int)).toNat IntKind.u64.bits = k by show min k 64 = k; omega]
    simp only [BitVec.toNat_ushiftRight, Nat.shiftRight_eq_div_pow]
    congr 2
    have : (2 : Int) ^ k = ((2 ^ k : Nat) : Int) := by simp
    rw [this, Int.fdiv_eq_ediv_of_nonneg _ (Int.natCast_nonneg _)]
    norm_cast
  · rw [show (AV.i .u64 0) = U 0#64 from rfl]
    simp only [U, b_neq]
    congr 2
    simp only [Int.toNat_natCast]
    have key : ((x >>> k) &&& 1#64).toNat = if x.getLsbD k then 1 else 0 := by
      rw [BitVec.toNat_and, BitVec.toNat_ushiftRight]
      simp [Nat.and_one_is_mod, BitVec.getLsbD, Nat.testBit, Nat.and_comm]
      split <;> omega
    rw [key]
    split <;> simp_all
theorem frz_rel {hp : Nat → Option Blk} {id n : Nat} {R : Rw} {ro : Bool} (h : hp id = some (.cells (relC n R) ro)) : frz hp depth (.mp id 0) = some (.ptr (relC n R)) := frz_d_mp h (frzL_flat (relC_flat n R))
theorem splice_rel (n : Nat) (R : Rw) : splice (.i .i64 0 :: List.replicate 40 (.i .u64 0)) 0 (relC n R) = relC n R := by
  have h : ∀ (cs vs : List AV) (a b : AV), vs.length = cs.length → splice (a :: cs) 0 (b :: vs) = b :: vs := by
    intro cs vs a b h
    cases vs with
    | nil => cases cs <;> first | rfl | simp at h
    | cons v vs =>
      show [] ++ (b :: v :: vs) ++ List.drop (0 + (b :: v :: vs).length) (a :: cs) = _
      rw [List.drop_eq_nil_of_le (by simp at h ⊢; omega)]
      simp
  exact h _ _ _ _ (by simp [rowsC_len])
theorem part_rel (n : Nat) (R : Rw) : part (relC n R) 0 (some 41) = some (.agg (relC n R)) := by
  simp [part, relC_len]
  rw [List.take_of_length_le (by rw [relC_len]; omega)]

theorem frz_U (hp x) : frz hp depth (U x) = some (U x) := frz_d_i hp .u64 _
theorem flat_U (x) : flat (U x) = true := rfl
theorem vis_U (hp x) : vis hp depth (U x) = [] := vis_i hp .u64 _
theorem relC_congr {n : Nat} {R S : Rw} (h : ∀ a, a < 40 → R a = S a) : relC n R = relC n S := by
  unfold relC rowsC
  congr 1
  exact List.map_congr_left fun a ha => by rw [h a (List.mem_range.1 ha)]
theorem part_rows (R : Rw) : part (rowsC R) 0 (some 40) = some (.agg (rowsC R)) := by
  simp [part, rowsC_len]
  rw [List.take_of_length_le (by rw [rowsC_len]; omega)]
theorem cellsEq_U : ∀ l : List (BitVec 64), cellsEq (List.replicate l.length 0) (l.map U) (List.replicate l.length (.i .u64 0)) = some (l.all (· == 0#64))
  | [] => rfl
  | x :: l => by
    simp only [List.length_cons, List.replicate_succ, List.map_cons, cellsEq, cellsEq_U l, List.all_cons]
    show (match cellEq 0 (U x) (.i .u64 0), some (l.all (· == 0#64)) with | some a, some b => some (a && b) | _, _ => none) = _
    have : cellEq 0 (U x) (.i .u64 0) = some (x == 0#64) := by
      simp only [U, cellEq, if_true]
      congr 1
      by_cases h : x = 0#64
      · subst h; rfl
      · have : x.toNat ≠ 0 := fun h' => h (BitVec.eq_of_toNat_eq (by simpa using h'))
        rw [Bool.eq_iff_iff]
        simp [h]; omega
    rw [this]
def noneR (R : Rw) : Bool := (List.range 40).all fun a => R a == 0#64
theorem eqa_rows (R : Rw) : aeqa (List.replicate 40 0) (.agg (rowsC R)) (.agg (List.replicate 40 (.i .u64 0))) = some (noneR R) := by
  have := cellsEq_U ((List.range 40).map R)
  simp only [List.length_map, List.length_range, List.map_map] at this
  show cellsEq _ _ _ = _
  unfold rowsC noneR
  rw [show (fun a => U (R a)) = U ∘ R from rfl, this, List.all_map]
  rfl
/-! bundle -/
set_option maxRecDepth 10000 in
theorem rl : type_of% (And.intro (And.intro (And.intro (And.intro @relC_n @relC_row) (And.intro @relC_row' (And.intro @relC_drop1 @relC_len))) (And.intro (And.intro @rowsC_len (And.intro @relC_one @relC_flat)) (And.intro @cellsOf_U (And.intro @one_U @frz_U)))) (And.intro (And.intro (And.intro @flat_U @vis_U) (And.intro @relC_set' (And.intro @u_shl @u_or))) (And.intro (And.intro @u_and (And.intro @u_andNot @part_rel)) (And.intro @splice_rel (And.intro @part_rows @eqa_rows))))) := (And.intro (And.intro (And.intro (And.intro @relC_n @relC_row) (And.intro @relC_row' (And.intro @relC_drop1 @relC_len))) (And.intro (And.intro @rowsC_len (And.intro @relC_one @relC_flat)) (And.intro @cellsOf_U (And.intro @one_U @frz_U)))) (And.intro (And.intro (And.intro @flat_U @vis_U) (And.intro @relC_set' (And.intro @u_shl @u_or))) (And.intro (And.intro @u_and (And.intro @u_andNot @part_rel)) (And.intro @splice_rel (And.intro @part_rows @eqa_rows)))))
/-! end of bundle -/
end Go.Ab
end
section
/- What the functions of package rel compute. -/
set_option linter.unusedVariables false
set_option linter.unusedSimpArgs false
namespace Go.Ab
variable {F : Funs}
def has (n : Nat) (R : Rw) (a b : Int) : Bool := decide (0 ≤ a ∧ a < n ∧ 0 ≤ b ∧ b < n) && (R a.toNat).getLsbD b.toNat

theorem sp_has (pk : Pk_rel F) {n : Nat} (hn : n ≤ 40) (R : Rw) (a b : Int) : pureS F 13 [.ptr (relC n R), .i .i64 a, .i .i64 b] = some (.b (has n R a b)) := by
  refine pure_of pk.rel_Rel_Has ?_
  have hl := relC_len n R
  by_cases h1 : 0 ≤ a
  · by_cases h2 : a < n
    · by_cases h3 : 0 ≤ b
      · by_cases h4 : b < n
        · obtain ⟨y, hy1, hy2, hy3⟩ := u_test (x := R a.toNat) h3 (by omega)
          have h5 : (0 : Int) ≤ a := h1
          simp (disch := omega) only [A_rel_Rel_Has, wp, Nat.reduceAdd, Nat.reduceMul, Nat.reduceSub, h1, h2, h3, h4, hl, drop_0, relC_n, relC_drop1, relC_row', hy1, hy2, hy3]
          simp [has, h1, h2, h3, h4]
        · simp (disch := omega) only [A_rel_Rel_Has, wp, Nat.reduceAdd, Nat.reduceMul, Nat.reduceSub, h1, h2, h3, h4, hl, drop_0, relC_n]
          simp [has, h4]
      · simp (disch := omega) only [A_rel_Rel_Has, wp, Nat.reduceAdd, Nat.reduceMul, Nat.reduceSub, h1, h2, h3, hl, drop_0, relC_n]
        simp [has, h3]
    · simp (disch := omega) only [A_rel_Rel_Has, wp, Nat.reduceAdd, Nat.reduceMul, Nat.reduceSub, h1, h2, hl, drop_0, relC_n]
      simp [has, h2]
  · simp (disch := omega) only [A_rel_Rel_Has, wp, Nat.reduceAdd, Nat.reduceMul, Nat.reduceSub, h1, hl, drop_0, relC_n]
    simp [has, h1]
end Go.Ab
end
section
/- New. -/
set_option linter.unusedVariables false
set_option linter.unusedSimpArgs false
namespace Go.Ab
variable {F : Funs}
theorem pairsC_len (l : List (Int × Int)) : (pairsC l).length = l.length * 2 := by
  induction l with
  | nil => rfl
  | cons p l ih => simp only [pairsC, List.flatMap_cons, List.length_append, List.length_cons, List.length_nil] at ih ⊢; omega
theorem pairs_part : ∀ {l : List (Int × Int)} {k : Nat} (h : k < l.length), part ((pairsC l).drop (k * 2)) 0 (some 2) = some (.agg [.i .i64 (l.getD k (0, 0)).1, .i .i64 (l.getD k (0, 0)).2])
  | p :: l, 0, _ => by simp [pairsC, part]
  | p :: l, k + 1, h => by
    have := pairs_part (l := l) (k := k) (by simpa using h)
    simp only [List.getD_cons_succ]
    rw [← this]
    simp [pairsC, Nat.succ_mul]
def inR (n : Nat) (p : Int × Int) : Bool := decide (0 ≤ p.1 ∧ p.1 < n ∧ 0 ≤ p.2 ∧ p.2 < n)
def addR (n : Nat) (R : Rw) (p : Int × Int) : Rw := if inR n p then upd R p.1.toNat (R p.1.toNat ||| bit p.2.toNat) else R
def newR (n : Nat) (l : List (Int × Int)) : Rw := l.foldl (addR n) (fun _ => 0)
def clamp (n : Int) : Nat := (max 0 (min n 40)).toNat
theorem clamp_le (n : Int) : clamp n ≤ 40 := by unfold clamp; omega
theorem newR_take {n : Nat} {l : List (Int × Int)} {k : Nat} (h : k < l.length) : newR n (l.take (k + 1)) = addR n (newR n (l.take k)) (l.getD k (0, 0)) := by
  unfold newR
  rw [List.take_add_one, List.foldl_append, List.getElem?_eq_getElem h, List.getD_eq_getElem?_getD, List.getElem?_eq_getElem h]
  rfl
theorem zero_rel (n : Nat) : splice ([AV.i .i64 0] ++ List.replicate 40 (.i .u64 0)) 0 [.i .i64 n] = relC n (fun _ => 0) := rfl
theorem i64_wrap {x : Int} (h : -9223372036854775808 ≤ x) (h2 : x ≤ 9223372036854775807) : IntKind.i64.wrap x = x := by
  simp [IntKind.wrap, IntKind.bits, IntKind.signed, IntKind.min, IntKind.max]
  omega

set_option maxHeartbeats 1000000 in
theorem sp_new (pk : Pk_rel F) (n : Int) (l : List (Int × Int)) (t : Tok) (hlen : l.length < 9000000000000000000) : pureS F 11 [.i .i64 n, .sl (pairsC l) l.length t] = some (.ptr (relC (clamp n) (newR (clamp n) l))) := by
  refine pure_of pk.rel_New ?_
  have hc : (if (40 : Int) < n then (40 : Int) else n) = min n 40 := by split <;> omega
  have hc0 : (if (0 : Int) < min n 40 then min n 40 else 0) = clamp n := by unfold clamp; split <;> omega
  have hz : AV.i .i64 (clamp n) :: List.replicate 40 (.i .u64 0) = relC (clamp n) (fun _ => 0) := rfl
  simp (disch := omega) only [A_rel_New, wp, Nat.reduceAdd, Nat.reduceMul, Nat.reduceSub, hc, hc0, hz, relC_one, List.all_append, List.all_replicate]
  refine W_loop (fun m e g => ∃ k, m = l.length - k ∧ k ≤ l.length ∧ e 13 = .sl (pairsC l) l.length t ∧ e 14 = .i .i64 l.length ∧ e 15 = .i .i64 k ∧ e 5 = .mp 5 0 ∧ g.hp 5 = some (.cells (relC (clamp n) (newR (clamp n) (l.take k))) false) ∧ 5 < g.nx) l.length ?_ ?_
  · refine ⟨0, rfl, Nat.zero_le _, ?_⟩
    simp (disch := omega) only [wp, Nat.reduceAdd, Nat.reduceMul, Nat.reduceSub]
    exact ⟨rfl, rfl, by omega⟩
  · rintro m e g ⟨k, rfl, hk, h13, h14, h15, h5, hg, hn⟩
    have hcl := clamp_le n
    by_cases hk' : k < l.length
    · have hk1 : (k : Int) < l.length := by omega
      have hp := pairs_part hk'
      have hw : IntKind.i64.wrap ((k : Int) + 1) = ((k + 1 : Nat) : Int) := by rw [i64_wrap (by omega) (by omega)]; omega
      have ht := newR_take (n := clamp n) hk'
      have n1 : 5 ≠ g.nx + 1 + 2 := by omega
      have n2 : g.nx + 1 + 2 ≠ 5 := by omega
      generalize l.getD k (0, 0) = p at hp ht
      obtain ⟨a, b⟩ := p
      by_cases h1 : 0 ≤ a
      · by_cases h2 : a < clamp n
        · by_cases h3 : 0 ≤ b
          · by_cases h4 : b < clamp n
            · simp (disch := omega) only [wp, Nat.reduceAdd, Nat.reduceMul, Nat.reduceSub, h13, h14, h15, h5, hk1, hp, hg, h1, h2, h3, h4, hw, relC_n, relC_row, u_shl, u_or, relC_len, cellsOf_U, one_U, relC_set']
              refine ⟨_, ?_, k + 1, rfl, by omega, rfl, ?_, by show 5 < _; omega⟩
              · omega
              · rw [ht]
                simp [addR, inR, h1, h2, h3, h4]
            · simp (disch := omega) only [wp, Nat.reduceAdd, Nat.reduceMul, Nat.reduceSub, h13, h14, h15, h5, hk1, hp, hg, h1, h2, h3, h4, hw, relC_n]
              refine ⟨_, ?_, k + 1, rfl, by omega, rfl, ?_, by show 5 < _; omega⟩
              · omega
              · rw [ht]
                simp [addR, inR, h4]
          · simp (disch := omega) only [wp, Nat.reduceAdd, Nat.reduceMul, Nat.reduceSub, h13, h14, h15, h5, hk1, hp, hg, h1, h2, h3, hw, relC_n]
            refine ⟨_, ?_, k + 1, rfl, by omega, rfl, ?_, by show 5 < _; omega⟩
            · omega
            · rw [ht]
              simp [addR, inR, h3]
        · simp (disch := omega) only [wp, Nat.reduceAdd, Nat.reduceMul, Nat.reduceSub, h13, h14, h15, h5, hk1, hp, hg, h1, h2, hw, relC_n]
          refine ⟨_, ?_, k + 1, rfl, by omega, rfl, ?_, by show 5 < _; omega⟩
          · omega
          · rw [ht]
            simp [addR, inR, h2]
      · simp (disch := omega) only [wp, Nat.reduceAdd, Nat.reduceMul, Nat.reduceSub, h13, h14, h15, h5, hk1, hp, hg, h1, hw, relC_n]
        refine ⟨_, ?_, k + 1, rfl, by omega, rfl, ?_, by show 5 < _; omega⟩
        · omega
        · rw [ht]
          simp [addR, inR, h1]
    · have : k = l.length := by omega
      subst this
      have hk1 : ¬ ((l.length : Int) < l.length) := by omega
      simp (disch := omega) only [wp, Nat.reduceAdd, Nat.reduceMul, Nat.reduceSub, h13, h14, h15, h5, hk1, hg, relC_flat, List.take_length]
end Go.Ab
end
section
/- Plus, Loops, Maybe, Len. -/
set_option linter.unusedVariables false
set_option linter.unusedSimpArgs false
namespace Go.Ab
variable {F : Funs}
theorem succ_wrap {k : Nat} (h : k < 9000000000000000000) : IntKind.i64.wrap ((k : Int) + 1) = ((k + 1 : Nat) : Int) := by rw [i64_wrap (by omega) (by omega)]; omega
def stepP (n b : Nat) (R : Rw) (a : Nat) : Rw := if has n R a b then upd R a (R a ||| R b) else R
def rowP (n b k : Nat) (R : Rw) : Rw := (List.range k).foldl (stepP n b) R
def plusK (n k : Nat) (R : Rw) : Rw := (List.range k).foldl (fun R b => rowP n b n R) R
def plusR (n : Nat) (R : Rw) : Rw := plusK n n R
theorem rowP_succ (n b k R) : rowP n b (k + 1) R = stepP n b (rowP n b k R) k := by simp [rowP, List.range_succ]
theorem plusK_succ (n k R) : plusK n (k + 1) R = rowP n k n (plusK n k R) := by simp [plusK, List.range_succ]
set_option maxHeartbeats 1000000 in
theorem sp_plus (pk : Pk_rel F) {n : Nat} (hn : n ≤ 40) (R : Rw) : pureS F 12 [.ptr (relC n R)] = some (.ptr (relC n (plusR n R))) := by
  refine pure_of pk.rel_Rel_Plus ?_
  simp (disch := omega) only [A_rel_Rel_Plus, wp, Nat.reduceAdd, Nat.reduceMul, Nat.reduceSub, rl]
  refine W_loop (fun m e g => ∃ k, m = n - k ∧ k ≤ n ∧ e 0 = .ptr (relC n R) ∧ e 12 = .i .i64 n ∧ e 13 = .i .i64 k ∧ e 3 = .mp 4 0 ∧ g.hp 4 = some (.cells (relC n (plusK n k R)) false) ∧ 4 < g.nx) n ?_ ?_
  · refine ⟨0, rfl, Nat.zero_le _, ?_⟩
    simp (disch := omega) only [wp, Nat.reduceAdd, Nat.reduceMul, Nat.reduceSub]
    exact ⟨rfl, rfl, by omega⟩
  · rintro m e g ⟨k, rfl, hk, h0, h12, h13, h3, hg, hnx⟩
    by_cases hk' : k < n
    · have hk1 : (k : Int) < n := by omega
      have hw := succ_wrap (k := k) (by omega)
      simp (disch := omega) only [wp, Nat.reduceAdd, Nat.reduceMul, Nat.reduceSub, h0, h12, h13, h3, hk1, rl]
      refine W_loop (fun m e g => ∃ j, m = n - j ∧ j ≤ n ∧ e 0 = .ptr (relC n R) ∧ e 12 = .i .i64 n ∧ e 13 = .i .i64 k ∧ e 3 = .mp 4 0 ∧ e 4 = .i .i64 k ∧ e 19 = .i .i64 n ∧ e 20 = .i .i64 j ∧ g.hp 4 = some (.cells (relC n (rowP n k j (plusK n k R))) false) ∧ 4 < g.nx) n ?_ ?_
      · refine ⟨0, rfl, Nat.zero_le _, ?_⟩
        simp (disch := omega) only [wp, Nat.reduceAdd, Nat.reduceMul, Nat.reduceSub, h0, h12, h13, h3, hg]
        exact ⟨rfl, rfl, by omega⟩
      · rintro m e g ⟨j, rfl, hj, h0, h12, h13, h3, h4, h19, h20, hg, hnx⟩
        by_cases hj' : j < n
        · have hj1 : (j : Int) < n := by omega
          have hwj := succ_wrap (k := j) (by omega)
          by_cases hh : has n (rowP n k j (plusK n k R)) j k = true
          · simp (disch := omega) only [wp, Nat.reduceAdd, Nat.reduceMul, Nat.reduceSub, h0, h12, h13, h3, h4, h19, h20, hj1, hg, rl, sp_has pk hn, hh, hwj]
            refine ⟨_, ?_, j + 1, rfl, by omega, rfl, ?_, by show 4 < _; omega⟩
            · omega
            · rw [rowP_succ, stepP, if_pos hh]
          · simp (disch := omega) only [wp, Nat.reduceAdd, Nat.reduceMul, Nat.reduceSub, h0, h12, h13, h3, h4, h19, h20, hj1, hg, rl, sp_has pk hn, hh, hwj]
            refine ⟨_, ?_, j + 1, rfl, by omega, rfl, ?_, by show 4 < _; omega⟩
            · omega
            · rw [rowP_succ, stepP, if_neg hh]
        · obtain rfl : j = n := by omega
          have hj1 : ¬ ((j : Int) < j) := by omega
          simp (disch := omega) only [wp, Nat.reduceAdd, Nat.reduceMul, Nat.reduceSub, h0, h12, h13, h3, h4, h19, h20, hj1, hg, hw]
          refine ⟨_, ?_, k + 1, rfl, by omega, rfl, ?_, by show 4 < _; omega⟩
          · omega
          · rw [plusK_succ]
    · obtain rfl : k = n := by omega
      have hk1 : ¬ ((k : Int) < k) := by omega
      simp (disch := omega) only [wp, Nat.reduceAdd, Nat.reduceMul, Nat.reduceSub, h0, h12, h13, h3, hk1, hg, rl]
      rfl
end Go.Ab
end
section
/- Len, Maybe, Loops, Pairs. -/
set_option linter.unusedVariables false
set_option linter.unusedSimpArgs false
namespace Go.Ab
variable {F : Funs}
theorem sp_len (pk : Pk_rel F) {n : Nat} (R : Rw) : pureS F 17 [.ptr (relC n R)] = some (.i .i64 n) := by
  refine pure_of pk.rel_Rel_Len ?_
  simp (disch := omega) only [A_rel_Rel_Len, wp, Nat.reduceAdd, Nat.reduceMul, Nat.reduceSub, rl]

def maybeK (k : Nat) (R : Rw) : Rw := (List.range k).foldl (fun R a => upd R a (R a ||| bit a)) R
theorem maybeK_succ (k R) : maybeK (k + 1) R = upd (maybeK k R) k (maybeK k R k ||| bit k) := by simp [maybeK, List.range_succ]
set_option maxHeartbeats 1000000 in
theorem sp_maybe (pk : Pk_rel F) {n : Nat} (hn : n ≤ 40) (R : Rw) : pureS F 16 [.ptr (relC n R)] = some (.ptr (relC n (maybeK n R))) := by
  refine pure_of pk.rel_Rel_Maybe ?_
  simp (disch := omega) only [A_rel_Rel_Maybe, wp, Nat.reduceAdd, Nat.reduceMul, Nat.reduceSub, rl]
  refine W_loop (fun m e g => ∃ k, m = n - k ∧ k ≤ n ∧ e 11 = .i .i64 n ∧ e 12 = .i .i64 k ∧ e 3 = .mp 4 0 ∧ g.hp 4 = some (.cells (relC n (maybeK k R)) false) ∧ 4 < g.nx) n ?_ ?_
  · refine ⟨0, rfl, Nat.zero_le _, ?_⟩
    simp (disch := omega) only [wp, Nat.reduceAdd, Nat.reduceMul, Nat.reduceSub]
    exact ⟨rfl, rfl, by omega⟩
  · rintro m e g ⟨k, rfl, hk, h11, h12, h3, hg, hnx⟩
    by_cases hk' : k < n
    · have hk1 : (k : Int) < n := by omega
      have hw := succ_wrap (k := k) (by omega)
      simp (disch := omega) only [wp, Nat.reduceAdd, Nat.reduceMul, Nat.reduceSub, h11, h12, h3, hk1, hg, rl, hw]
      refine ⟨_, ?_, k + 1, rfl, by omega, rfl, ?_, by show 4 < _; omega⟩
      · omega
      · rw [maybeK_succ]
    · obtain rfl : k = n := by omega
      have hk1 : ¬ ((k : Int) < k) := by omega
      simp (disch := omega) only [wp, Nat.reduceAdd, Nat.reduceMul, Nat.reduceSub, h11, h12, h3, hk1, hg, rl]

def loopsR (n : Nat) (R : Rw) : Bool := (List.range n).any fun a => has n (plusR n R) a a
set_option maxHeartbeats 1000000 in
theorem sp_loops (pk : Pk_rel F) {n : Nat} (hn : n ≤ 40) (R : Rw) : pureS F 14 [.ptr (relC n R)] = some (.b (loopsR n R)) := by
  refine pure_of pk.rel_Rel_Loops ?_
  simp (disch := omega) only [A_rel_Rel_Loops, wp, Nat.reduceAdd, Nat.reduceMul, Nat.reduceSub, rl, sp_plus pk hn]
  refine W_loop (fun m e g => ∃ k, m = n - k ∧ k ≤ n ∧ e 10 = .i .i64 n ∧ e 11 = .i .i64 k ∧ e 3 = .ptr (relC n (plusR n R)) ∧ ∀ a, a < k → has n (plusR n R) a a = false) n ?_ ?_
  · refine ⟨0, rfl, Nat.zero_le _, ?_⟩
    simp (disch := omega) only [wp, Nat.reduceAdd, Nat.reduceMul, Nat.reduceSub]
    exact ⟨rfl, fun a ha => absurd ha (Nat.not_lt_zero _)⟩
  · rintro m e g ⟨k, rfl, hk, h10, h11, h3, hall⟩
    by_cases hk' : k < n
    · have hk1 : (k : Int) < n := by omega
      have hw := succ_wrap (k := k) (by omega)
      by_cases hh : has n (plusR n R) k k = true
      · simp (disch := omega) only [wp, Nat.reduceAdd, Nat.reduceMul, Nat.reduceSub, h10, h11, h3, hk1, rl, hw, sp_has pk hn, hh]
        have : loopsR n R = true := List.any_eq_true.2 ⟨k, List.mem_range.2 hk', hh⟩
        rw [this]
      · simp (disch := omega) only [wp, Nat.reduceAdd, Nat.reduceMul, Nat.reduceSub, h10, h11, h3, hk1, rl, hw, sp_has pk hn, hh]
        refine ⟨_, ?_, k + 1, rfl, by omega, rfl, fun a ha => ?_⟩
        · omega
        · by_cases hak : a = k
          · subst hak; simpa using hh
          · exact hall a (by omega)
    · obtain rfl : k = n := by omega
      have hk1 : ¬ ((k : Int) < k) := by omega
      simp (disch := omega) only [wp, Nat.reduceAdd, Nat.reduceMul, Nat.reduceSub, h10, h11, h3, hk1, rl]
      have : loopsR k R = false := List.any_eq_false.2 fun a ha => by rw [hall a (List.mem_range.1 ha)]; simp
      rw [this]

/-! ### Pairs -/
def rowPr (n : Nat) (R : Rw) (a j : Nat) : List (Int × Int) := ((List.range j).filter fun (b : Nat) => has n R a b).map fun (b : Nat) => ((a : Int), (b : Int))
def pairsK (n k : Nat) (R : Rw) : List (Int × Int) := (List.range k).flatMap fun a => rowPr n R a n
def pairsR (n : Nat) (R : Rw) : List (Int × Int) := pairsK n n R
theorem pairsK_succ (n k R) : pairsK n (k + 1) R = pairsK n k R ++ rowPr n R k n := by simp [pairsK, List.range_succ]
theorem rowPr_succ (n R a j) : rowPr n R a (j + 1) = if has n R a j then rowPr n R a j ++ [((a : Int), (j : Int))] else rowPr n R a j := by
  unfold rowPr
  rw [List.range_succ, List.filter_append, List.filter_cons]
  split <;> simp
def partL (n k j : Nat) (R : Rw) : List (Int × Int) := pairsK n k R ++ rowPr n R k j
theorem partL_0 (n k R) : partL n k 0 R = pairsK n k R := by simp [partL, rowPr]
theorem partL_n (n k R) : partL n k n R = pairsK n (k + 1) R := (pairsK_succ n k R).symm
theorem partL_succ (n k j R) : partL n k (j + 1) R = if has n R k j then partL n k j R ++ [((k : Int), (j : Int))] else partL n k j R := by
  unfold partL
  rw [rowPr_succ]; split <;> simp
theorem pairsC_app (l m : List (Int × Int)) : pairsC (l ++ m) = pairsC l ++ pairsC m := by simp [pairsC]
theorem pairsC_one (a b : Int) : pairsC [(a, b)] = [.i .i64 a, .i .i64 b] := rfl
def Live (g : G) (esz : Nat) (t : Tok) : Prop := t = .rig ∨ ∃ τ, t = .own τ esz ∧ g.hp τ = some (.tok true) ∧ τ < g.nx
set_option maxHeartbeats 1000000 in
theorem sp_pairs (pk : Pk_rel F) {n : Nat} (hn : n ≤ 40) (R : Rw) : pureS F 15 [.ptr (relC n R)] = some (.sl (pairsC (pairsR n R)) (pairsR n R).length .non) := by
  refine pure_of pk.rel_Rel_Pairs ?_
  simp (disch := omega) only [A_rel_Rel_Pairs, wp, Nat.reduceAdd, Nat.reduceMul, Nat.reduceSub, rl]
  refine W_loop (fun m e g => ∃ k t, m = n - k ∧ k ≤ n ∧ e 0 = .ptr (relC n R) ∧ e 9 = .i .i64 n ∧ e 10 = .i .i64 k ∧ e 3 = .sl (pairsC (pairsK n k R)) (pairsK n k R).length t ∧ Live g 2 t ∧ (pairsK n k R).length ≤ 40 * k) n ?_ ?_
  · refine ⟨0, .rig, rfl, Nat.zero_le _, ?_⟩
    simp (disch := omega) only [wp, Nat.reduceAdd, Nat.reduceMul, Nat.reduceSub]
    exact ⟨rfl, rfl, .inl rfl, Nat.zero_le _⟩
  · rintro m e g ⟨k, t, rfl, hk, h0, h9, h10, h3, ht, hl⟩
    by_cases hk' : k < n
    · have hk1 : (k : Int) < n := by omega
      have hw := succ_wrap (k := k) (by omega)
      simp (disch := omega) only [wp, Nat.reduceAdd, Nat.reduceMul, Nat.reduceSub, h0, h9, h10, h3, hk1, rl]
      refine W_loop (fun m e g => ∃ j t, m = n - j ∧ j ≤ n ∧ e 0 = .ptr (relC n R) ∧ e 9 = .i .i64 n ∧ e 10 = .i .i64 k ∧ e 4 = .i .i64 k ∧ e 16 = .i .i64 n ∧ e 17 = .i .i64 j ∧ e 3 = .sl (pairsC (partL n k j R)) (partL n k j R).length t ∧ Live g 2 t ∧ (partL n k j R).length ≤ 40 * k + j) n ?_ ?_
      · refine ⟨0, t, rfl, Nat.zero_le _, ?_⟩
        simp (disch := omega) only [wp, Nat.reduceAdd, Nat.reduceMul, Nat.reduceSub, h0, h9, h10, h3]
        rw [partL_0]
        refine ⟨rfl, rfl, ?_, by omega⟩
        rcases ht with rfl | ⟨τ, rfl, hτ, hlt⟩
        · exact .inl rfl
        · exact .inr ⟨τ, rfl, hτ, Nat.lt_of_lt_of_le hlt (by dsimp only; omega)⟩
      · rintro m e g ⟨j, t, rfl, hj, h0, h9, h10, h4, h16, h17, h3, ht, hl⟩
        have hLn := partL_succ n k j R
        by_cases hj' : j < n
        · have hj1 : (j : Int) < n := by omega
          have hwj := succ_wrap (k := j) (by omega)
          by_cases hh : has n R k j = true
          · rw [if_pos hh] at hLn
            rcases ht with rfl | ⟨τ, rfl, hτ, hlt⟩
            · simp (disch := omega) only [wp, Nat.reduceAdd, Nat.reduceMul, Nat.reduceSub, h0, h9, h10, h4, h16, h17, h3, hj1, rl, sp_has pk hn, hh, hwj, pairsC_len]
              refine ⟨n - (j + 1), ?_, j + 1, ?_⟩
              · omega
              · rw [hLn, pairsC_app, pairsC_one, List.length_append]
                exact ⟨_, rfl, by omega, rfl, rfl, .inr ⟨_, rfl, upd_same _ _ _, by dsimp only; omega⟩, by simp; omega⟩
            · simp (disch := omega) only [wp, Nat.reduceAdd, Nat.reduceMul, Nat.reduceSub, h0, h9, h10, h4, h16, h17, h3, hj1, rl, sp_has pk hn, hh, hwj, pairsC_len, hτ]
              refine ⟨n - (j + 1), ?_, j + 1, ?_⟩
              · omega
              · rw [hLn, pairsC_app, pairsC_one, List.length_append]
                exact ⟨_, rfl, by omega, rfl, rfl, .inr ⟨_, rfl, upd_same _ _ _, by dsimp only; omega⟩, by simp; omega⟩
          · rw [if_neg hh] at hLn
            simp (disch := omega) only [wp, Nat.reduceAdd, Nat.reduceMul, Nat.reduceSub, h0, h9, h10, h4, h16, h17, h3, hj1, rl, sp_has pk hn, hh, hwj]
            refine ⟨_, ?_, j + 1, t, rfl, by omega, rfl, ?_⟩
            · omega
            · rw [hLn]
              refine ⟨rfl, ?_, by omega⟩
              rcases ht with rfl | ⟨τ, rfl, hτ, hlt⟩
              · exact .inl rfl
              · exact .inr ⟨τ, rfl, hτ, Nat.lt_of_lt_of_le hlt (by dsimp only; omega)⟩
        · obtain rfl : j = n := by omega
          have hj1 : ¬ ((j : Int) < j) := by omega
          simp (disch := omega) only [wp, Nat.reduceAdd, Nat.reduceMul, Nat.reduceSub, h0, h9, h10, h4, h16, h17, h3, hj1, hw]
          refine ⟨_, ?_, k + 1, t, rfl, by omega, rfl, ?_⟩
          · omega
          · rw [← partL_n]
            refine ⟨rfl, ?_, by omega⟩
            rcases ht with rfl | ⟨τ, rfl, hτ, hlt⟩
            · exact .inl rfl
            · exact .inr ⟨τ, rfl, hτ, Nat.lt_of_lt_of_le hlt (by dsimp only; omega)⟩
    · obtain rfl : k = n := by omega
      have hk1 : ¬ ((k : Int) < k) := by omega
      simp (disch := omega) only [wp, Nat.reduceAdd, Nat.reduceMul, Nat.reduceSub, h0, h9, h10, h3, hk1, rl]
      rfl
end Go.Ab
end
section
/- By row: And, Or, Less; In. -/
set_option linter.unusedVariables false
set_option linter.unusedSimpArgs false
namespace Go.Ab
variable {F : Funs}
def byK (φ : BitVec 64 → BitVec 64 → BitVec 64) (R S : Rw) (k : Nat) : Rw := fun a => if a < k then φ (R a) (S a) else 0
theorem byK_succ (φ R S k) : upd (byK φ R S k) k (φ (R k) (S k)) = byK φ R S (k + 1) := by
  funext a
  unfold upd byK
  by_cases h : a = k
  · subst h; simp
  · rw [if_neg h]
    by_cases h2 : a < k
    · rw [if_pos h2, if_pos (by omega)]
    · rw [if_neg h2, if_neg (by omega)]
theorem maxI (n m : Nat) : (if (n : Int) < m then (m : Int) else n) = ((max n m : Nat) : Int) := by split <;> omega
set_option maxHeartbeats 1000000 in
theorem sp_by (pk : Pk_rel F) {n m : Nat} (hn : n ≤ 40) (hm : m ≤ 40) (R S : Rw) {fid : Nat} {φ : BitVec 64 → BitVec 64 → BitVec 64} (hφ : ∀ x y, pureS F fid [U x, U y] = some (U (φ x y))) :
    pureS F 51 [.ptr (relC n R), .ptr (relC m S), .fn fid [] []] = some (.ptr (relC (max n m) fun a => φ (R a) (S a))) := by
  refine pure_of pk.rel_Rel_by ?_
  have hz : AV.i .i64 (max n m : Nat) :: List.replicate 40 (.i .u64 0) = relC (max n m) (byK φ R S 0) := rfl
  simp (disch := omega) only [A_rel_Rel_by, wp, Nat.reduceAdd, Nat.reduceMul, Nat.reduceSub, rl, maxI, hz, List.all_append, List.all_replicate]
  refine W_loop (fun q e g => ∃ k, q = 40 - k ∧ k ≤ 40 ∧ e 0 = .ptr (relC n R) ∧ e 1 = .ptr (relC m S) ∧ e 2 = .fn fid [] [] ∧ e 20 = .i .i64 k ∧ e 7 = .mp 11 0 ∧ g.hp 11 = some (.cells (relC (max n m) (byK φ R S k)) false) ∧ 11 < g.nx) 40 ?_ ?_
  · refine ⟨0, rfl, Nat.zero_le _, ?_⟩
    simp (disch := omega) only [wp, Nat.reduceAdd, Nat.reduceMul, Nat.reduceSub]
    exact ⟨rfl, by omega⟩
  · rintro q e g ⟨k, rfl, hk, h0, h1, h2, h20, h7, hg, hnx⟩
    by_cases hk' : k < 40
    · have hk1 : (k : Int) < 40 := by omega
      have hw := succ_wrap (k := k) (by omega)
      simp (disch := omega) only [wp, Nat.reduceAdd, Nat.reduceMul, Nat.reduceSub, h0, h1, h2, h20, h7, hk1, hg, rl, hw, hφ, byK_succ]
      refine ⟨40 - (k + 1), ?_, k + 1, rfl, by omega, rfl, rfl, by first | omega | (dsimp only; omega)⟩
      omega
    · obtain rfl : k = 40 := by omega
      have hk1 : ¬ (((40 : Nat) : Int) < 40) := by omega
      simp (disch := omega) only [wp, Nat.reduceAdd, Nat.reduceMul, Nat.reduceSub, h0, h1, h2, h20, h7, hg, rl, hk1]
      rw [relC_congr (R := byK φ R S 40) (S := fun a => φ (R a) (S a)) (fun a ha => by simp [byK, ha])]
theorem sp_or1 (pk : Pk_rel F) (x y : BitVec 64) : pureS F 53 [U x, U y] = some (U (x ||| y)) := by
  refine pure_of pk.rel_Rel_Or_1 ?_
  simp (disch := omega) only [A_rel_Rel_Or_1, wp, Nat.reduceAdd, Nat.reduceMul, Nat.reduceSub, rl]
theorem sp_and1 (pk : Pk_rel F) (x y : BitVec 64) : pureS F 52 [U x, U y] = some (U (x &&& y)) := by
  refine pure_of pk.rel_Rel_And_1 ?_
  simp (disch := omega) only [A_rel_Rel_And_1, wp, Nat.reduceAdd, Nat.reduceMul, Nat.reduceSub, rl]
/-- Less and what goes by it. -/
structure RelLs (F : Funs) : Prop where
  rel_Rel_In : F 22 = some A_rel_Rel_In
  rel_Rel_Less : F 26 = some A_rel_Rel_Less
  rel_Rel_Less_1 : F 54 = some A_rel_Rel_Less_1
theorem sp_less1 (pk : RelLs F) (x y : BitVec 64) : pureS F 54 [U x, U y] = some (U (x &&& ~~~ y)) := by
  refine pure_of pk.rel_Rel_Less_1 ?_
  simp (disch := omega) only [A_rel_Rel_Less_1, wp, Nat.reduceAdd, Nat.reduceMul, Nat.reduceSub, rl]
def orR (R S : Rw) : Rw := fun a => R a ||| S a
def andR (R S : Rw) : Rw := fun a => R a &&& S a
def lessR (R S : Rw) : Rw := fun a => R a &&& ~~~ S a
theorem sp_or (pk : Pk_rel F) {n m : Nat} (hn : n ≤ 40) (hm : m ≤ 40) (R S : Rw) : pureS F 24 [.ptr (relC n R), .ptr (relC m S)] = some (.ptr (relC (max n m) (orR R S))) := by
  refine pure_of pk.rel_Rel_Or ?_
  simp (disch := omega) only [A_rel_Rel_Or, wp, Nat.reduceAdd, Nat.reduceMul, Nat.reduceSub, rl, sp_by pk hn hm R S (sp_or1 pk)]
  rfl
theorem sp_and (pk : Pk_rel F) {n m : Nat} (hn : n ≤ 40) (hm : m ≤ 40) (R S : Rw) : pureS F 18 [.ptr (relC n R), .ptr (relC m S)] = some (.ptr (relC (max n m) (andR R S))) := by
  refine pure_of pk.rel_Rel_And ?_
  simp (disch := omega) only [A_rel_Rel_And, wp, Nat.reduceAdd, Nat.reduceMul, Nat.reduceSub, rl, sp_by pk hn hm R S (sp_and1 pk)]
  rfl
theorem sp_less (ls : RelLs F) (pk : Pk_rel F) {n m : Nat} (hn : n ≤ 40) (hm : m ≤ 40) (R S : Rw) : pureS F 26 [.ptr (relC n R), .ptr (relC m S)] = some (.ptr (relC (max n m) (lessR R S))) := by
  refine pure_of ls.rel_Rel_Less ?_
  simp (disch := omega) only [A_rel_Rel_Less, wp, Nat.reduceAdd, Nat.reduceMul, Nat.reduceSub, rl, sp_by pk hn hm R S (sp_less1 ls)]
  rfl
theorem sp_in (ls : RelLs F) (pk : Pk_rel F) {n m : Nat} (hn : n ≤ 40) (hm : m ≤ 40) (R S : Rw) : pureS F 22 [.ptr (relC n R), .ptr (relC m S)] = some (.b (noneR (lessR R S))) := by
  refine pure_of ls.rel_Rel_In ?_
  simp (disch := omega) only [A_rel_Rel_In, wp, Nat.reduceAdd, Nat.reduceMul, Nat.reduceSub, rl, sp_less ls pk hn hm]

/-! ### Then, Back -/
def stepT (n a : Nat) (R S : Rw) (T : Rw) (b : Nat) : Rw := if has n R a b then upd T a (T a ||| S b) else T
def rowT (n a k : Nat) (R S T : Rw) : Rw := (List.range k).foldl (stepT n a R S) T
def thenK (n k : Nat) (R S : Rw) : Rw := (List.range k).foldl (fun T a => rowT n a n R S T) (fun _ => 0)
def thenR (n : Nat) (R S : Rw) : Rw := thenK n n R S
theorem rowT_succ (n a k R S T) : rowT n a (k + 1) R S T = stepT n a R S (rowT n a k R S T) k := by simp [rowT, List.range_succ]
theorem thenK_succ (n k R S) : thenK n (k + 1) R S = rowT n k n R S (thenK n k R S) := by simp [thenK, List.range_succ]
set_option maxHeartbeats 1000000 in
theorem sp_then (pk : Pk_rel F) {n m : Nat} (hn : n ≤ 40) (hm : m ≤ 40) (R S : Rw) : pureS F 23 [.ptr (relC n R), .ptr (relC m S)] = some (.ptr (relC (max n m) (thenR n R S))) := by
  refine pure_of pk.rel_Rel_Then ?_
  have hz : AV.i .i64 (max n m : Nat) :: List.replicate 40 (.i .u64 0) = relC (max n m) (thenK n 0 R S) := rfl
  simp (disch := omega) only [A_rel_Rel_Then, wp, Nat.reduceAdd, Nat.reduceMul, Nat.reduceSub, rl, maxI, hz, List.all_append, List.all_replicate]
  refine W_loop (fun q e g => ∃ k, q = n - k ∧ k ≤ n ∧ e 0 = .ptr (relC n R) ∧ e 1 = .ptr (relC m S) ∧ e 22 = .i .i64 n ∧ e 23 = .i .i64 k ∧ e 5 = .mp 11 0 ∧ g.hp 11 = some (.cells (relC (max n m) (thenK n k R S)) false) ∧ 11 < g.nx) n ?_ ?_
  · refine ⟨0, rfl, Nat.zero_le _, ?_⟩
    simp (disch := omega) only [wp, Nat.reduceAdd, Nat.reduceMul, Nat.reduceSub]
    exact ⟨rfl, by omega⟩
  · rintro q e g ⟨k, rfl, hk, h0, h1, h22, h23, h5, hg, hnx⟩
    by_cases hk' : k < n
    · have hk1 : (k : Int) < n := by omega
      have hw := succ_wrap (k := k) (by omega)
      simp (disch := omega) only [wp, Nat.reduceAdd, Nat.reduceMul, Nat.reduceSub, h0, h1, h22, h23, h5, hk1, rl]
      refine W_loop (fun q e g => ∃ j, q = n - j ∧ j ≤ n ∧ e 0 = .ptr (relC n R) ∧ e 1 = .ptr (relC m S) ∧ e 22 = .i .i64 n ∧ e 23 = .i .i64 k ∧ e 6 = .i .i64 k ∧ e 29 = .i .i64 n ∧ e 30 = .i .i64 j ∧ e 5 = .mp 11 0 ∧ g.hp 11 = some (.cells (relC (max n m) (rowT n k j R S (thenK n k R S))) false) ∧ 11 < g.nx) n ?_ ?_
      · refine ⟨0, rfl, Nat.zero_le _, ?_⟩
        simp (disch := omega) only [wp, Nat.reduceAdd, Nat.reduceMul, Nat.reduceSub, h0, h1, h22, h23, h5, hg]
        exact ⟨rfl, rfl, by omega⟩
      · rintro q e g ⟨j, rfl, hj, h0, h1, h22, h23, h6, h29, h30, h5, hg, hnx⟩
        by_cases hj' : j < n
        · have hj1 : (j : Int) < n := by omega
          have hwj := succ_wrap (k := j) (by omega)
          by_cases hh : has n R k j = true
          · simp (disch := omega) only [wp, Nat.reduceAdd, Nat.reduceMul, Nat.reduceSub, h0, h1, h22, h23, h6, h29, h30, h5, hj1, hg, rl, sp_has pk hn, hh, hwj]
            refine ⟨n - (j + 1), ?_, j + 1, rfl, by omega, rfl, ?_, by first | omega | (dsimp only; omega)⟩
            · omega
            · rw [rowT_succ, stepT, if_pos hh]
          · simp (disch := omega) only [wp, Nat.reduceAdd, Nat.reduceMul, Nat.reduceSub, h0, h1, h22, h23, h6, h29, h30, h5, hj1, hg, rl, sp_has pk hn, hh, hwj]
            refine ⟨n - (j + 1), ?_, j + 1, rfl, by omega, rfl, ?_, by first | omega | (dsimp only; omega)⟩
            · omega
            · rw [rowT_succ, stepT, if_neg hh]
        · obtain rfl : j = n := by omega
          have hj1 : ¬ ((j : Int) < j) := by omega
          simp (disch := omega) only [wp, Nat.reduceAdd, Nat.reduceMul, Nat.reduceSub, h0, h1, h22, h23, h6, h29, h30, h5, hj1, hg, hw]
          refine ⟨j - (k + 1), ?_, k + 1, rfl, by omega, rfl, ?_, by first | omega | (dsimp only; omega)⟩
          · omega
          · rw [thenK_succ]
    · obtain rfl : k = n := by omega
      have hk1 : ¬ ((k : Int) < k) := by omega
      simp (disch := omega) only [wp, Nat.reduceAdd, Nat.reduceMul, Nat.reduceSub, h0, h1, h22, h23, h5, hk1, hg, rl]
      rfl

def stepB (T : Rw) (p : Int × Int) : Rw := upd T p.2.toNat (T p.2.toNat ||| bit p.1.toNat)
def backL (l : List (Int × Int)) : Rw := l.foldl stepB (fun _ => 0)
def backR (n : Nat) (R : Rw) : Rw := backL (pairsR n R)
theorem backL_take {l : List (Int × Int)} {k : Nat} (h : k < l.length) : backL (l.take (k + 1)) = stepB (backL (l.take k)) (l.getD k (0, 0)) := by
  unfold backL
  rw [List.take_add_one, List.foldl_append, List.getElem?_eq_getElem h, List.getD_eq_getElem?_getD, List.getElem?_eq_getElem h]
  rfl
theorem pairsR_mem {n : Nat} {R : Rw} {p : Int × Int} (h : p ∈ pairsR n R) : 0 ≤ p.1 ∧ p.1 < n ∧ 0 ≤ p.2 ∧ p.2 < n := by
  simp only [pairsR, pairsK, rowPr, List.mem_flatMap, List.mem_map, List.mem_filter, List.mem_range] at h
  obtain ⟨a, ha, b, ⟨hb, _⟩, rfl⟩ := h
  simp only
  omega
theorem pairsK_len (n k : Nat) (R : Rw) : (pairsK n k R).length ≤ k * n := by
  induction k with
  | zero => simp [pairsK]
  | succ k ih =>
    rw [pairsK_succ, List.length_append, Nat.succ_mul]
    have : (rowPr n R k n).length ≤ n := by
      unfold rowPr
      rw [List.length_map]
      exact Nat.le_trans (List.length_filter_le _ _) (by simp)
    omega
theorem pairsR_len {n : Nat} (hn : n ≤ 40) (R : Rw) : (pairsR n R).length ≤ 1600 := by
  have h1 := pairsK_len n n R
  have h2 : n * n ≤ 40 * 40 := Nat.mul_le_mul hn hn
  show (pairsK n n R).length ≤ 1600
  omega
set_option maxHeartbeats 1000000 in
theorem sp_back (hbk : F 25 = some A_rel_Rel_Back) (pk : Pk_rel F) {n : Nat} (hn : n ≤ 40) (R : Rw) : pureS F 25 [.ptr (relC n R)] = some (.ptr (relC n (backR n R))) := by
  refine pure_of hbk ?_
  have hz : AV.i .i64 n :: List.replicate 40 (.i .u64 0) = relC n (fun _ => 0) := rfl
  have hlen := pairsR_len hn R
  simp (disch := omega) only [A_rel_Rel_Back, wp, Nat.reduceAdd, Nat.reduceMul, Nat.reduceSub, rl, hz, List.all_append, List.all_replicate, sp_pairs pk hn]
  generalize hL : pairsR n R = L at hlen
  refine W_loop (fun q e g => ∃ k, q = L.length - k ∧ k ≤ L.length ∧ e 13 = .sl (pairsC L) L.length .non ∧ e 14 = .i .i64 L.length ∧ e 15 = .i .i64 k ∧ e 3 = .mp 6 0 ∧ g.hp 6 = some (.cells (relC n (backL (L.take k))) false) ∧ 6 < g.nx) L.length ?_ ?_
  · refine ⟨0, rfl, Nat.zero_le _, ?_⟩
    simp (disch := omega) only [wp, Nat.reduceAdd, Nat.reduceMul, Nat.reduceSub]
    exact ⟨rfl, rfl, by omega⟩
  · rintro q e g ⟨k, rfl, hk, h13, h14, h15, h3, hg, hnx⟩
    by_cases hk' : k < L.length
    · have hk1 : (k : Int) < L.length := by omega
      have hw := succ_wrap (k := k) (by omega)
      have hp := pairs_part hk'
      have ht := backL_take hk'
      have hm : L.getD k (0, 0) ∈ pairsR n R := by
        rw [hL, List.getD_eq_getElem?_getD, List.getElem?_eq_getElem hk']
        exact List.getElem_mem hk'
      obtain ⟨m1, m2, m3, m4⟩ := pairsR_mem hm
      generalize L.getD k (0, 0) = p at hp ht m1 m2 m3 m4
      obtain ⟨a, b⟩ := p
      simp only at m1 m2 m3 m4
      have n1 : 6 ≠ g.nx + 1 + 2 := by omega
      simp (disch := omega) only [wp, Nat.reduceAdd, Nat.reduceMul, Nat.reduceSub, h13, h14, h15, h3, hk1, hp, hg, rl, hw]
      refine ⟨L.length - (k + 1), ?_, k + 1, rfl, by omega, rfl, ?_, by first | omega | (dsimp only; omega)⟩
      · omega
      · rw [ht]
        rfl
    · obtain rfl : k = L.length := by omega
      have hk1 : ¬ ((L.length : Int) < L.length) := by omega
      simp (disch := omega) only [wp, Nat.reduceAdd, Nat.reduceMul, Nat.reduceSub, h13, h14, h15, h3, hk1, hg, rl, List.take_length]
      rw [← hL]; rfl
end Go.Ab
end
section
/- Relations, plainly: what each of the functions does to 'is a pair'. No program in sight. -/
set_option linter.unusedVariables false
set_option linter.unusedSimpArgs false
namespace Go.Ab
/-- 'a', 'b' are a pair, asx the bits have it. -/
def hb (R : Rw) (a b : Nat) : Bool := (R a).getLsbD b
def hN (n : Nat) (R : Rw) (a b : Nat) : Bool := decide (a < n) && decide (b < n) && hb R a b
/-- No bit beyond the places. -/
def Wf (n : Nat) (R : Rw) : Prop := ∀ a b, hb R a b = true → a < n ∧ b < n
theorem has_N (n : Nat) (R : Rw) (a b : Nat) : has n R a b = hN n R a b := by
  unfold has hN hb
  have : decide (0 ≤ (a : Int) ∧ (a : Int) < n ∧ 0 ≤ (b : Int) ∧ (b : Int) < n) = (decide (a < n) && decide (b < n)) := by
    rw [Bool.eq_iff_iff]; simp
  rw [this]; rfl
theorem has_out {n : Nat} {R : Rw} {a b : Int} (h : ¬ (0 ≤ a ∧ a < n ∧ 0 ≤ b ∧ b < n)) : has n R a b = false := by
  unfold has; rw [decide_eq_false h]; rfl
theorem hN_wf {n : Nat} {R : Rw} (h : Wf n R) (a b : Nat) : hN n R a b = hb R a b := by
  unfold hN
  cases hh : hb R a b with
  | false => simp
  | true => obtain ⟨h1, h2⟩ := h a b hh; simp [h1, h2]
theorem hN_lt {n : Nat} {R : Rw} {a b : Nat} (h : hN n R a b = true) : a < n ∧ b < n := by
  simp [hN] at h; omega
theorem rw_ext {R S : Rw} (h : ∀ a b, b < 64 → hb R a b = hb S a b) : R = S := by
  funext a
  exact BitVec.eq_of_getLsbD_eq fun b hb' => h a b hb'
theorem bit_get {a b : Nat} (ha : a < 64) : (bit a).getLsbD b = decide (b = a) := by
  unfold bit
  rw [BitVec.getLsbD_shiftLeft]
  by_cases h : b = a
  · subst h; simp [ha]
  · by_cases h2 : b < a
    · simp [h, h2]
    · have : b - a ≠ 0 := by omega
      simp [h, h2]
      intro _
      omega
theorem hb_upd (R : Rw) (x : BitVec 64) (c a b : Nat) : hb (upd R c x) a b = if a = c then x.getLsbD b else hb R a b := by
  unfold hb upd; split <;> rfl
theorem hb_zero (a b : Nat) : hb (fun _ => 0) a b = false := by simp [hb]

theorem hb_add {n : Nat} (hn : n ≤ 40) (R : Rw) (p : Int × Int) (a b : Nat) : hb (addR n R p) a b = (hb R a b || (inR n p && decide (p = ((a : Int), (b : Int))))) := by
  unfold addR
  by_cases h : inR n p = true
  · rw [if_pos h, hb_upd, h]
    obtain ⟨x, y⟩ := p
    simp only [inR, decide_eq_true_eq] at h
    by_cases ha : a = x.toNat
    · subst ha
      rw [if_pos rfl, BitVec.getLsbD_or, bit_get (by omega)]
      congr 1
      simp only [Bool.true_and]
      rw [decide_eq_decide]
      simp only [Prod.mk.injEq]
      omega
    · rw [if_neg ha]
      have : ¬ ((x, y) = ((a : Int), (b : Int))) := by simp only [Prod.mk.injEq]; omega
      simp [this]
  · rw [if_neg h]
    simp only [Bool.not_eq_true] at h
    simp [h]
theorem hb_new {n : Nat} (hn : n ≤ 40) (l : List (Int × Int)) (a b : Nat) : hb (newR n l) a b = (decide (a < n) && decide (b < n) && l.any fun p => decide (p = ((a : Int), (b : Int)))) := by
  have key : ∀ (l : List (Int × Int)) (R : Rw), hb (l.foldl (addR n) R) a b = (hb R a b || (decide (a < n) && decide (b < n) && l.any fun p => decide (p = ((a : Int), (b : Int))))) := by
    intro l
    induction l with
    | nil => intro R; simp
    | cons p l ih =>
      intro R
      rw [List.foldl_cons, ih, hb_add hn, List.any_cons]
      by_cases hp : p = ((a : Int), (b : Int))
      · subst hp
        have : inR n ((a : Int), (b : Int)) = (decide (a < n) && decide (b < n)) := by
          unfold inR; rw [Bool.eq_iff_iff]; simp
        rw [this]
        cases hb R a b <;> cases decide (a < n) <;> cases decide (b < n) <;> simp
      · simp [hp]
  unfold newR
  rw [key l, hb_zero]; rfl
theorem wf_new {n : Nat} (hn : n ≤ 40) (l : List (Int × Int)) : Wf n (newR n l) := by
  intro a b h
  rw [hb_new hn] at h
  simp at h; omega
theorem hb_or (R S : Rw) (a b : Nat) : hb (orR R S) a b = (hb R a b || hb S a b) := by simp [hb, orR]
theorem hb_and (R S : Rw) (a b : Nat) : hb (andR R S) a b = (hb R a b && hb S a b) := by simp [hb, andR]
theorem hb_less (R S : Rw) (a b : Nat) : hb (lessR R S) a b = (hb R a b && !hb S a b) := by
  unfold hb lessR
  rw [BitVec.getLsbD_and, BitVec.getLsbD_not]
  by_cases h : b < 64
  · simp [h]
  · simp [BitVec.getLsbD_of_ge (R a) b (by omega)]
theorem wf_or {n : Nat} {R S : Rw} (h : Wf n R) (k : Wf n S) : Wf n (orR R S) := fun a b hh => by
  rw [hb_or, Bool.or_eq_true] at hh; exact hh.elim (h a b) (k a b)
theorem wf_and {n : Nat} {R S : Rw} (h : Wf n R) : Wf n (andR R S) := fun a b hh => by
  rw [hb_and, Bool.and_eq_true] at hh; exact h a b hh.1
theorem wf_less {n : Nat} {R S : Rw} (h : Wf n R) : Wf n (lessR R S) := fun a b hh => by
  rw [hb_less, Bool.and_eq_true] at hh; exact h a b hh.1
theorem noneR_iff {n : Nat} {R : Rw} (hn : n ≤ 40) (h : Wf n R) : noneR R = true ↔ ∀ a b, hb R a b = false := by
  unfold noneR
  rw [List.all_eq_true]
  simp only [List.mem_range, beq_iff_eq]
  constructor
  · intro hh a b
    by_cases ha : a < 40
    · unfold hb; rw [hh a ha]; simp
    · cases hc : hb R a b with
      | false => rfl
      | true => obtain ⟨h1, h2⟩ := h a b hc; omega
  · intro hh a _
    refine BitVec.eq_of_getLsbD_eq fun b _ => ?_
    have := hh a b
    unfold hb at this
    rw [this]; simp
theorem in_iff {n : Nat} {R S : Rw} (hn : n ≤ 40) (h : Wf n R) : noneR (lessR R S) = true ↔ ∀ a b, hb R a b = true → hb S a b = true := by
  rw [noneR_iff hn (wf_less h)]
  simp only [hb_less]
  constructor
  · intro hh a b h1
    have := hh a b
    rw [h1] at this
    simpa using this
  · intro hh a b
    cases h1 : hb R a b with
    | false => rfl
    | true => simp [hh a b h1]

theorem hb_maybeK (R : Rw) (k a b : Nat) (hk : k ≤ 64) : hb (maybeK k R) a b = (hb R a b || (decide (a < k) && decide (b = a))) := by
  induction k with
  | zero => simp [maybeK]
  | succ k ih =>
    rw [maybeK_succ, hb_upd]
    by_cases h : a = k
    · subst h
      rw [if_pos rfl, BitVec.getLsbD_or, bit_get (by omega)]
      have := ih (by omega)
      unfold hb at this ⊢
      rw [this]; simp
    · rw [if_neg h, ih (by omega)]
      have : decide (a < k) = decide (a < k + 1) := by rw [decide_eq_decide]; omega
      rw [this]
theorem wf_maybe {n : Nat} {R : Rw} (hn : n ≤ 40) (h : Wf n R) : Wf n (maybeK n R) := fun a b hh => by
  rw [hb_maybeK _ _ _ _ (by omega)] at hh
  simp at hh
  rcases hh with hh | hh
  · exact h a b hh
  · omega

/-! ### Then -/
theorem hb_rowT (n a : Nat) (R S T : Rw) (k : Nat) (x y : Nat) : hb (rowT n a k R S T) x y = (hb T x y || (decide (x = a) && (List.range k).any fun b => hN n R a b && hb S b y)) := by
  induction k with
  | zero => simp [rowT]
  | succ k ih =>
    rw [rowT_succ, stepT, List.range_succ, List.any_append, has_N]
    by_cases hh : hN n R a k = true
    · rw [if_pos hh, hb_upd]
      by_cases hx : x = a
      · subst hx
        rw [if_pos rfl, BitVec.getLsbD_or]
        have := ih
        unfold hb at this ⊢
        rw [this]
        simp [hh, Bool.or_assoc, hb]
      · rw [if_neg hx, ih]; simp [hx]
    · rw [if_neg hh, ih]
      simp [hh]
theorem hb_thenK (n : Nat) (R S : Rw) (k : Nat) (x y : Nat) : hb (thenK n k R S) x y = (decide (x < k) && (List.range n).any fun b => hN n R x b && hb S b y) := by
  induction k with
  | zero => simp [thenK, hb]
  | succ k ih =>
    rw [thenK_succ, hb_rowT, ih]
    by_cases hx : x = k
    · subst hx; simp
    · have : decide (x < k) = decide (x < k + 1) := by rw [decide_eq_decide]; omega
      rw [this]; simp [hx]
theorem hb_then {n : Nat} {R S : Rw} (hR : Wf n R) (a b : Nat) : hb (thenR n R S) a b = true ↔ ∃ c, hb R a c = true ∧ hb S c b = true := by
  unfold thenR
  rw [hb_thenK]
  simp only [Bool.and_eq_true, decide_eq_true_eq, List.any_eq_true, List.mem_range, hN_wf hR]
  constructor
  · rintro ⟨_, c, _, h1, h2⟩; exact ⟨c, h1, h2⟩
  · rintro ⟨c, h1, h2⟩; obtain ⟨h3, h4⟩ := hR a c h1; exact ⟨h3, c, h4, h1, h2⟩
theorem wf_then {n : Nat} {R S : Rw} (hR : Wf n R) (hS : Wf n S) : Wf n (thenR n R S) := fun a b h => by
  obtain ⟨c, h1, h2⟩ := (hb_then hR a b).1 h
  exact ⟨(hR a c h1).1, (hS c b h2).2⟩

/-! ### Back -/
theorem mem_pairsR {n : Nat} {R : Rw} {p : Int × Int} : p ∈ pairsR n R ↔ ∃ a b : Nat, p = ((a : Int), (b : Int)) ∧ hN n R a b = true := by
  simp only [pairsR, pairsK, rowPr, List.mem_flatMap, List.mem_map, List.mem_filter, List.mem_range]
  constructor
  · rintro ⟨a, ha, b, ⟨hb, hh⟩, rfl⟩
    exact ⟨a, b, rfl, by rw [← has_N]; exact hh⟩
  · rintro ⟨a, b, rfl, hh⟩
    obtain ⟨h1, h2⟩ := hN_lt hh
    exact ⟨a, h1, b, ⟨h2, by rw [has_N]; exact hh⟩, rfl⟩
theorem hb_backL (a b : Nat) : ∀ (l : List (Int × Int)) (T : Rw), (∀ p ∈ l, 0 ≤ p.1 ∧ p.1 < 40 ∧ 0 ≤ p.2 ∧ p.2 < 40) → hb (l.foldl stepB T) a b = (hb T a b || l.any fun p => decide (p = ((b : Int), (a : Int))))
  | [], T, _ => by simp
  | p :: l, T, h => by
    rw [List.foldl_cons, hb_backL a b l _ (fun q hq => h q (List.mem_cons_of_mem _ hq)), List.any_cons, ← Bool.or_assoc]
    congr 1
    obtain ⟨x, y⟩ := p
    have := h (x, y) (List.mem_cons_self ..)
    simp only at this
    unfold stepB
    rw [hb_upd]
    by_cases ha : a = y.toNat
    · subst ha
      rw [if_pos rfl, BitVec.getLsbD_or, bit_get (by omega)]
      unfold hb
      congr 1
      rw [decide_eq_decide]
      simp only [Prod.mk.injEq]
      omega
    · rw [if_neg ha]
      have : ¬ ((x, y) = ((b : Int), (a : Int))) := by simp only [Prod.mk.injEq]; omega
      simp [this]
theorem hb_back {n : Nat} {R : Rw} (hn : n ≤ 40) (a b : Nat) : hb (backR n R) a b = hN n R b a := by
  unfold backR backL
  rw [hb_backL a b _ _ (fun p hp => by have := pairsR_mem hp; omega), hb_zero, Bool.false_or, Bool.eq_iff_iff, List.any_eq_true]
  simp only [decide_eq_true_eq]
  constructor
  · rintro ⟨p, hp, rfl⟩
    obtain ⟨x, y, hxy, hh⟩ := mem_pairsR.1 hp
    simp only [Prod.mk.injEq] at hxy
    obtain ⟨h1, h2⟩ := hxy
    rw [show b = x by omega, show a = y by omega]; exact hh
  · intro hh
    exact ⟨_, mem_pairsR.2 ⟨b, a, rfl, hh⟩, rfl⟩
theorem wf_back {n : Nat} {R : Rw} (hn : n ≤ 40) : Wf n (backR n R) := fun a b h => by
  rw [hb_back hn] at h; obtain ⟨h1, h2⟩ := hN_lt h; exact ⟨h2, h1⟩

/-! ### Plus: Warshall -/
inductive Thru (r : Nat → Nat → Prop) (k : Nat) : Nat → Nat → Prop
  | one {a b} : r a b → Thru r k a b
  | join {a c b} : c < k → Thru r k a c → Thru r k c b → Thru r k a b
theorem Thru.mono {r : Nat → Nat → Prop} {k k' : Nat} (h : k ≤ k') {a b : Nat} (t : Thru r k a b) : Thru r k' a b := by
  induction t with
  | one h => exact .one h
  | join hc _ _ ih1 ih2 => exact .join (by omega) ih1 ih2
theorem thru_succ {r : Nat → Nat → Prop} {k a b : Nat} : Thru r (k + 1) a b ↔ Thru r k a b ∨ (Thru r k a k ∧ Thru r k k b) := by
  constructor
  · intro t
    induction t with
    | one h => exact .inl (.one h)
    | @join a c b hc _ _ ih1 ih2 =>
      by_cases h : c < k
      · rcases ih1 with h1 | ⟨h1, h2⟩
        · rcases ih2 with h3 | ⟨h3, h4⟩
          · exact .inl (.join h h1 h3)
          · exact .inr ⟨.join h h1 h3, h4⟩
        · rcases ih2 with h3 | ⟨h3, h4⟩
          · exact .inr ⟨h1, .join h h2 h3⟩
          · exact .inr ⟨h1, h4⟩
      · obtain rfl : c = k := by omega
        refine .inr ⟨?_, ?_⟩
        · rcases ih1 with h1 | ⟨h1, _⟩ <;> exact h1
        · rcases ih2 with h1 | ⟨_, h1⟩ <;> exact h1
  · rintro (h | ⟨h1, h2⟩)
    · exact h.mono (Nat.le_succ k)
    · exact .join (Nat.lt_succ_self k) (h1.mono (Nat.le_succ k)) (h2.mono (Nat.le_succ k))
theorem thru_zero {r : Nat → Nat → Prop} {a b : Nat} : Thru r 0 a b ↔ r a b := by
  constructor
  · intro t; cases t with
    | one h => exact h
    | join h _ _ => exact absurd h (Nat.not_lt_zero _)
  · exact .one
theorem hb_rowP {n b : Nat} (hb' : b < n) (R : Rw) (hR : Wf n R) (k : Nat) (hk : k ≤ n) (x y : Nat) : hb (rowP n b k R) x y = (hb R x y || (decide (x < k) && hb R x b && hb R b y)) := by
  induction k generalizing x y with
  | zero => simp [rowP]
  | succ k ih =>
    have ih := fun x y => ih (by omega) x y
    have hwf : Wf n (rowP n b k R) := fun x y h => by
      rw [ih] at h
      simp at h
      rcases h with h | ⟨⟨_, h1⟩, h2⟩
      · exact hR x y h
      · exact ⟨(hR x b h1).1, (hR b y h2).2⟩
    have hrow : rowP n b k R b = R b := by
      refine BitVec.eq_of_getLsbD_eq fun y _ => ?_
      have := ih b y
      unfold hb at this
      rw [this]
      cases (R b).getLsbD y <;> cases (R b).getLsbD b <;> simp
    rw [rowP_succ, stepP, has_N, hN_wf hwf, ih k b]
    have hkb : (hb R k b || (decide (k < k) && hb R k b && hb R b b)) = hb R k b := by simp
    rw [hkb]
    by_cases hh : hb R k b = true
    · rw [if_pos hh, hb_upd]
      by_cases hx : x = k
      · subst hx
        rw [if_pos rfl, BitVec.getLsbD_or, hrow]
        have := ih x y
        unfold hb at this hh ⊢
        rw [this]
        simp [hh]
      · rw [if_neg hx, ih]
        have : decide (x < k) = decide (x < k + 1) := by rw [decide_eq_decide]; omega
        rw [this]
    · rw [if_neg hh, ih]
      by_cases hx : x = k
      · subst hx; simp [hh]
      · have : decide (x < k) = decide (x < k + 1) := by rw [decide_eq_decide]; omega
        rw [this]
theorem wf_plusK {n : Nat} {R : Rw} (hR : Wf n R) : ∀ k, k ≤ n → Wf n (plusK n k R)
  | 0, _ => hR
  | k + 1, h => fun x y hh => by
    have ih := wf_plusK hR k (by omega)
    rw [plusK_succ, hb_rowP (by omega) _ ih n (Nat.le_refl _)] at hh
    simp at hh
    rcases hh with hh | ⟨⟨h0, h1⟩, h2⟩
    · exact ih x y hh
    · exact ⟨h0, (ih k y h2).2⟩
theorem hb_plusK {n : Nat} {R : Rw} (hR : Wf n R) : ∀ k, k ≤ n → ∀ x y, hb (plusK n k R) x y = true ↔ Thru (fun a b => hb R a b = true) k x y
  | 0, _, x, y => by
    show hb R x y = true ↔ _
    exact (thru_zero (r := fun a b => hb R a b = true)).symm
  | k + 1, h, x, y => by
    have ih := hb_plusK hR k (by omega)
    have hw := wf_plusK hR k (by omega)
    rw [plusK_succ, hb_rowP (by omega) _ hw n (Nat.le_refl _), thru_succ, ← ih, ← ih, ← ih]
    simp only [Bool.or_eq_true, Bool.and_eq_true, decide_eq_true_eq]
    constructor
    · rintro (h1 | ⟨⟨_, h1⟩, h2⟩)
      · exact .inl h1
      · exact .inr ⟨h1, h2⟩
    · rintro (h1 | ⟨h1, h2⟩)
      · exact .inl h1
      · exact .inr ⟨⟨(hw x k h1).1, h1⟩, h2⟩
theorem wf_plus {n : Nat} {R : Rw} (hR : Wf n R) : Wf n (plusR n R) := wf_plusK hR n (Nat.le_refl _)
/-- One step or more. -/
inductive Steps' (r : Nat → Nat → Prop) : Nat → Nat → Prop
  | one {a b} : r a b → Steps' r a b
  | join {a c b} : Steps' r a c → Steps' r c b → Steps' r a b
theorem hb_plus {n : Nat} {R : Rw} (hR : Wf n R) (x y : Nat) : hb (plusR n R) x y = true ↔ Steps' (fun a b => hb R a b = true) x y := by
  show hb (plusK n n R) x y = true ↔ _
  rw [hb_plusK hR n (Nat.le_refl _)]
  constructor
  · intro t
    induction t with
    | one h => exact .one h
    | join _ _ _ ih1 ih2 => exact .join ih1 ih2
  · intro t
    have hlt : ∀ {a b}, Steps' (fun a b => hb R a b = true) a b → a < n ∧ b < n := by
      intro a b t
      induction t with
      | one h => exact hR _ _ h
      | join _ _ ih1 ih2 => exact ⟨ih1.1, ih2.2⟩
    induction t with
    | one h => exact .one h
    | join t1 _ ih1 ih2 => exact .join (hlt t1).2 ih1 ih2
theorem loops_iff {n : Nat} {R : Rw} (hR : Wf n R) : loopsR n R = true ↔ ∃ a, Steps' (fun a b => hb R a b = true) a a := by
  unfold loopsR
  rw [List.any_eq_true]
  simp only [List.mem_range]
  constructor
  · rintro ⟨a, ha, hh⟩
    rw [has_N, hN_wf (wf_plus hR), hb_plus hR] at hh
    exact ⟨a, hh⟩
  · rintro ⟨a, hh⟩
    have h1 := (hb_plus hR a a).2 hh
    refine ⟨a, (wf_plus hR a a h1).1, ?_⟩
    rw [has_N, hN_wf (wf_plus hR)]; exact h1
end Go.Ab
end
section
/- Resolved functions of package xlaw01, written by a program (res.py). -/
namespace Go.Ab
def A_xlaw01_RelLines : AFun := { res := [.t 4], body := (.seq (.reg false [{ dst := some 4, op := .mv (.c (.b false)) }])
 (.seq (.reg false [{ dst := some 12, op := .mv (.t 0) },
  { dst := some 13, op := .call .pure (.c (.fn 10 [] [])) [.t 12, .c (.i .i64 40)] },
  { dst := some 14, op := .bin .add (.c (.i .i64 1)) (.t 13) },
  { dst := some 5, op := .mv (.t 14) }])
 (.seq (.reg false [{ dst := some 6, op := .mv (.c (.sl [] 0 .rig)) }])
 (.seq (.seq (.reg false [{ dst := some 7, op := .mv (.c (.i .i64 0)) }])
 (.blk 0 (.loop (.seq (.seq (.reg false [{ dst := some 15, op := .mv (.t 7) },
  { dst := some 16, op := .bin .add (.t 15) (.c (.i .i64 1)) },
  { dst := some 17, op := .mv (.t 5) },
  { dst := some 18, op := .bin .lss (.t 16) (.t 17) }])
 (.cond (.t 18) .skip
 (.ext 0)))
 (.seq (.blk 1 (.reg false [{ dst := some 21, op := .mv (.t 6) },
  { dst := some 22, op := .mv (.t 7) },
  { dst := some 23, op := .mv (.t 7) },
  { dst := some 24, op := .bin .add (.t 23) (.c (.i .i64 1)) },
  { dst := some 25, op := .build ([.i .i64 0, .i .i64 0]) [(0, 1, .t 22), (1, 1, .t 24)] },
  { dst := some 26, op := .bsl true 1 ([.i .i64 0, .i .i64 0]) [(0, 2, .t 25)] },
  { dst := some 27, op := .app 2 16 (.t 21) (.t 26) },
  { dst := some 6, op := .mv (.t 27) }]))
 (.reg false [{ dst := some 19, op := .mv (.t 7) },
  { dst := some 20, op := .bin .add (.t 19) (.c (.i .i64 1)) },
  { dst := some 7, op := .mv (.t 20) }]))))))
 (.seq (.seq (.reg false [{ dst := some 28, op := .mv (.t 1) }])
 (.cond (.t 28) (.reg false [{ dst := some 29, op := .mv (.t 6) },
  { dst := some 30, op := .mv (.t 5) },
  { dst := some 31, op := .bin .sub (.t 30) (.c (.i .i64 1)) },
  { dst := some 32, op := .build ([.i .i64 0, .i .i64 0]) [(0, 1, .t 31), (1, 1, .c (.i .i64 0))] },
  { dst := some 33, op := .bsl true 1 ([.i .i64 0, .i .i64 0]) [(0, 2, .t 32)] },
  { dst := some 34, op := .app 2 16 (.t 29) (.t 33) },
  { dst := some 6, op := .mv (.t 34) }])
 .skip))
 (.seq (.reg false [{ dst := some 35, op := .mv (.t 5) },
  { dst := some 36, op := .mv (.t 6) },
  { dst := some 37, op := .call .pure (.c (.fn 11 [] [])) [.t 35, .t 36] },
  { dst := some 8, op := .mv (.t 37) }])
 (.seq (.seq (.reg false [{ dst := some 38, op := .mv (.t 8) },
  { dst := some 39, op := .eqn false (.t 38) (.c (.nilp)) }])
 (.cond (.t 39) (.seq (.reg false [{ dst := some 4, op := .mv (.c (.b false)) }])
 .ret)
 .skip))
 (.seq (.reg false [{ dst := some 40, op := .mv (.t 8) },
  { dst := some 41, op := .call .pure (.c (.fn 12 [] [])) [.t 40] },
  { dst := some 9, op := .mv (.t 41) }])
 (.seq (.seq (.reg false [{ dst := some 10, op := .mv (.c (.i .i64 0)) }])
 (.blk 2 (.loop (.seq (.seq (.reg false [{ dst := some 42, op := .mv (.t 10) },
  { dst := some 43, op := .mv (.t 5) },
  { dst := some 44, op := .bin .lss (.t 42) (.t 43) }])
 (.cond (.t 44) .skip
 (.ext 2)))
 (.seq (.blk 3 (.seq (.reg false [{ dst := some 11, op := .mv (.c (.i .i64 0)) }])
 (.blk 4 (.loop (.seq (.seq (.reg false [{ dst := some 47, op := .mv (.t 11) },
  { dst := some 48, op := .mv (.t 5) },
  { dst := some 49, op := .bin .lss (.t 47) (.t 48) }])
 (.cond (.t 49) .skip
 (.ext 4)))
 (.seq (.blk 5 (.seq (.reg false [{ dst := some 52, op := .mv (.t 9) },
  { dst := some 53, op := .mv (.t 10) },
  { dst := some 54, op := .mv (.t 11) },
  { dst := some 55, op := .call .pure (.c (.fn 13 [] [])) [.t 52, .t 53, .t 54] },
  { dst := some 56, op := .mv (.t 10) },
  { dst := some 57, op := .mv (.t 11) },
  { dst := some 58, op := .bin .lss (.t 56) (.t 57) },
  { dst := some 59, op := .mv (.t 58) },
  { dst := some 60, op := .mv (.t 1), grd := some (59, false) },
  { dst := some 61, op := .pick (.t 59) (.c (.b true)) (.t 60) },
  { dst := some 62, op := .eqb true (.t 55) (.t 61) }])
 (.cond (.t 62) (.seq (.reg false [{ dst := some 4, op := .mv (.c (.b false)) }])
 .ret)
 .skip)))
 (.reg false [{ dst := some 50, op := .mv (.t 11) },
  { dst := some 51, op := .bin .add (.t 50) (.c (.i .i64 1)) },
  { dst := some 11, op := .mv (.t 51) }])))))))
 (.reg false [{ dst := some 45, op := .mv (.t 10) },
  { dst := some 46, op := .bin .add (.t 45) (.c (.i .i64 1)) },
  { dst := some 10, op := .mv (.t 46) }]))))))
 (.seq (.reg false [{ dst := some 63, op := .mv (.t 8) },
  { dst := some 64, op := .call .pure (.c (.fn 14 [] [])) [.t 63] },
  { dst := some 65, op := .mv (.t 1) },
  { dst := some 66, op := .eqb false (.t 64) (.t 65) },
  { dst := some 67, op := .mv (.t 66) },
  { dst := some 68, op := .mv (.t 8), grd := some (67, true) },
  { dst := some 69, op := .call .pure (.c (.fn 15 [] [])) [.t 68], grd := some (67, true) },
  { dst := some 70, op := .len (.t 69), grd := some (67, true) },
  { dst := some 71, op := .mv (.t 6), grd := some (67, true) },
  { dst := some 72, op := .len (.t 71), grd := some (67, true) },
  { dst := some 73, op := .bin .eql (.t 70) (.t 72), grd := some (67, true) },
  { dst := some 74, op := .pick (.t 67) (.t 73) (.c (.b false)) },
  { dst := some 75, op := .mv (.t 74) },
  { dst := some 76, op := .mv (.t 8), grd := some (75, true) },
  { dst := some 77, op := .call .pure (.c (.fn 16 [] [])) [.t 76], grd := some (75, true) },
  { dst := some 78, op := .call .pure (.c (.fn 17 [] [])) [.t 77], grd := some (75, true) },
  { dst := some 79, op := .mv (.t 5), grd := some (75, true) },
  { dst := some 80, op := .bin .eql (.t 78) (.t 79), grd := some (75, true) },
  { dst := some 81, op := .pick (.t 75) (.t 80) (.c (.b false)) },
  { dst := some 82, op := .mv (.t 81) },
  { dst := some 83, op := .mv (.t 8), grd := some (82, true) },
  { dst := some 84, op := .call .pure (.c (.fn 16 [] [])) [.t 83], grd := some (82, true) },
  { dst := some 85, op := .mv (.t 5), grd := some (82, true) },
  { dst := some 86, op := .call .pure (.c (.fn 11 [] [])) [.t 85, .c (.sl [] 0 .rig)], grd := some (82, true) },
  { dst := some 87, op := .call .pure (.c (.fn 16 [] [])) [.t 86], grd := some (82, true) },
  { dst := some 88, op := .call .pure (.c (.fn 18 [] [])) [.t 84, .t 87], grd := some (82, true) },
  { dst := some 89, op := .call .pure (.c (.fn 15 [] [])) [.t 88], grd := some (82, true) },
  { dst := some 90, op := .len (.t 89), grd := some (82, true) },
  { dst := some 91, op := .mv (.t 5), grd := some (82, true) },
  { dst := some 92, op := .bin .eql (.t 90) (.t 91), grd := some (82, true) },
  { dst := some 93, op := .pick (.t 82) (.t 92) (.c (.b false)) },
  { dst := some 94, op := .mv (.t 93) },
  { dst := some 95, op := .call .pure (.c (.fn 19 [] [])) [], grd := some (94, true) },
  { dst := some 96, op := .pick (.t 94) (.t 95) (.c (.b false)) },
  { dst := some 4, op := .mv (.t 96) }])
 .ret)))))))))) }
def A_xlaw01_RelAlgebra : AFun := { res := [.t 8], body := (.seq (.reg false [{ dst := some 8, op := .mv (.c (.b false)) }])
 (.seq (.reg false [{ dst := some 15, op := .mv (.t 0) },
  { dst := some 16, op := .call .pure (.c (.fn 10 [] [])) [.t 15, .c (.i .i64 12)] },
  { dst := some 17, op := .bin .add (.c (.i .i64 1)) (.t 16) },
  { dst := some 9, op := .mv (.t 17) }])
 (.seq (.reg false [{ dst := some 18, op := .mv (.t 9) },
  { dst := some 19, op := .mv (.t 1) },
  { dst := some 20, op := .call .pure (.c (.fn 20 [] [])) [.t 18, .t 19] },
  { dst := some 21, op := .mv (.t 9) },
  { dst := some 22, op := .mv (.t 2) },
  { dst := some 23, op := .call .pure (.c (.fn 20 [] [])) [.t 21, .t 22] },
  { dst := some 24, op := .mv (.t 9) },
  { dst := some 25, op := .mv (.t 3) },
  { dst := some 26, op := .call .pure (.c (.fn 20 [] [])) [.t 24, .t 25] },
  { dst := some 10, op := .mv (.t 20) },
  { dst := some 11, op := .mv (.t 23) },
  { dst := some 12, op := .mv (.t 26) }])
 (.seq (.seq (.reg false [{ dst := some 27, op := .mv (.t 10) },
  { dst := some 28, op := .eqn false (.t 27) (.c (.nilp)) },
  { dst := some 29, op := .mv (.t 28) },
  { dst := some 30, op := .mv (.t 11), grd := some (29, false) },
  { dst := some 31, op := .eqn false (.t 30) (.c (.nilp)), grd := some (29, false) },
  { dst := some 32, op := .pick (.t 29) (.c (.b true)) (.t 31) },
  { dst := some 33, op := .mv (.t 32) },
  { dst := some 34, op := .mv (.t 12), grd := some (33, false) },
  { dst := some 35, op := .eqn false (.t 34) (.c (.nilp)), grd := some (33, false) },
  { dst := some 36, op := .pick (.t 33) (.c (.b true)) (.t 35) }])
 (.cond (.t 36) (.seq (.reg false [{ dst := some 8, op := .mv (.c (.b false)) }])
 .ret)
 .skip))
 (.seq (.reg false [{ dst := some 13, op := .mv (.c (.fn 21 [] [])) }])
 (.seq (.reg false [{ dst := some 37, op := .mv (.t 10) },
  { dst := some 38, op := .call .pure (.c (.fn 12 [] [])) [.t 37] },
  { dst := some 14, op := .mv (.t 38) }])
 (.seq (.reg false [{ dst := some 39, op := .mv (.t 13) },
  { dst := some 40, op := .mv (.t 10) },
  { dst := some 41, op := .mv (.t 11) },
  { dst := some 42, op := .call .pure (.c (.fn 23 [] [])) [.t 40, .t 41] },
  { dst := some 43, op := .mv (.t 12) },
  { dst := some 44, op := .call .pure (.c (.fn 23 [] [])) [.t 42, .t 43] },
  { dst := some 45, op := .mv (.t 10) },
  { dst := some 46, op := .mv (.t 11) },
  { dst := some 47, op := .mv (.t 12) },
  { dst := some 48, op := .call .pure (.c (.fn 23 [] [])) [.t 46, .t 47] },
  { dst := some 49, op := .call .pure (.c (.fn 23 [] [])) [.t 45, .t 48] },
  { dst := some 50, op := .call .pure (.t 39) [.t 44, .t 49] },
  { dst := some 51, op := .mv (.t 50) },
  { dst := some 52, op := .mv (.t 13), grd := some (51, true) },
  { dst := some 53, op := .mv (.t 10), grd := some (51, true) },
  { dst := some 54, op := .mv (.t 11), grd := some (51, true) },
  { dst := some 55, op := .mv (.t 12), grd := some (51, true) },
  { dst := some 56, op := .call .pure (.c (.fn 24 [] [])) [.t 54, .t 55], grd := some (51, true) },
  { dst := some 57, op := .call .pure (.c (.fn 23 [] [])) [.t 53, .t 56], grd := some (51, true) },
  { dst := some 58, op := .mv (.t 10), grd := some (51, true) },
  { dst := some 59, op := .mv (.t 11), grd := some (51, true) },
  { dst := some 60, op := .call .pure (.c (.fn 23 [] [])) [.t 58, .t 59], grd := some (51, true) },
  { dst := some 61, op := .mv (.t 10), grd := some (51, true) },
  { dst := some 62, op := .mv (.t 12), grd := some (51, true) },
  { dst := some 63, op := .call .pure (.c (.fn 23 [] [])) [.t 61, .t 62], grd := some (51, true) },
  { dst := some 64, op := .call .pure (.c (.fn 24 [] [])) [.t 60, .t 63], grd := some (51, true) },
  { dst := some 65, op := .call .pure (.t 52) [.t 57, .t 64], grd := some (51, true) },
  { dst := some 66, op := .pick (.t 51) (.t 65) (.c (.b false)) },
  { dst := some 67, op := .mv (.t 66) },
  { dst := some 68, op := .mv (.t 13), grd := some (67, true) },
  { dst := some 69, op := .mv (.t 10), grd := some (67, true) },
  { dst := some 70, op := .mv (.t 11), grd := some (67, true) },
  { dst := some 71, op := .call .pure (.c (.fn 23 [] [])) [.t 69, .t 70], grd := some (67, true) },
  { dst := some 72, op := .call .pure (.c (.fn 25 [] [])) [.t 71], grd := some (67, true) },
  { dst := some 73, op := .mv (.t 11), grd := some (67, true) },
  { dst := some 74, op := .call .pure (.c (.fn 25 [] [])) [.t 73], grd := some (67, true) },
  { dst := some 75, op := .mv (.t 10), grd := some (67, true) },
  { dst := some 76, op := .call .pure (.c (.fn 25 [] [])) [.t 75], grd := some (67, true) },
  { dst := some 77, op := .call .pure (.c (.fn 23 [] [])) [.t 74, .t 76], grd := some (67, true) },
  { dst := some 78, op := .call .pure (.t 68) [.t 72, .t 77], grd := some (67, true) },
  { dst := some 79, op := .pick (.t 67) (.t 78) (.c (.b false)) },
  { dst := some 80, op := .mv (.t 79) },
  { dst := some 81, op := .mv (.t 13), grd := some (80, true) },
  { dst := some 82, op := .mv (.t 10), grd := some (80, true) },
  { dst := some 83, op := .call .pure (.c (.fn 25 [] [])) [.t 82], grd := some (80, true) },
  { dst := some 84, op := .call .pure (.c (.fn 25 [] [])) [.t 83], grd := some (80, true) },
  { dst := some 85, op := .mv (.t 10), grd := some (80, true) },
  { dst := some 86, op := .call .pure (.t 81) [.t 84, .t 85], grd := some (80, true) },
  { dst := some 87, op := .pick (.t 80) (.t 86) (.c (.b false)) },
  { dst := some 88, op := .mv (.t 87) },
  { dst := some 89, op := .mv (.t 13), grd := some (88, true) },
  { dst := some 90, op := .mv (.t 14), grd := some (88, true) },
  { dst := some 91, op := .call .pure (.c (.fn 12 [] [])) [.t 90], grd := some (88, true) },
  { dst := some 92, op := .mv (.t 14), grd := some (88, true) },
  { dst := some 93, op := .call .pure (.t 89) [.t 91, .t 92], grd := some (88, true) },
  { dst := some 94, op := .pick (.t 88) (.t 93) (.c (.b false)) },
  { dst := some 95, op := .mv (.t 94) },
  { dst := some 96, op := .mv (.t 13), grd := some (95, true) },
  { dst := some 97, op := .mv (.t 14), grd := some (95, true) },
  { dst := some 98, op := .mv (.t 10), grd := some (95, true) },
  { dst := some 99, op := .mv (.t 10), grd := some (95, true) },
  { dst := some 100, op := .mv (.t 14), grd := some (95, true) },
  { dst := some 101, op := .call .pure (.c (.fn 23 [] [])) [.t 99, .t 100], grd := some (95, true) },
  { dst := some 102, op := .call .pure (.c (.fn 24 [] [])) [.t 98, .t 101], grd := some (95, true) },
  { dst := some 103, op := .call .pure (.t 96) [.t 97, .t 102], grd := some (95, true) },
  { dst := some 104, op := .pick (.t 95) (.t 103) (.c (.b false)) },
  { dst := some 105, op := .mv (.t 104) },
  { dst := some 106, op := .mv (.t 13), grd := some (105, true) },
  { dst := some 107, op := .mv (.t 10), grd := some (105, true) },
  { dst := some 108, op := .mv (.t 11), grd := some (105, true) },
  { dst := some 109, op := .call .pure (.c (.fn 18 [] [])) [.t 107, .t 108], grd := some (105, true) },
  { dst := some 110, op := .mv (.t 10), grd := some (105, true) },
  { dst := some 111, op := .mv (.t 10), grd := some (105, true) },
  { dst := some 112, op := .mv (.t 11), grd := some (105, true) },
  { dst := some 113, op := .call .pure (.c (.fn 26 [] [])) [.t 111, .t 112], grd := some (105, true) },
  { dst := some 114, op := .call .pure (.c (.fn 26 [] [])) [.t 110, .t 113], grd := some (105, true) },
  { dst := some 115, op := .call .pure (.t 106) [.t 109, .t 114], grd := some (105, true) },
  { dst := some 116, op := .pick (.t 105) (.t 115) (.c (.b false)) },
  { dst := some 117, op := .mv (.t 116) },
  { dst := some 118, op := .mv (.t 14), grd := some (117, true) },
  { dst := some 119, op := .call .pure (.c (.fn 14 [] [])) [.t 118], grd := some (117, true) },
  { dst := some 120, op := .mv (.t 10), grd := some (117, true) },
  { dst := some 121, op := .call .pure (.c (.fn 14 [] [])) [.t 120], grd := some (117, true) },
  { dst := some 122, op := .eqb false (.t 119) (.t 121), grd := some (117, true) },
  { dst := some 123, op := .pick (.t 117) (.t 122) (.c (.b false)) },
  { dst := some 124, op := .mv (.t 123) },
  { dst := some 125, op := .mv (.t 10), grd := some (124, true) },
  { dst := some 126, op := .call .pure (.c (.fn 14 [] [])) [.t 125], grd := some (124, true) },
  { dst := some 127, op := .mv (.t 10), grd := some (124, true) },
  { dst := some 128, op := .call .pure (.c (.fn 25 [] [])) [.t 127], grd := some (124, true) },
  { dst := some 129, op := .call .pure (.c (.fn 14 [] [])) [.t 128], grd := some (124, true) },
  { dst := some 130, op := .eqb false (.t 126) (.t 129), grd := some (124, true) },
  { dst := some 131, op := .pick (.t 124) (.t 130) (.c (.b false)) },
  { dst := some 132, op := .mv (.t 131) },
  { dst := some 133, op := .call .pure (.c (.fn 19 [] [])) [], grd := some (132, true) },
  { dst := some 134, op := .pick (.t 132) (.t 133) (.c (.b false)) },
  { dst := some 8, op := .mv (.t 134) }])
 .ret))))))) }
def A_xlaw01_RelSizes : AFun := { res := [.t 8], body := (.seq (.reg false [{ dst := some 8, op := .mv (.c (.b false)) }])
 (.seq (.reg false [{ dst := some 14, op := .mv (.t 0) },
  { dst := some 15, op := .mv (.t 2) },
  { dst := some 16, op := .mv (.t 3) },
  { dst := some 17, op := .build ([.i .i64 0, .i .i64 0]) [(0, 1, .t 15), (1, 1, .t 16)] },
  { dst := some 18, op := .bsl true 1 ([.i .i64 0, .i .i64 0]) [(0, 2, .t 17)] },
  { dst := some 19, op := .call .pure (.c (.fn 11 [] [])) [.t 14, .t 18] },
  { dst := some 20, op := .mv (.t 1) },
  { dst := some 21, op := .call .pure (.c (.fn 11 [] [])) [.t 20, .c (.sl [] 0 .rig)] },
  { dst := some 9, op := .mv (.t 19) },
  { dst := some 10, op := .mv (.t 21) }])
 (.seq (.reg false [{ dst := some 22, op := .mv (.t 0) },
  { dst := some 23, op := .mx (.t 22) (.c (.i .i64 0)) },
  { dst := some 24, op := .mn (.t 23) (.c (.i .i64 40)) },
  { dst := some 25, op := .mv (.t 1) },
  { dst := some 26, op := .mx (.t 25) (.c (.i .i64 0)) },
  { dst := some 27, op := .mn (.t 26) (.c (.i .i64 40)) },
  { dst := some 11, op := .mv (.t 24) },
  { dst := some 12, op := .mv (.t 27) }])
 (.seq (.seq (.reg false [{ dst := some 28, op := .mv (.t 9) },
  { dst := some 29, op := .eqn false (.t 28) (.c (.nilp)) },
  { dst := some 30, op := .mv (.t 29) },
  { dst := some 31, op := .mv (.t 10), grd := some (30, false) },
  { dst := some 32, op := .eqn false (.t 31) (.c (.nilp)), grd := some (30, false) },
  { dst := some 33, op := .pick (.t 30) (.c (.b true)) (.t 32) },
  { dst := some 34, op := .mv (.t 33) },
  { dst := some 35, op := .mv (.t 9), grd := some (34, false) },
  { dst := some 36, op := .call .pure (.c (.fn 17 [] [])) [.t 35], grd := some (34, false) },
  { dst := some 37, op := .mv (.t 11), grd := some (34, false) },
  { dst := some 38, op := .bin .neq (.t 36) (.t 37), grd := some (34, false) },
  { dst := some 39, op := .pick (.t 34) (.c (.b true)) (.t 38) },
  { dst := some 40, op := .mv (.t 39) },
  { dst := some 41, op := .mv (.t 10), grd := some (40, false) },
  { dst := some 42, op := .call .pure (.c (.fn 17 [] [])) [.t 41], grd := some (40, false) },
  { dst := some 43, op := .mv (.t 12), grd := some (40, false) },
  { dst := some 44, op := .bin .neq (.t 42) (.t 43), grd := some (40, false) },
  { dst := some 45, op := .pick (.t 40) (.c (.b true)) (.t 44) }])
 (.cond (.t 45) (.seq (.reg false [{ dst := some 8, op := .mv (.c (.b false)) }])
 .ret)
 .skip))
 (.seq (.reg false [{ dst := some 46, op := .mv (.t 2) },
  { dst := some 47, op := .bin .geq (.t 46) (.c (.i .i64 0)) },
  { dst := some 48, op := .mv (.t 47) },
  { dst := some 49, op := .mv (.t 3), grd := some (48, true) },
  { dst := some 50, op := .bin .geq (.t 49) (.c (.i .i64 0)), grd := some (48, true) },
  { dst := some 51, op := .pick (.t 48) (.t 50) (.c (.b false)) },
  { dst := some 52, op := .mv (.t 51) },
  { dst := some 53, op := .mv (.t 2), grd := some (52, true) },
  { dst := some 54, op := .mv (.t 11), grd := some (52, true) },
  { dst := some 55, op := .bin .lss (.t 53) (.t 54), grd := some (52, true) },
  { dst := some 56, op := .pick (.t 52) (.t 55) (.c (.b false)) },
  { dst := some 57, op := .mv (.t 56) },
  { dst := some 58, op := .mv (.t 3), grd := some (57, true) },
  { dst := some 59, op := .mv (.t 11), grd := some (57, true) },
  { dst := some 60, op := .bin .lss (.t 58) (.t 59), grd := some (57, true) },
  { dst := some 61, op := .pick (.t 57) (.t 60) (.c (.b false)) },
  { dst := some 13, op := .mv (.t 61) }])
 (.seq (.reg false [{ dst := some 62, op := .mv (.t 9) },
  { dst := some 63, op := .mv (.t 2) },
  { dst := some 64, op := .mv (.t 3) },
  { dst := some 65, op := .call .pure (.c (.fn 13 [] [])) [.t 62, .t 63, .t 64] },
  { dst := some 66, op := .mv (.t 13) },
  { dst := some 67, op := .eqb false (.t 65) (.t 66) },
  { dst := some 68, op := .mv (.t 67) },
  { dst := some 69, op := .mv (.t 9), grd := some (68, true) },
  { dst := some 70, op := .call .pure (.c (.fn 15 [] [])) [.t 69], grd := some (68, true) },
  { dst := some 71, op := .len (.t 70), grd := some (68, true) },
  { dst := some 72, op := .bin .eql (.t 71) (.c (.i .i64 1)), grd := some (68, true) },
  { dst := some 73, op := .mv (.t 13), grd := some (68, true) },
  { dst := some 74, op := .eqb false (.t 72) (.t 73), grd := some (68, true) },
  { dst := some 75, op := .pick (.t 68) (.t 74) (.c (.b false)) },
  { dst := some 76, op := .mv (.t 75) },
  { dst := some 77, op := .mv (.t 9), grd := some (76, true) },
  { dst := some 78, op := .mv (.t 10), grd := some (76, true) },
  { dst := some 79, op := .call .pure (.c (.fn 24 [] [])) [.t 77, .t 78], grd := some (76, true) },
  { dst := some 80, op := .call .pure (.c (.fn 17 [] [])) [.t 79], grd := some (76, true) },
  { dst := some 81, op := .mv (.t 11), grd := some (76, true) },
  { dst := some 82, op := .mv (.t 12), grd := some (76, true) },
  { dst := some 83, op := .mx (.t 81) (.t 82), grd := some (76, true) },
  { dst := some 84, op := .bin .eql (.t 80) (.t 83), grd := some (76, true) },
  { dst := some 85, op := .pick (.t 76) (.t 84) (.c (.b false)) },
  { dst := some 86, op := .mv (.t 85) },
  { dst := some 87, op := .mv (.t 9), grd := some (86, true) },
  { dst := some 88, op := .mv (.t 10), grd := some (86, true) },
  { dst := some 89, op := .call .pure (.c (.fn 24 [] [])) [.t 87, .t 88], grd := some (86, true) },
  { dst := some 90, op := .mv (.t 2), grd := some (86, true) },
  { dst := some 91, op := .mv (.t 3), grd := some (86, true) },
  { dst := some 92, op := .call .pure (.c (.fn 13 [] [])) [.t 89, .t 90, .t 91], grd := some (86, true) },
  { dst := some 93, op := .mv (.t 13), grd := some (86, true) },
  { dst := some 94, op := .eqb false (.t 92) (.t 93), grd := some (86, true) },
  { dst := some 95, op := .pick (.t 86) (.t 94) (.c (.b false)) },
  { dst := some 96, op := .mv (.t 95) },
  { dst := some 97, op := .mv (.t 10), grd := some (96, true) },
  { dst := some 98, op := .mv (.t 9), grd := some (96, true) },
  { dst := some 99, op := .call .pure (.c (.fn 23 [] [])) [.t 97, .t 98], grd := some (96, true) },
  { dst := some 100, op := .call .pure (.c (.fn 17 [] [])) [.t 99], grd := some (96, true) },
  { dst := some 101, op := .mv (.t 11), grd := some (96, true) },
  { dst := some 102, op := .mv (.t 12), grd := some (96, true) },
  { dst := some 103, op := .mx (.t 101) (.t 102), grd := some (96, true) },
  { dst := some 104, op := .bin .eql (.t 100) (.t 103), grd := some (96, true) },
  { dst := some 105, op := .pick (.t 96) (.t 104) (.c (.b false)) },
  { dst := some 106, op := .mv (.t 105) },
  { dst := some 107, op := .mv (.t 9), grd := some (106, true) },
  { dst := some 108, op := .mv (.t 10), grd := some (106, true) },
  { dst := some 109, op := .call .pure (.c (.fn 18 [] [])) [.t 107, .t 108], grd := some (106, true) },
  { dst := some 110, op := .call .pure (.c (.fn 15 [] [])) [.t 109], grd := some (106, true) },
  { dst := some 111, op := .len (.t 110), grd := some (106, true) },
  { dst := some 112, op := .bin .eql (.t 111) (.c (.i .i64 0)), grd := some (106, true) },
  { dst := some 113, op := .pick (.t 106) (.t 112) (.c (.b false)) },
  { dst := some 114, op := .mv (.t 113) },
  { dst := some 115, op := .mv (.t 10), grd := some (114, true) },
  { dst := some 116, op := .mv (.t 9), grd := some (114, true) },
  { dst := some 117, op := .call .pure (.c (.fn 22 [] [])) [.t 115, .t 116], grd := some (114, true) },
  { dst := some 118, op := .pick (.t 114) (.t 117) (.c (.b false)) },
  { dst := some 119, op := .mv (.t 118) },
  { dst := some 120, op := .mv (.t 9), grd := some (119, true) },
  { dst := some 121, op := .mv (.t 10), grd := some (119, true) },
  { dst := some 122, op := .call .pure (.c (.fn 22 [] [])) [.t 120, .t 121], grd := some (119, true) },
  { dst := some 123, op := .mv (.t 13), grd := some (119, true) },
  { dst := some 124, op := .un .not (.t 123), grd := some (119, true) },
  { dst := some 125, op := .eqb false (.t 122) (.t 124), grd := some (119, true) },
  { dst := some 126, op := .pick (.t 119) (.t 125) (.c (.b false)) },
  { dst := some 127, op := .mv (.t 126) },
  { dst := some 128, op := .mv (.t 9), grd := some (127, true) },
  { dst := some 129, op := .call .pure (.c (.fn 25 [] [])) [.t 128], grd := some (127, true) },
  { dst := some 130, op := .mv (.t 3), grd := some (127, true) },
  { dst := some 131, op := .mv (.t 2), grd := some (127, true) },
  { dst := some 132, op := .call .pure (.c (.fn 13 [] [])) [.t 129, .t 130, .t 131], grd := some (127, true) },
  { dst := some 133, op := .mv (.t 13), grd := some (127, true) },
  { dst := some 134, op := .eqb false (.t 132) (.t 133), grd := some (127, true) },
  { dst := some 135, op := .pick (.t 127) (.t 134) (.c (.b false)) },
  { dst := some 136, op := .mv (.t 135) },
  { dst := some 137, op := .call .pure (.c (.fn 19 [] [])) [], grd := some (136, true) },
  { dst := some 138, op := .pick (.t 136) (.t 137) (.c (.b false)) },
  { dst := some 8, op := .mv (.t 138) }])
 .ret)))))) }
def A_xlaw01_RelAll : AFun := { res := [.t 8], body := (.seq (.reg false [{ dst := some 8, op := .mv (.c (.b false)) }])
 (.seq (.seq (.reg false [{ dst := some 14, op := .mv (.t 2) },
  { dst := some 15, op := .len (.t 14) },
  { dst := some 16, op := .bin .gtr (.t 15) (.c (.i .i64 200)) },
  { dst := some 17, op := .mv (.t 16) },
  { dst := some 18, op := .mv (.t 3), grd := some (17, false) },
  { dst := some 19, op := .len (.t 18), grd := some (17, false) },
  { dst := some 20, op := .bin .gtr (.t 19) (.c (.i .i64 200)), grd := some (17, false) },
  { dst := some 21, op := .pick (.t 17) (.c (.b true)) (.t 20) }])
 (.cond (.t 21) (.seq (.reg false [{ dst := some 22, op := .call .pure (.c (.fn 19 [] [])) [] },
  { dst := some 8, op := .mv (.t 22) }])
 .ret)
 .skip))
 (.seq (.reg false [{ dst := some 23, op := .mv (.t 0) },
  { dst := some 24, op := .mv (.t 2) },
  { dst := some 25, op := .app 2 16 (.c (.sl [] 0 .rig)) (.t 24) },
  { dst := some 26, op := .call .pure (.c (.fn 11 [] [])) [.t 23, .t 25] },
  { dst := some 27, op := .mv (.t 1) },
  { dst := some 28, op := .mv (.t 3) },
  { dst := some 29, op := .app 2 16 (.c (.sl [] 0 .rig)) (.t 28) },
  { dst := some 30, op := .call .pure (.c (.fn 11 [] [])) [.t 27, .t 29] },
  { dst := some 9, op := .mv (.t 26) },
  { dst := some 10, op := .mv (.t 30) }])
 (.seq (.reg false [{ dst := some 31, op := .mv (.t 0) },
  { dst := some 32, op := .mv (.t 2) },
  { dst := some 33, op := .call .pure (.c (.fn 27 [] [])) [.t 31, .t 32] },
  { dst := some 34, op := .mv (.t 1) },
  { dst := some 35, op := .mv (.t 3) },
  { dst := some 36, op := .call .pure (.c (.fn 27 [] [])) [.t 34, .t 35] },
  { dst := some 11, op := .mv (.t 33) },
  { dst := some 12, op := .mv (.t 36) }])
 (.seq (.seq (.reg false [{ dst := some 37, op := .mv (.t 9) },
  { dst := some 38, op := .mv (.t 11) },
  { dst := some 39, op := .call .pure (.c (.fn 28 [] [])) [.t 37, .t 38] },
  { dst := some 40, op := .un .not (.t 39) },
  { dst := some 41, op := .mv (.t 40) },
  { dst := some 42, op := .mv (.t 10), grd := some (41, false) },
  { dst := some 43, op := .mv (.t 12), grd := some (41, false) },
  { dst := some 44, op := .call .pure (.c (.fn 28 [] [])) [.t 42, .t 43], grd := some (41, false) },
  { dst := some 45, op := .un .not (.t 44), grd := some (41, false) },
  { dst := some 46, op := .pick (.t 41) (.c (.b true)) (.t 45) },
  { dst := some 47, op := .mv (.t 46) },
  { dst := some 48, op := .mv (.t 9), grd := some (47, false) },
  { dst := some 49, op := .mv (.t 10), grd := some (47, false) },
  { dst := some 50, op := .call .pure (.c (.fn 24 [] [])) [.t 48, .t 49], grd := some (47, false) },
  { dst := some 51, op := .mv (.t 11), grd := some (47, false) },
  { dst := some 52, op := .mv (.t 12), grd := some (47, false) },
  { dst := some 53, op := .call .pure (.c (.fn 29 [] [])) [.t 51, .t 52], grd := some (47, false) },
  { dst := some 54, op := .call .pure (.c (.fn 28 [] [])) [.t 50, .t 53], grd := some (47, false) },
  { dst := some 55, op := .un .not (.t 54), grd := some (47, false) },
  { dst := some 56, op := .pick (.t 47) (.c (.b true)) (.t 55) },
  { dst := some 57, op := .mv (.t 56) },
  { dst := some 58, op := .mv (.t 9), grd := some (57, false) },
  { dst := some 59, op := .mv (.t 10), grd := some (57, false) },
  { dst := some 60, op := .call .pure (.c (.fn 18 [] [])) [.t 58, .t 59], grd := some (57, false) },
  { dst := some 61, op := .mv (.t 11), grd := some (57, false) },
  { dst := some 62, op := .mv (.t 12), grd := some (57, false) },
  { dst := some 63, op := .call .pure (.c (.fn 30 [] [])) [.t 61, .t 62], grd := some (57, false) },
  { dst := some 64, op := .call .pure (.c (.fn 28 [] [])) [.t 60, .t 63], grd := some (57, false) },
  { dst := some 65, op := .un .not (.t 64), grd := some (57, false) },
  { dst := some 66, op := .pick (.t 57) (.c (.b true)) (.t 65) },
  { dst := some 67, op := .mv (.t 66) },
  { dst := some 68, op := .mv (.t 9), grd := some (67, false) },
  { dst := some 69, op := .mv (.t 10), grd := some (67, false) },
  { dst := some 70, op := .call .pure (.c (.fn 26 [] [])) [.t 68, .t 69], grd := some (67, false) },
  { dst := some 71, op := .mv (.t 11), grd := some (67, false) },
  { dst := some 72, op := .mv (.t 12), grd := some (67, false) },
  { dst := some 73, op := .call .pure (.c (.fn 31 [] [])) [.t 71, .t 72], grd := some (67, false) },
  { dst := some 74, op := .call .pure (.c (.fn 28 [] [])) [.t 70, .t 73], grd := some (67, false) },
  { dst := some 75, op := .un .not (.t 74), grd := some (67, false) },
  { dst := some 76, op := .pick (.t 67) (.c (.b true)) (.t 75) },
  { dst := some 77, op := .mv (.t 76) },
  { dst := some 78, op := .mv (.t 9), grd := some (77, false) },
  { dst := some 79, op := .mv (.t 10), grd := some (77, false) },
  { dst := some 80, op := .call .pure (.c (.fn 23 [] [])) [.t 78, .t 79], grd := some (77, false) },
  { dst := some 81, op := .mv (.t 11), grd := some (77, false) },
  { dst := some 82, op := .mv (.t 12), grd := some (77, false) },
  { dst := some 83, op := .call .pure (.c (.fn 32 [] [])) [.t 81, .t 82], grd := some (77, false) },
  { dst := some 84, op := .call .pure (.c (.fn 28 [] [])) [.t 80, .t 83], grd := some (77, false) },
  { dst := some 85, op := .un .not (.t 84), grd := some (77, false) },
  { dst := some 86, op := .pick (.t 77) (.c (.b true)) (.t 85) },
  { dst := some 87, op := .mv (.t 86) },
  { dst := some 88, op := .mv (.t 9), grd := some (87, false) },
  { dst := some 89, op := .call .pure (.c (.fn 25 [] [])) [.t 88], grd := some (87, false) },
  { dst := some 90, op := .mv (.t 11), grd := some (87, false) },
  { dst := some 91, op := .call .pure (.c (.fn 33 [] [])) [.t 90], grd := some (87, false) },
  { dst := some 92, op := .call .pure (.c (.fn 28 [] [])) [.t 89, .t 91], grd := some (87, false) },
  { dst := some 93, op := .un .not (.t 92), grd := some (87, false) },
  { dst := some 94, op := .pick (.t 87) (.c (.b true)) (.t 93) },
  { dst := some 95, op := .mv (.t 94) },
  { dst := some 96, op := .mv (.t 9), grd := some (95, false) },
  { dst := some 97, op := .call .pure (.c (.fn 12 [] [])) [.t 96], grd := some (95, false) },
  { dst := some 98, op := .mv (.t 11), grd := some (95, false) },
  { dst := some 99, op := .call .pure (.c (.fn 34 [] [])) [.t 98], grd := some (95, false) },
  { dst := some 100, op := .call .pure (.c (.fn 28 [] [])) [.t 97, .t 99], grd := some (95, false) },
  { dst := some 101, op := .un .not (.t 100), grd := some (95, false) },
  { dst := some 102, op := .pick (.t 95) (.c (.b true)) (.t 101) },
  { dst := some 103, op := .mv (.t 102) },
  { dst := some 104, op := .mv (.t 9), grd := some (103, false) },
  { dst := some 105, op := .call .pure (.c (.fn 16 [] [])) [.t 104], grd := some (103, false) },
  { dst := some 106, op := .mv (.t 11), grd := some (103, false) },
  { dst := some 107, op := .call .pure (.c (.fn 35 [] [])) [.t 106], grd := some (103, false) },
  { dst := some 108, op := .call .pure (.c (.fn 28 [] [])) [.t 105, .t 107], grd := some (103, false) },
  { dst := some 109, op := .un .not (.t 108), grd := some (103, false) },
  { dst := some 110, op := .pick (.t 103) (.c (.b true)) (.t 109) },
  { dst := some 111, op := .mv (.t 110) },
  { dst := some 112, op := .mv (.t 9), grd := some (111, false) },
  { dst := some 113, op := .mv (.t 10), grd := some (111, false) },
  { dst := some 114, op := .call .pure (.c (.fn 22 [] [])) [.t 112, .t 113], grd := some (111, false) },
  { dst := some 115, op := .mv (.t 11), grd := some (111, false) },
  { dst := some 116, op := .mv (.t 12), grd := some (111, false) },
  { dst := some 117, op := .call .pure (.c (.fn 36 [] [])) [.t 115, .t 116], grd := some (111, false) },
  { dst := some 118, op := .eqb true (.t 114) (.t 117), grd := some (111, false) },
  { dst := some 119, op := .pick (.t 111) (.c (.b true)) (.t 118) },
  { dst := some 120, op := .mv (.t 119) },
  { dst := some 121, op := .mv (.t 9), grd := some (120, false) },
  { dst := some 122, op := .call .pure (.c (.fn 14 [] [])) [.t 121], grd := some (120, false) },
  { dst := some 123, op := .mv (.t 11), grd := some (120, false) },
  { dst := some 124, op := .call .pure (.c (.fn 37 [] [])) [.t 123], grd := some (120, false) },
  { dst := some 125, op := .eqb true (.t 122) (.t 124), grd := some (120, false) },
  { dst := some 126, op := .pick (.t 120) (.c (.b true)) (.t 125) }])
 (.cond (.t 126) (.seq (.reg false [{ dst := some 8, op := .mv (.c (.b false)) }])
 .ret)
 .skip))
 (.seq (.seq (.reg false [{ dst := some 13, op := .mv (.c (.i .i64 0)) }])
 (.blk 0 (.loop (.seq (.seq (.reg false [{ dst := some 127, op := .mv (.t 13) },
  { dst := some 128, op := .mv (.t 2) },
  { dst := some 129, op := .len (.t 128) },
  { dst := some 130, op := .bin .lss (.t 127) (.t 129) },
  { dst := some 131, op := .mv (.t 130) },
  { dst := some 132, op := .mv (.t 13), grd := some (131, true) },
  { dst := some 133, op := .bin .lss (.t 132) (.c (.i .i64 20)), grd := some (131, true) },
  { dst := some 134, op := .pick (.t 131) (.t 133) (.c (.b false)) }])
 (.cond (.t 134) .skip
 (.ext 0)))
 (.seq (.blk 1 (.seq (.reg true [{ dst := some 137, op := .mv (.t 9) },
  { dst := some 138, op := .mv (.t 2) },
  { dst := some 139, op := .mv (.t 13) },
  { dst := some 140, op := .ia 2 (.t 138) (.t 139) },
  { dst := some 141, op := .fa 0 (.t 140) },
  { dst := some 142, op := .ld none (.t 141), pre := [] },
  { dst := some 143, op := .mv (.t 2) },
  { dst := some 144, op := .mv (.t 13) },
  { dst := some 145, op := .ia 2 (.t 143) (.t 144) },
  { dst := some 146, op := .fa 1 (.t 145) },
  { dst := some 147, op := .ld none (.t 146), pre := [] },
  { dst := some 148, op := .call .pure (.c (.fn 13 [] [])) [.t 137, .t 142, .t 147], pre := [] },
  { dst := some 149, op := .mv (.t 11) },
  { dst := some 150, op := .mv (.t 2) },
  { dst := some 151, op := .mv (.t 13) },
  { dst := some 152, op := .ia 2 (.t 150) (.t 151) },
  { dst := some 153, op := .fa 0 (.t 152) },
  { dst := some 154, op := .ld none (.t 153), pre := [] },
  { dst := some 155, op := .mv (.t 2) },
  { dst := some 156, op := .mv (.t 13) },
  { dst := some 157, op := .ia 2 (.t 155) (.t 156) },
  { dst := some 158, op := .fa 1 (.t 157) },
  { dst := some 159, op := .ld none (.t 158), pre := [] },
  { dst := some 160, op := .call .pure (.c (.fn 38 [] [])) [.t 149, .t 154, .t 159], pre := [] },
  { dst := some 161, op := .eqb true (.t 148) (.t 160) }])
 (.cond (.t 161) (.seq (.reg false [{ dst := some 8, op := .mv (.c (.b false)) }])
 .ret)
 .skip)))
 (.reg false [{ dst := some 135, op := .mv (.t 13) },
  { dst := some 136, op := .bin .add (.t 135) (.c (.i .i64 1)) },
  { dst := some 13, op := .mv (.t 136) }]))))))
 (.seq (.reg false [{ dst := some 162, op := .mv (.t 9) },
  { dst := some 163, op := .mv (.t 11) },
  { dst := some 164, op := .call .pure (.c (.fn 28 [] [])) [.t 162, .t 163] },
  { dst := some 165, op := .mv (.t 164) },
  { dst := some 166, op := .mv (.t 10), grd := some (165, true) },
  { dst := some 167, op := .mv (.t 12), grd := some (165, true) },
  { dst := some 168, op := .call .pure (.c (.fn 28 [] [])) [.t 166, .t 167], grd := some (165, true) },
  { dst := some 169, op := .pick (.t 165) (.t 168) (.c (.b false)) },
  { dst := some 170, op := .mv (.t 169) },
  { dst := some 171, op := .call .pure (.c (.fn 19 [] [])) [], grd := some (170, true) },
  { dst := some 172, op := .pick (.t 170) (.t 171) (.c (.b false)) },
  { dst := some 8, op := .mv (.t 172) }])
 .ret))))))) }
def A_xlaw01_awake : AFun := { res := [.t 0], body := (.seq (.reg false [{ dst := some 0, op := .mv (.c (.b false)) }])
 (.seq (.reg false [{ dst := some 2, op := .build ([.i .i64 0, .i .i64 0]) [(0, 1, .c (.i .i64 0)), (1, 1, .c (.i .i64 1))] },
  { dst := some 3, op := .build ([.i .i64 0, .i .i64 0]) [(0, 1, .c (.i .i64 1)), (1, 1, .c (.i .i64 0))] },
  { dst := some 4, op := .bsl true 2 (List.replicate 4 (.i .i64 0)) [(0, 2, .t 2), (2, 2, .t 3)] },
  { dst := some 5, op := .call .pure (.c (.fn 11 [] [])) [.c (.i .i64 2), .t 4] },
  { dst := some 1, op := .mv (.t 5) }])
 (.seq (.reg false [{ dst := some 6, op := .mv (.t 1) },
  { dst := some 7, op := .eqn true (.t 6) (.c (.nilp)) },
  { dst := some 8, op := .mv (.t 7) },
  { dst := some 9, op := .mv (.t 1), grd := some (8, true) },
  { dst := some 10, op := .call .pure (.c (.fn 14 [] [])) [.t 9], grd := some (8, true) },
  { dst := some 11, op := .pick (.t 8) (.t 10) (.c (.b false)) },
  { dst := some 12, op := .mv (.t 11) },
  { dst := some 13, op := .mv (.t 1), grd := some (12, true) },
  { dst := some 14, op := .call .pure (.c (.fn 17 [] [])) [.t 13], grd := some (12, true) },
  { dst := some 15, op := .bin .eql (.t 14) (.c (.i .i64 2)), grd := some (12, true) },
  { dst := some 16, op := .pick (.t 12) (.t 15) (.c (.b false)) },
  { dst := some 17, op := .mv (.t 16) },
  { dst := some 18, op := .mv (.t 1), grd := some (17, true) },
  { dst := some 19, op := .call .pure (.c (.fn 13 [] [])) [.t 18, .c (.i .i64 0), .c (.i .i64 1)], grd := some (17, true) },
  { dst := some 20, op := .pick (.t 17) (.t 19) (.c (.b false)) },
  { dst := some 21, op := .mv (.t 20) },
  { dst := some 22, op := .mv (.t 1), grd := some (21, true) },
  { dst := some 23, op := .call .pure (.c (.fn 15 [] [])) [.t 22], grd := some (21, true) },
  { dst := some 24, op := .len (.t 23), grd := some (21, true) },
  { dst := some 25, op := .bin .eql (.t 24) (.c (.i .i64 2)), grd := some (21, true) },
  { dst := some 26, op := .pick (.t 21) (.t 25) (.c (.b false)) },
  { dst := some 27, op := .mv (.t 26) },
  { dst := some 28, op := .call .pure (.c (.fn 11 [] [])) [.c (.i .i64 2), .c (.sl [] 0 .rig)], grd := some (27, true) },
  { dst := some 29, op := .call .pure (.c (.fn 14 [] [])) [.t 28], grd := some (27, true) },
  { dst := some 30, op := .un .not (.t 29), grd := some (27, true) },
  { dst := some 31, op := .pick (.t 27) (.t 30) (.c (.b false)) },
  { dst := some 0, op := .mv (.t 31) }])
 .ret))) }
def A_xlaw01_some : AFun := { res := [.t 4], body := (.seq (.reg false [{ dst := some 4, op := .mv (.c (.nilp)) }])
 (.seq (.reg false [{ dst := some 5, op := .mv (.c (.sl [] 0 .rig)) }])
 (.seq (.seq (.reg false [{ dst := some 6, op := .mv (.c (.i .i64 0)) }])
 (.blk 0 (.loop (.seq (.seq (.reg false [{ dst := some 8, op := .mv (.t 6) },
  { dst := some 9, op := .mv (.t 1) },
  { dst := some 10, op := .len (.t 9) },
  { dst := some 11, op := .bin .lss (.t 8) (.t 10) },
  { dst := some 12, op := .mv (.t 11) },
  { dst := some 13, op := .mv (.t 6), grd := some (12, true) },
  { dst := some 14, op := .bin .lss (.t 13) (.c (.i .i64 100)), grd := some (12, true) },
  { dst := some 15, op := .pick (.t 12) (.t 14) (.c (.b false)) }])
 (.cond (.t 15) .skip
 (.ext 0)))
 (.seq (.blk 1 (.seq (.reg false [{ dst := some 18, op := .mv (.t 1) },
  { dst := some 19, op := .mv (.t 6) },
  { dst := some 20, op := .ia 1 (.t 18) (.t 19) },
  { dst := some 21, op := .ld none (.t 20) },
  { dst := some 22, op := .mv (.t 0) },
  { dst := some 23, op := .mv (.t 0) },
  { dst := some 24, op := .bin .mul (.t 22) (.t 23) },
  { dst := some 25, op := .call .pure (.c (.fn 10 [] [])) [.t 21, .t 24] },
  { dst := some 7, op := .mv (.t 25) }])
 (.reg true [{ dst := some 26, op := .mv (.t 5) },
  { dst := some 27, op := .mv (.t 7) },
  { dst := some 28, op := .mv (.t 0) },
  { dst := some 29, op := .bin .quo (.t 27) (.t 28) },
  { dst := some 30, op := .mv (.t 7) },
  { dst := some 31, op := .mv (.t 0) },
  { dst := some 32, op := .bin .rem (.t 30) (.t 31) },
  { dst := some 33, op := .build ([.i .i64 0, .i .i64 0]) [(0, 1, .t 29), (1, 1, .t 32)] },
  { dst := some 34, op := .bsl true 1 ([.i .i64 0, .i .i64 0]) [(0, 2, .t 33)], pre := [] },
  { dst := some 35, op := .app 2 16 (.t 26) (.t 34), pre := [] },
  { dst := some 5, op := .mv (.t 35) }])))
 (.reg false [{ dst := some 16, op := .mv (.t 6) },
  { dst := some 17, op := .bin .add (.t 16) (.c (.i .i64 1)) },
  { dst := some 6, op := .mv (.t 17) }]))))))
 (.seq (.reg false [{ dst := some 36, op := .mv (.t 0) },
  { dst := some 37, op := .mv (.t 5) },
  { dst := some 38, op := .call .pure (.c (.fn 11 [] [])) [.t 36, .t 37] },
  { dst := some 4, op := .mv (.t 38) }])
 .ret)))) }
def A_xlaw01_RelAlgebra_1 : AFun := { res := [.t 4], body := (.seq (.reg false [{ dst := some 4, op := .mv (.c (.b false)) }])
 (.seq (.reg false [{ dst := some 5, op := .mv (.t 0) },
  { dst := some 6, op := .mv (.t 1) },
  { dst := some 7, op := .call .pure (.c (.fn 22 [] [])) [.t 5, .t 6] },
  { dst := some 8, op := .mv (.t 7) },
  { dst := some 9, op := .mv (.t 1), grd := some (8, true) },
  { dst := some 10, op := .mv (.t 0), grd := some (8, true) },
  { dst := some 11, op := .call .pure (.c (.fn 22 [] [])) [.t 9, .t 10], grd := some (8, true) },
  { dst := some 12, op := .pick (.t 8) (.t 11) (.c (.b false)) },
  { dst := some 4, op := .mv (.t 12) }])
 .ret)) }
def A_xlaw01_same : AFun := { res := [.t 4], body := (.seq (.reg false [{ dst := some 4, op := .mv (.c (.b false)) }])
 (.seq (.reg true [{ dst := some 5, op := .mv (.t 0) },
  { dst := some 6, op := .eqn true (.t 5) (.c (.nilp)) },
  { dst := some 7, op := .mv (.t 6) },
  { dst := some 8, op := .mv (.t 0), grd := some (7, true) },
  { dst := some 9, op := .call .pure (.c (.fn 17 [] [])) [.t 8], grd := some (7, true), pre := [] },
  { dst := some 10, op := .mv (.t 1), grd := some (7, true) },
  { dst := some 11, op := .nilck (.t 10), grd := some (7, true) },
  { dst := some 12, op := .fa 0 (.t 11), grd := some (7, true) },
  { dst := some 13, op := .ld none (.t 12), grd := some (7, true), pre := [] },
  { dst := some 14, op := .bin .eql (.t 9) (.t 13), grd := some (7, true) },
  { dst := some 15, op := .pick (.t 7) (.t 14) (.c (.b false)) },
  { dst := some 16, op := .mv (.t 15) },
  { dst := some 17, op := .mv (.t 0), grd := some (16, true) },
  { dst := some 18, op := .call .pure (.c (.fn 15 [] [])) [.t 17], grd := some (16, true), pre := [] },
  { dst := some 19, op := .mv (.t 1), grd := some (16, true) },
  { dst := some 20, op := .call .pure (.c (.fn 56 [] [])) [.t 19], grd := some (16, true), pre := [] },
  { dst := some 21, op := .call .pure (.c (.fn 55 [] [])) [.t 18, .t 20], grd := some (16, true), pre := [] },
  { dst := some 22, op := .pick (.t 16) (.t 21) (.c (.b false)) },
  { dst := some 4, op := .mv (.t 22) }])
 .ret)) }
structure Pk_xlaw01 (F : Funs) : Prop where
  xlaw01_RelLines : F 1 = some A_xlaw01_RelLines
  xlaw01_RelAlgebra : F 2 = some A_xlaw01_RelAlgebra
  xlaw01_RelSizes : F 3 = some A_xlaw01_RelSizes
  xlaw01_RelAll : F 4 = some A_xlaw01_RelAll
  xlaw01_awake : F 19 = some A_xlaw01_awake
  xlaw01_some : F 20 = some A_xlaw01_some
  xlaw01_RelAlgebra_1 : F 21 = some A_xlaw01_RelAlgebra_1
  xlaw01_same : F 28 = some A_xlaw01_same
end Go.Ab
end
section
/- Place; the document's example. -/
set_option linter.unusedVariables false
set_option linter.unusedSimpArgs false
namespace Go.Ab
variable {F : Funs}
theorem t1_neg (u n : Int) (e1 : u % n + n * (u / n) = u) : -u = (n - u % n) + n * (-(u / n) - 1) := by
  have e2 : n * (-(u / n) - 1) = -(n * (u / n)) - n := by rw [Int.mul_sub, Int.mul_neg, Int.mul_one]
  rw [e2]
  generalize n * (u / n) = c at *
  generalize u % n = b at *
  omega
theorem tmod_cases {v n : Int} (hn : 0 < n) : (if v.tmod n < 0 then v.tmod n + n else v.tmod n) = v % n := by
  have h2 := Int.emod_nonneg v (by omega : n ≠ 0)
  have h3 := Int.emod_lt_of_pos v hn
  by_cases hv : 0 ≤ v
  · rw [Int.tmod_eq_emod_of_nonneg hv, if_neg (by omega)]
  · obtain ⟨u, rfl⟩ : ∃ u, v = -u := ⟨-v, by omega⟩
    rw [Int.neg_tmod, Int.tmod_eq_emod_of_nonneg (by omega : 0 ≤ u)]
    have h4 := Int.emod_nonneg u (by omega : n ≠ 0)
    have h5 := Int.emod_lt_of_pos u hn
    have e1 := Int.emod_add_mul_ediv u n
    by_cases h6 : u % n = 0
    · rw [h6, Int.neg_zero, if_neg (by omega)]
      exact (Int.emod_eq_zero_of_dvd (Int.dvd_neg.2 (Int.dvd_of_emod_eq_zero h6))).symm
    · rw [if_pos (by omega)]
      have e3 : (-u) % n = n - u % n := by
        rw [t1_neg u n e1, Int.add_mul_emod_self_left, Int.emod_eq_of_lt (by omega) (by omega)]
      rw [e3]
      omega
theorem tmod_bound {v n : Int} (hn : 0 < n) : -n ≤ v.tmod n ∧ v.tmod n < n := by
  refine ⟨?_, Int.tmod_lt_of_pos v hn⟩
  have h1 := tmod_cases (v := v) hn
  have h2 := Int.emod_nonneg v (by omega : n ≠ 0)
  split at h1 <;> omega
def place (v n : Int) : Int := v % n
theorem place_lt {v n : Int} (hn : 0 < n) : 0 ≤ place v n ∧ place v n < n := ⟨Int.emod_nonneg v (by omega), Int.emod_lt_of_pos v hn⟩
theorem sp_place (h10 : F 10 = some A_xlaw00_Place) {v n : Int} (hn : 0 < n) (hb : n ≤ 4611686018427387904) : pureS F 10 [.i .i64 v, .i .i64 n] = some (.i .i64 (place v n)) := by
  refine pure_of h10 ?_
  have h1 := tmod_cases (v := v) hn
  obtain ⟨h2, h3⟩ := tmod_bound (v := v) hn
  unfold place
  by_cases h : v.tmod n < 0
  · have hw : IntKind.i64.wrap (v.tmod n + n) = v.tmod n + n := i64_wrap (by omega) (by omega)
    rw [if_pos h] at h1
    simp (disch := omega) only [A_xlaw00_Place, wp, Nat.reduceAdd, Nat.reduceMul, Nat.reduceSub, b_rem, h, hw]
    rw [h1]
  · rw [if_neg h] at h1
    simp (disch := omega) only [A_xlaw00_Place, wp, Nat.reduceAdd, Nat.reduceMul, Nat.reduceSub, b_rem, h]
    rw [h1]

set_option maxRecDepth 100000 in
theorem sp_awake (h19 : F 19 = some A_xlaw01_awake) (pr : Pk_rel F) : pureS F 19 [] = some (.b true) := by
  refine pure_of h19 ?_
  have n1 : pureS F 11 [.i .i64 2, .sl [.i .i64 0, .i .i64 1, .i .i64 1, .i .i64 0] 2 .non] = some (.ptr (relC 2 (newR 2 [(0, 1), (1, 0)]))) := sp_new pr 2 [(0, 1), (1, 0)] .non (by decide)
  have n2 : pureS F 11 [.i .i64 2, .sl [] 0 .non] = some (.ptr (relC 2 (newR 2 []))) := sp_new pr 2 [] .non (by decide)
  have s1 : ∀ a b : AV, splice (List.replicate 4 (AV.i .i64 0)) 0 [a, b] = [a, b, .i .i64 0, .i .i64 0] := fun _ _ => rfl
  have s2 : ∀ a b c d x y : AV, splice [a, b, x, y] 2 [c, d] = [a, b, c, d] := fun _ _ _ _ _ _ => rfl
  have l1 : loopsR 2 (newR 2 [(0, 1), (1, 0)]) = true := by decide +kernel
  have l2 : loopsR 2 (newR 2 []) = false := by decide +kernel
  have h1 : has 2 (newR 2 [(0, 1), (1, 0)]) 0 1 = true := by decide +kernel
  have p1 : (pairsR 2 (newR 2 [(0, 1), (1, 0)])).length = 2 := by decide +kernel
  have e2 : ((2 : Nat) : Int) = 2 := rfl
  simp (disch := omega) only [A_xlaw01_awake, wp, Nat.reduceAdd, Nat.reduceMul, Nat.reduceSub, rl, s1, s2, n1, n2, sp_loops pr, sp_len pr, sp_has pr, sp_pairs pr, l1, l2, h1, p1, e2]
end Go.Ab
end
section
/- exegesislaw01.RelLines: the law holds of what the functions compute; the walk. -/
set_option linter.unusedVariables false
set_option linter.unusedSimpArgs false
namespace Go.Ab
variable {F : Funs}
def linesP (i : Nat) : List (Int × Int) := (List.range i).map fun (i : Nat) => ((i : Int), ((i + 1 : Nat) : Int))
theorem linesP_succ (i : Nat) : linesP (i + 1) = linesP i ++ [((i : Int), ((i + 1 : Nat) : Int))] := by simp [linesP, List.range_succ]
theorem linesP_len (i : Nat) : (linesP i).length = i := by simp [linesP]
def linesL (K : Nat) (ring : Bool) : List (Int × Int) := linesP (K - 1) ++ (if ring then [(((K - 1 : Nat) : Int), 0)] else [])
theorem linesL_len {K : Nat} {ring : Bool} : (linesL K ring).length = (K - 1) + (if ring then 1 else 0) := by
  unfold linesL; cases ring <;> simp [linesP_len]
theorem hb_lines {K : Nat} (h1 : 1 ≤ K) (h : K ≤ 40) (ring : Bool) (a b : Nat) : hb (newR K (linesL K ring)) a b = true ↔ (b = a + 1 ∧ b < K) ∨ (ring = true ∧ a = K - 1 ∧ b = 0) := by
  rw [hb_new h]
  simp only [Bool.and_eq_true, decide_eq_true_eq, List.any_eq_true, linesL, List.mem_append, linesP, List.mem_map, List.mem_range]
  constructor
  · rintro ⟨⟨ha, hb'⟩, p, hp, rfl⟩
    rcases hp with ⟨i, hi, he⟩ | hp
    · simp only [Prod.mk.injEq] at he
      obtain ⟨he1, he2⟩ := he
      exact .inl (by omega)
    · cases ring with
      | false => simp at hp
      | true =>
        simp only [if_true, List.mem_singleton, Prod.mk.injEq] at hp
        exact .inr ⟨rfl, by omega, by omega⟩
  · rintro (⟨rfl, hb'⟩ | ⟨rfl, rfl, rfl⟩)
    · exact ⟨⟨by omega, hb'⟩, _, .inl ⟨a, by omega, rfl⟩, rfl⟩
    · exact ⟨⟨by omega, by omega⟩, _, .inr (by simp), rfl⟩
theorem steps_up {K : Nat} {r : Nat → Nat → Prop} (h : ∀ a, a + 1 < K → r a (a + 1)) (a : Nat) : ∀ d, a + d + 1 < K → Steps' r a (a + d + 1)
  | 0, hd => .one (h a hd)
  | d + 1, hd => .join (steps_up h a d (by omega)) (.one (h (a + d + 1) (by omega)))
theorem lines_plus {K : Nat} (h1 : 1 ≤ K) (h : K ≤ 40) (ring : Bool) {a b : Nat} (ha : a < K) (hb' : b < K) : hN K (plusR K (newR K (linesL K ring))) a b = (decide (a < b) || ring) := by
  have hw := wf_new h (linesL K ring)
  rw [hN_wf (wf_plus hw), Bool.eq_iff_iff, hb_plus hw]
  simp only [Bool.or_eq_true, decide_eq_true_eq]
  have hr : ∀ x, x + 1 < K → hb (newR K (linesL K ring)) x (x + 1) = true := fun x hx => (hb_lines h1 h ring x (x + 1)).2 (.inl ⟨rfl, hx⟩)
  have up : ∀ {x y}, x < y → y < K → Steps' (fun a b => hb (newR K (linesL K ring)) a b = true) x y := fun {x y} hxy hy => by
    have := steps_up (r := fun a b => hb (newR K (linesL K ring)) a b = true) hr x (y - x - 1) (by omega)
    rwa [show x + (y - x - 1) + 1 = y by omega] at this
  constructor
  · intro t
    induction t with
    | one hs =>
      rcases (hb_lines h1 h ring _ _).1 hs with ⟨rfl, _⟩ | ⟨hr, _⟩
      · exact .inl (by omega)
      · exact .inr hr
    | @join x c y t1 t2 ih1 ih2 =>
      have hc : c < K := (wf_plus hw x c ((hb_plus hw x c).2 t1)).2
      rcases ih1 ha hc with i1 | i1
      · rcases ih2 hc hb' with i2 | i2
        · exact .inl (by omega)
        · exact .inr i2
      · exact .inr i1
  · rintro (hlt | hring)
    · exact up hlt hb'
    · subst hring
      have hback : hb (newR K (linesL K true)) (K - 1) 0 = true := (hb_lines h1 h true _ _).2 (.inr ⟨rfl, rfl, rfl⟩)
      have s1 : Steps' (fun a b => hb (newR K (linesL K true)) a b = true) a 0 := by
        by_cases hk : a = K - 1
        · subst hk; exact .one hback
        · exact .join (up (y := K - 1) (by omega) (by omega)) (.one hback)
      by_cases hb0 : b = 0
      · subst hb0; exact s1
      · exact .join s1 (up (by omega) hb')
theorem lines_loops {K : Nat} (h1 : 1 ≤ K) (h : K ≤ 40) (ring : Bool) : loopsR K (newR K (linesL K ring)) = ring := by
  unfold loopsR
  cases ring with
  | true =>
    rw [List.any_eq_true]
    exact ⟨0, List.mem_range.2 (by omega), by rw [has_N, lines_plus h1 h true (by omega) (by omega)]; simp⟩
  | false =>
    rw [List.any_eq_false]
    intro a ha
    have ha := List.mem_range.1 ha
    rw [has_N, lines_plus h1 h false ha ha]; simp
theorem filter_one {p : Nat → Bool} {c : Nat} (h : ∀ b, p b = true ↔ b = c) : ∀ n, c < n → (List.range n).filter p = [c]
  | 0, hc => absurd hc (Nat.not_lt_zero _)
  | n + 1, hc => by
    rw [List.range_succ, List.filter_append, List.filter_cons]
    by_cases hn : n = c
    · subst hn
      rw [if_pos ((h n).2 rfl)]
      have : (List.range n).filter p = [] := List.filter_eq_nil_iff.2 fun x hx hp => by have := (h x).1 hp; have := List.mem_range.1 hx; omega
      rw [this]; rfl
    · rw [filter_one h n (by omega), if_neg (fun hp => hn ((h n).1 hp))]; rfl
theorem rowPr_one {n : Nat} {R : Rw} {a c : Nat} (hc : c < n) (h : ∀ b, hN n R a b = true ↔ b = c) : (rowPr n R a n).length = 1 := by
  unfold rowPr
  rw [filter_one (fun b => by rw [has_N]; exact h b) n hc]; rfl
theorem rowPr_none {n : Nat} {R : Rw} {a : Nat} (h : ∀ b, ¬ hN n R a b = true) : (rowPr n R a n).length = 0 := by
  unfold rowPr
  rw [List.filter_eq_nil_iff.2 fun b _ => by rw [has_N]; exact h b]; rfl
theorem pairsK_ones {n : Nat} {R : Rw} : ∀ k, (∀ a, a < k → (rowPr n R a n).length = 1) → (pairsK n k R).length = k
  | 0, _ => by simp [pairsK]
  | k + 1, h => by rw [pairsK_succ, List.length_append, pairsK_ones k (fun a ha => h a (by omega)), h k (by omega)]
theorem lines_pairs {K : Nat} (h1 : 1 ≤ K) (h : K ≤ 40) (ring : Bool) : (pairsR K (newR K (linesL K ring))).length = (linesL K ring).length := by
  have hw := wf_new h (linesL K ring)
  have hk : K = (K - 1) + 1 := by omega
  have e : pairsR K (newR K (linesL K ring)) = pairsK K (K - 1) (newR K (linesL K ring)) ++ rowPr K (newR K (linesL K ring)) (K - 1) K := by
    rw [← pairsK_succ, ← hk]; rfl
  rw [e, List.length_append, pairsK_ones (K - 1), linesL_len]
  · congr 1
    cases ring with
    | true =>
      refine rowPr_one (c := 0) (by omega) fun b => ?_
      rw [hN_wf hw, hb_lines h1 h]
      constructor
      · rintro (⟨_, _⟩ | ⟨_, _, rfl⟩)
        · omega
        · rfl
      · rintro rfl; exact .inr ⟨rfl, rfl, rfl⟩
    | false =>
      refine rowPr_none fun b => ?_
      rw [hN_wf hw, hb_lines h1 h]
      rintro (⟨_, _⟩ | ⟨hf, _⟩)
      · omega
      · cases hf
  · intro a ha
    refine rowPr_one (c := a + 1) (by omega) fun b => ?_
    rw [hN_wf hw, hb_lines h1 h]
    constructor
    · rintro (⟨rfl, _⟩ | ⟨_, _, _⟩)
      · rfl
      · omega
    · rintro rfl; exact .inl ⟨rfl, by omega⟩
theorem lines_maybe {K : Nat} (h : K ≤ 40) {R : Rw} (hw : Wf K R) : (pairsR K (andR (maybeK K R) (maybeK K (newR K [])))).length = K := by
  refine pairsK_ones K fun a ha => rowPr_one ha fun b => ?_
  rw [hN_wf (wf_and (wf_maybe h hw)), hb_and, hb_maybeK _ _ _ _ (by omega), hb_maybeK _ _ _ _ (by omega), hb_new h]
  simp
  omega

set_option maxHeartbeats 4000000 in
theorem sp_relLines (h1 : F 1 = some A_xlaw01_RelLines) (h19 : F 19 = some A_xlaw01_awake) (h10 : F 10 = some A_xlaw00_Place) (pr : Pk_rel F) (n : Int) (ring : Bool) : pureS F 1 [.i .i64 n, .b ring] = some (.b true) := by
  refine pure_of h1 ?_
  obtain ⟨hp0, hp1⟩ := place_lt (v := n) (n := 40) (by omega)
  have hpl := sp_place h10 (v := n) (n := 40) (by omega) (by omega)
  generalize place n 40 = q at hp0 hp1 hpl
  obtain ⟨K, hK, hK1, hK2⟩ : ∃ K : Nat, 1 + q = K ∧ 1 ≤ K ∧ K ≤ 40 := ⟨(1 + q).toNat, by omega, by omega, by omega⟩
  have hKw : IntKind.i64.wrap (1 + q) = K := by rw [i64_wrap (by omega) (by omega)]; exact hK
  simp (disch := omega) only [A_xlaw01_RelLines, wp, Nat.reduceAdd, Nat.reduceMul, Nat.reduceSub, hpl, hKw]
  refine W_loop (fun m e g => ∃ i t, m = K - i ∧ i ≤ K - 1 ∧ e 1 = .b ring ∧ e 5 = .i .i64 K ∧ e 7 = .i .i64 i ∧ e 6 = .sl (pairsC (linesP i)) i t ∧ Live g 2 t) K ?_ ?_
  · refine ⟨0, .rig, rfl, Nat.zero_le _, ?_⟩
    simp (disch := omega) only [wp, Nat.reduceAdd, Nat.reduceMul, Nat.reduceSub]
    exact ⟨rfl, by rfl, .inl rfl⟩
  · rintro m e g ⟨i, t, rfl, hi, h1, h5, h7, h6, ht⟩
    have hw := succ_wrap (k := i) (by omega)
    by_cases hi' : i + 1 < K
    · have hi1 : ((i + 1 : Nat) : Int) < K := by omega
      rcases ht with rfl | ⟨τ, rfl, hτ, hlt⟩
      · simp (disch := omega) only [wp, Nat.reduceAdd, Nat.reduceMul, Nat.reduceSub, h1, h5, h6, h7, hw, hi1, pairsC_len, linesP_len]
        refine ⟨K - (i + 1), by omega, i + 1, ?_⟩
        rw [linesP_succ, pairsC_app, pairsC_one]
        exact ⟨_, rfl, by omega, rfl, rfl, .inr ⟨_, rfl, upd_same _ _ _, by dsimp only; omega⟩⟩
      · simp (disch := omega) only [wp, Nat.reduceAdd, Nat.reduceMul, Nat.reduceSub, h1, h5, h6, h7, hw, hi1, pairsC_len, linesP_len, hτ]
        refine ⟨K - (i + 1), by omega, i + 1, ?_⟩
        rw [linesP_succ, pairsC_app, pairsC_one]
        exact ⟨_, rfl, by omega, rfl, rfl, .inr ⟨_, rfl, upd_same _ _ _, by dsimp only; omega⟩⟩
    · have hi1 : ¬ ((i + 1 : Nat) : Int) < K := by omega
      obtain rfl : i = K - 1 := by omega
      have hlr : loopsR K (newR K (linesL K ring)) = ring := lines_loops hK1 hK2 ring
      have hlp := lines_pairs hK1 hK2 ring
      have hlm := lines_maybe hK2 (wf_new hK2 (linesL K ring))
      have hlh : ∀ a b : Nat, a < K → b < K → has K (plusR K (newR K (linesL K ring))) a b = (decide (a < b) || ring) := fun a b ha hb' => by rw [has_N]; exact lines_plus hK1 hK2 ring ha hb'
      have hcK : clamp (K : Int) = K := by unfold clamp; omega
      have hLl : (linesL K ring).length ≤ 40 := by rw [linesL_len]; split <;> omega
      have hnew := fun l t h => sp_new pr (K : Int) l t h
      rw [hcK] at hnew
      have hnew0 : pureS F 11 [.i .i64 K, .sl [] 0 .non] = some (.ptr (relC K (newR K []))) := hnew [] .non (by decide)
      simp (disch := omega) only [wp, Nat.reduceAdd, Nat.reduceMul, Nat.reduceSub, h1, h5, h6, h7, hw, hi1]
      refine sel_cut (fun e g => ∃ t, e 1 = .b ring ∧ e 5 = .i .i64 K ∧ e 6 = .sl (pairsC (linesL K ring)) (linesL K ring).length t) ?_ ?_
      · cases ring with
        | true =>
          have hw2 : IntKind.i64.wrap ((K : Int) - 1) = ((K - 1 : Nat) : Int) := by rw [i64_wrap (by omega) (by omega)]; omega
          have hL : linesL K true = linesP (K - 1) ++ [(((K - 1 : Nat) : Int), 0)] := rfl
          rcases ht with rfl | ⟨τ, rfl, hτ, hlt⟩
          · simp (disch := omega) only [wp, Nat.reduceAdd, Nat.reduceMul, Nat.reduceSub, h1, h5, h6, h7, hw2, pairsC_len, linesP_len]
            rw [hL, pairsC_app, pairsC_one, List.length_append, linesP_len]
            exact ⟨_, rfl⟩
          · simp (disch := omega) only [wp, Nat.reduceAdd, Nat.reduceMul, Nat.reduceSub, h1, h5, h6, h7, hw2, pairsC_len, linesP_len, hτ]
            rw [hL, pairsC_app, pairsC_one, List.length_append, linesP_len]
            exact ⟨_, rfl⟩
        | false =>
          have hL : linesL K false = linesP (K - 1) := by simp [linesL]
          simp (disch := omega) only [wp, Nat.reduceAdd, Nat.reduceMul, Nat.reduceSub, h1, h5, h6, h7]
          rw [hL, linesP_len]
          exact ⟨_, rfl⟩
      · rintro e g ⟨t, h1, h5, h6⟩
        simp (disch := omega) only [wp, Nat.reduceAdd, Nat.reduceMul, Nat.reduceSub, h1, h5, h6, hnew, sp_plus pr hK2]
        refine W_loop (fun m e g => ∃ a, m = K - a ∧ a ≤ K ∧ e 1 = .b ring ∧ e 5 = .i .i64 K ∧ e 6 = .sl (pairsC (linesL K ring)) (linesL K ring).length t ∧ e 8 = .ptr (relC K (newR K (linesL K ring))) ∧ e 9 = .ptr (relC K (plusR K (newR K (linesL K ring)))) ∧ e 10 = .i .i64 a) K ?_ ?_
        · refine ⟨0, rfl, Nat.zero_le _, ?_⟩
          simp (disch := omega) only [wp, Nat.reduceAdd, Nat.reduceMul, Nat.reduceSub, h1, h5, h6]
          rfl
        · rintro m e g ⟨a, rfl, ha, h1, h5, h6, h8, h9, h10⟩
          by_cases ha' : a < K
          · have ha1 : (a : Int) < K := by omega
            have hwa := succ_wrap (k := a) (by omega)
            simp (disch := omega) only [wp, Nat.reduceAdd, Nat.reduceMul, Nat.reduceSub, h1, h5, h6, h8, h9, h10, ha1]
            refine W_loop (fun m e g => ∃ b, m = K - b ∧ b ≤ K ∧ e 1 = .b ring ∧ e 5 = .i .i64 K ∧ e 6 = .sl (pairsC (linesL K ring)) (linesL K ring).length t ∧ e 8 = .ptr (relC K (newR K (linesL K ring))) ∧ e 9 = .ptr (relC K (plusR K (newR K (linesL K ring)))) ∧ e 10 = .i .i64 a ∧ e 11 = .i .i64 b) K ?_ ?_
            · refine ⟨0, rfl, Nat.zero_le _, ?_⟩
              simp (disch := omega) only [wp, Nat.reduceAdd, Nat.reduceMul, Nat.reduceSub, h1, h5, h6, h8, h9, h10]
              rfl
            · rintro m e g ⟨b, rfl, hb', h1, h5, h6, h8, h9, h10, h11⟩
              by_cases hb1 : b < K
              · have hb2 : (b : Int) < K := by omega
                have hwb := succ_wrap (k := b) (by omega)
                have hh := hlh a b ha' hb1
                by_cases hab : a < b
                · have hab' : (a : Int) < b := by omega
                  simp only [hab, decide_true, Bool.true_or] at hh
                  simp (disch := omega) only [wp, Nat.reduceAdd, Nat.reduceMul, Nat.reduceSub, h1, h5, h6, h8, h9, h10, h11, hb2, hab', hwb, sp_has pr hK2, hh]
                  exact ⟨K - (b + 1), by omega, b + 1, rfl, by omega, rfl⟩
                · have hab' : ¬ (a : Int) < b := by omega
                  simp only [hab, decide_false, Bool.false_or] at hh
                  simp (disch := omega) only [wp, Nat.reduceAdd, Nat.reduceMul, Nat.reduceSub, h1, h5, h6, h8, h9, h10, h11, hb2, hab', hwb, sp_has pr hK2, hh]
                  exact ⟨K - (b + 1), by omega, b + 1, rfl, by omega, rfl⟩
              · obtain rfl : b = K := by omega
                have hb2 : ¬ ((b : Int) < b) := by omega
                simp (disch := omega) only [wp, Nat.reduceAdd, Nat.reduceMul, Nat.reduceSub, h1, h5, h6, h8, h9, h10, h11, hb2, hwa]
                exact ⟨b - (a + 1), by omega, a + 1, rfl, by omega, rfl⟩
          · obtain rfl : a = K := by omega
            have ha1 : ¬ ((a : Int) < a) := by omega
            simp (disch := omega) only [wp, Nat.reduceAdd, Nat.reduceMul, Nat.reduceSub, h1, h5, h6, h8, h9, h10, ha1, sp_loops pr hK2, hlr, sp_pairs pr, hlp, sp_maybe pr hK2, sp_len pr, hnew0, sp_and pr, Nat.max_self, hlm, sp_awake h19 pr]
end Go.Ab
end
section
/- exegesislaw01.RelSizes: the law holds of what the functions compute; the walk. -/
set_option linter.unusedVariables false
set_option linter.unusedSimpArgs false
namespace Go.Ab
variable {F : Funs}
def inI (k : Nat) (a b : Int) : Bool := decide (0 ≤ a ∧ a < k ∧ 0 ≤ b ∧ b < k)
theorem hb_one {k : Nat} (hk : k ≤ 40) (a b : Int) (x y : Nat) : hb (newR k [(a, b)]) x y = true ↔ inI k a b = true ∧ a = x ∧ b = y := by
  rw [hb_new hk]
  simp only [List.any_cons, List.any_nil, Bool.or_false, Bool.and_eq_true, decide_eq_true_eq, Prod.mk.injEq, inI]
  omega
theorem hb_none {k : Nat} (hk : k ≤ 40) (x y : Nat) : hb (newR k []) x y = false := by
  rw [hb_new hk]; simp
theorem has_one {k m : Nat} (hk : k ≤ 40) (hm : k ≤ m) {a b : Int} {R : Rw} (h : ∀ x y, hb R x y = true ↔ inI k a b = true ∧ a = x ∧ b = y) : has m R a b = inI k a b := by
  unfold has
  rw [Bool.eq_iff_iff]
  simp only [Bool.and_eq_true, decide_eq_true_eq]
  constructor
  · rintro ⟨⟨h1, h2, h3, h4⟩, h5⟩
    exact ((h a.toNat b.toNat).1 h5).1
  · intro hi
    have hi' := hi
    simp only [inI, decide_eq_true_eq] at hi
    exact ⟨by omega, (h a.toNat b.toNat).2 ⟨hi', by omega, by omega⟩⟩
theorem pairsK_zero {n : Nat} {R : Rw} : ∀ k, (∀ a, a < k → (rowPr n R a n).length = 0) → (pairsK n k R).length = 0
  | 0, _ => by simp [pairsK]
  | k + 1, h => by rw [pairsK_succ, List.length_append, pairsK_zero k (fun a ha => h a (by omega)), h k (by omega)]
theorem pairsK_single {n : Nat} {R : Rw} {c : Nat} (h1 : (rowPr n R c n).length = 1) (h : ∀ a, a ≠ c → (rowPr n R a n).length = 0) : ∀ k, c < k → (pairsK n k R).length = 1
  | 0, hc => absurd hc (Nat.not_lt_zero _)
  | k + 1, hc => by
    rw [pairsK_succ, List.length_append]
    by_cases hk : k = c
    · subst hk
      rw [h1, pairsK_zero k (fun a ha => h a (by omega))]
    · rw [pairsK_single h1 h k (by omega), h k hk]
theorem pairs_one {k : Nat} (hk : k ≤ 40) {a b : Int} : (((pairsR k (newR k [(a, b)])).length : Int) == 1) = inI k a b := by
  have hw := wf_new hk [(a, b)]
  cases hi : inI k a b with
  | true =>
    have hi' := hi
    simp only [inI, decide_eq_true_eq] at hi
    have : (pairsR k (newR k [(a, b)])).length = 1 := by
      refine pairsK_single (c := a.toNat) (rowPr_one (c := b.toNat) (by omega) fun y => ?_) (fun x hx => rowPr_none fun y => ?_) k (by omega)
      · rw [hN_wf hw, hb_one hk]
        constructor
        · rintro ⟨_, _, h⟩; omega
        · rintro rfl; exact ⟨hi', by omega, by omega⟩
      · rw [hN_wf hw, hb_one hk]
        rintro ⟨_, h, _⟩; omega
    rw [this]; rfl
  | false =>
    have : (pairsR k (newR k [(a, b)])).length = 0 := by
      refine pairsK_zero k fun x _ => rowPr_none fun y => ?_
      rw [hN_wf hw, hb_one hk, hi]
      rintro ⟨h, _⟩; cases h
    rw [this]; rfl
theorem pairs_none {k : Nat} {R : Rw} (h : ∀ a b, hb R a b = false) : (((pairsR k R).length : Int) == 0) = true := by
  have : (pairsR k R).length = 0 := by
    refine pairsK_zero k fun x _ => rowPr_none fun y => ?_
    unfold hN; rw [h]; simp
  rw [this]; rfl

set_option maxHeartbeats 4000000 in
set_option maxRecDepth 100000 in
theorem sp_relSizes (ls : RelLs F) (h3 : F 3 = some A_xlaw01_RelSizes) (h19 : F 19 = some A_xlaw01_awake) (hbk : F 25 = some A_rel_Rel_Back) (pr : Pk_rel F) (n m a b : Int) : pureS F 3 [.i .i64 n, .i .i64 m, .i .i64 a, .i .i64 b] = some (.b true) := by
  refine pure_of h3 ?_
  have hn1 : pureS F 11 [.i .i64 n, .sl [.i .i64 a, .i .i64 b] 1 .non] = some (.ptr (relC (clamp n) (newR (clamp n) [(a, b)]))) := sp_new pr n [(a, b)] .non (by simp)
  have hm1 : pureS F 11 [.i .i64 m, .sl [] 0 .non] = some (.ptr (relC (clamp m) (newR (clamp m) []))) := sp_new pr m [] .non (by simp)
  have hk := clamp_le n
  have hj := clamp_le m
  have c1 : (if (40 : Int) < (if n < 0 then (0 : Int) else n) then (40 : Int) else (if n < 0 then (0 : Int) else n)) = clamp n := by unfold clamp; split <;> split <;> omega
  have c2 : (if (40 : Int) < (if m < 0 then (0 : Int) else m) then (40 : Int) else (if m < 0 then (0 : Int) else m)) = clamp m := by unfold clamp; split <;> split <;> omega
  generalize clamp n = k at hn1 hk c1
  generalize clamp m = j at hm1 hj c2
  have hR := hb_one hk a b
  have hS := hb_none hj
  have wR := wf_new hk [(a, b)]
  have wS := wf_new hj []
  have p1 := pairs_one hk (a := a) (b := b)
  generalize newR k [(a, b)] = R at hn1 hR wR p1
  generalize newR j [] = S at hm1 hS wS
  have f1 : has k R a b = inI k a b := has_one hk (Nat.le_refl _) hR
  have f4 : has (max k j) (orR R S) a b = inI k a b := has_one hk (by omega) (fun x y => by rw [hb_or, hS, Bool.or_false]; exact hR x y)
  have f6 : (((pairsR (max k j) (andR R S)).length : Int) == 0) = true := pairs_none fun x y => by rw [hb_and, hS, Bool.and_false]
  have f7 : noneR (lessR S R) = true := (in_iff hj wS).2 fun x y h => by rw [hS] at h; cases h
  have f8 : noneR (lessR R S) = !inI k a b := by
    cases hi : inI k a b with
    | true =>
      rw [Bool.not_true, Bool.eq_false_iff, ne_eq, in_iff hk wR]
      intro h
      have hi' := hi
      simp only [inI, decide_eq_true_eq] at hi
      have := h a.toNat b.toNat ((hR _ _).2 ⟨hi', by omega, by omega⟩)
      rw [hS] at this; cases this
    | false =>
      exact (in_iff hk wR).2 fun x y h => by have := ((hR x y).1 h).1; rw [hi] at this; cases this
  have f9 : has k (backR k R) b a = inI k a b := by
    have h : ∀ x y, hb (backR k R) x y = true ↔ inI k b a = true ∧ b = x ∧ a = y := fun x y => by
      rw [hb_back hk, hN_wf wR, hR]
      have : inI k a b = inI k b a := by unfold inI; rw [decide_eq_decide]; omega
      rw [this]
      constructor <;> rintro ⟨h1, h2, h3⟩ <;> exact ⟨h1, h3, h2⟩
    rw [has_one hk (Nat.le_refl _) h]
    unfold inI; rw [decide_eq_decide]; omega
  have mx1 := Nat.max_comm j k
  have hmk : max k j ≤ 40 := by omega
  have aw := sp_awake h19 pr
  by_cases i1 : 0 ≤ a
  · by_cases i2 : 0 ≤ b
    · by_cases i3 : a < k
      · by_cases i4 : b < k
        · have hI : inI k a b = true := by simp [inI, i1, i2, i3, i4]
          rw [hI] at f1 p1 f4 f8 f9
          simp (disch := omega) only [A_xlaw01_RelSizes, wp, Nat.reduceAdd, Nat.reduceMul, Nat.reduceSub, hn1, hm1, c1, c2, sp_len pr, i1, i2, i3, i4, sp_has pr, f1, sp_pairs pr, p1, sp_or pr, maxI, f4, sp_then pr, mx1, sp_and pr, f6, sp_in ls pr, f7, f8, sp_back hbk pr, f9, aw, bne_self_eq_false]
        · have hI : inI k a b = false := by simp [inI, i4]
          rw [hI] at f1 p1 f4 f8 f9
          simp (disch := omega) only [A_xlaw01_RelSizes, wp, Nat.reduceAdd, Nat.reduceMul, Nat.reduceSub, hn1, hm1, c1, c2, sp_len pr, i1, i2, i3, i4, sp_has pr, f1, sp_pairs pr, p1, sp_or pr, maxI, f4, sp_then pr, mx1, sp_and pr, f6, sp_in ls pr, f7, f8, sp_back hbk pr, f9, aw, bne_self_eq_false]
      · have hI : inI k a b = false := by simp [inI, i3]
        rw [hI] at f1 p1 f4 f8 f9
        simp (disch := omega) only [A_xlaw01_RelSizes, wp, Nat.reduceAdd, Nat.reduceMul, Nat.reduceSub, hn1, hm1, c1, c2, sp_len pr, i1, i2, i3, sp_has pr, f1, sp_pairs pr, p1, sp_or pr, maxI, f4, sp_then pr, mx1, sp_and pr, f6, sp_in ls pr, f7, f8, sp_back hbk pr, f9, aw, bne_self_eq_false]
    · have hI : inI k a b = false := by simp [inI, i2]
      rw [hI] at f1 p1 f4 f8 f9
      simp (disch := omega) only [A_xlaw01_RelSizes, wp, Nat.reduceAdd, Nat.reduceMul, Nat.reduceSub, hn1, hm1, c1, c2, sp_len pr, i1, i2, sp_has pr, f1, sp_pairs pr, p1, sp_or pr, maxI, f4, sp_then pr, mx1, sp_and pr, f6, sp_in ls pr, f7, f8, sp_back hbk pr, f9, aw, bne_self_eq_false]
  · have hI : inI k a b = false := by simp [inI, i1]
    rw [hI] at f1 p1 f4 f8 f9
    simp (disch := omega) only [A_xlaw01_RelSizes, wp, Nat.reduceAdd, Nat.reduceMul, Nat.reduceSub, hn1, hm1, c1, c2, sp_len pr, i1, sp_has pr, f1, sp_pairs pr, p1, sp_or pr, maxI, f4, sp_then pr, mx1, sp_and pr, f6, sp_in ls pr, f7, f8, sp_back hbk pr, f9, aw, bne_self_eq_false]
end Go.Ab
end
section
/- exegesislaw01.RelAlgebra: the law holds of what the functions compute; the walk. -/
set_option linter.unusedVariables false
set_option linter.unusedSimpArgs false
namespace Go.Ab
variable {F : Funs}
theorem ints_part {l : List Int} {k : Nat} (h : k < l.length) : part ((intsC l).drop (k * 1)) 0 none = some (.i .i64 (l.getD k 0)) := by
  simp only [part, intsC, List.getElem?_drop, Nat.mul_one, Nat.add_zero, List.getElem?_map, List.getElem?_eq_getElem h, Option.map_some, List.getD_eq_getElem?_getD, Option.getD_some]
def smP (k : Nat) (v : Int) : Int × Int := (place v ((k * k : Nat) : Int) / k, place v ((k * k : Nat) : Int) % k)
def someP (k : Nat) (l : List Int) (i : Nat) : List (Int × Int) := (l.take i).map (smP k)
theorem someP_succ {k : Nat} {l : List Int} {i : Nat} (h : i < l.length) : someP k l (i + 1) = someP k l i ++ [smP k (l.getD i 0)] := by
  unfold someP
  rw [List.take_add_one, List.getElem?_eq_getElem h, List.getD_eq_getElem?_getD, List.getElem?_eq_getElem h, List.map_append]
  rfl
theorem someP_len {k : Nat} {l : List Int} {i : Nat} (h : i ≤ l.length) : (someP k l i).length = i := by simp [someP]; omega
def someR (k : Nat) (l : List Int) : Rw := newR k (someP k l (min l.length 100))
set_option maxHeartbeats 4000000 in
theorem sp_some (h20 : F 20 = some A_xlaw01_some) (h10 : F 10 = some A_xlaw00_Place) (pr : Pk_rel F) {k : Nat} (hk1 : 1 ≤ k) (hk : k ≤ 12) (l : List Int) (t : Tok) : pureS F 20 [.i .i64 k, .sl (intsC l) l.length t] = some (.ptr (relC k (someR k l))) := by
  refine pure_of h20 ?_
  have hkk : 1 ≤ k * k ∧ k * k ≤ 144 := ⟨Nat.mul_le_mul hk1 hk1, Nat.mul_le_mul hk hk⟩
  have hw : IntKind.i64.wrap ((k : Int) * k) = ((k * k : Nat) : Int) := by
    have : (k : Int) * k = ((k * k : Nat) : Int) := by simp
    rw [this, i64_wrap (by omega) (by omega)]
  simp (disch := omega) only [A_xlaw01_some, wp, Nat.reduceAdd, Nat.reduceMul, Nat.reduceSub]
  refine W_loop (fun m e g => ∃ i t', m = l.length - i ∧ i ≤ l.length ∧ i ≤ 100 ∧ e 0 = .i .i64 k ∧ e 1 = .sl (intsC l) l.length t ∧ e 6 = .i .i64 i ∧ e 5 = .sl (pairsC (someP k l i)) i t' ∧ Live g 2 t') l.length ?_ ?_
  · refine ⟨0, .rig, rfl, Nat.zero_le _, by omega, ?_⟩
    simp (disch := omega) only [wp, Nat.reduceAdd, Nat.reduceMul, Nat.reduceSub]
    exact ⟨rfl, by rfl, .inl rfl⟩
  · rintro m e g ⟨i, t', rfl, hi, hi100, h0, h1, h6, h5, ht⟩
    have hws := succ_wrap (k := i) (by omega)
    by_cases hi' : i < l.length
    · have hi1 : (i : Int) < l.length := by omega
      by_cases hi2 : i < 100
      · have hi3 : (i : Int) < 100 := by omega
        have hp := ints_part hi'
        have hsucc := someP_succ (k := k) hi'
        have hlen := someP_len (k := k) hi
        generalize l.getD i 0 = v at hp hsucc
        have hpl := sp_place h10 (v := v) (n := ((k * k : Nat) : Int)) (by omega) (by omega)
        obtain ⟨q0, q1⟩ := place_lt (v := v) (n := ((k * k : Nat) : Int)) (by omega)
        unfold smP at hsucc
        generalize place v ((k * k : Nat) : Int) = q at hpl q0 q1 hsucc
        have hq : IntKind.i64.wrap (q.tdiv k) = q / k := by
          rw [Int.tdiv_eq_ediv_of_nonneg q0]
          have h1 : 0 ≤ q / k := Int.ediv_nonneg q0 (by omega)
          have h2 : q / k ≤ q := Int.ediv_le_self _ q0
          exact i64_wrap (by omega) (by omega)
        have hr : q.tmod k = q % k := Int.tmod_eq_emod_of_nonneg q0
        rcases ht with rfl | ⟨τ, rfl, hτ, hlt⟩
        · simp (disch := omega) only [wp, Nat.reduceAdd, Nat.reduceMul, Nat.reduceSub, h0, h1, h5, h6, hi1, hi3, hp, hw, hpl, b_quo, b_rem, hq, hr, hws, pairsC_len, hlen]
          refine ⟨l.length - (i + 1), by omega, i + 1, ?_⟩
          rw [hsucc, pairsC_app, pairsC_one]
          exact ⟨_, rfl, by omega, by omega, rfl, rfl, .inr ⟨_, rfl, upd_same _ _ _, by dsimp only; omega⟩⟩
        · simp (disch := omega) only [wp, Nat.reduceAdd, Nat.reduceMul, Nat.reduceSub, h0, h1, h5, h6, hi1, hi3, hp, hw, hpl, b_quo, b_rem, hq, hr, hws, pairsC_len, hlen, hτ]
          refine ⟨l.length - (i + 1), by omega, i + 1, ?_⟩
          rw [hsucc, pairsC_app, pairsC_one]
          exact ⟨_, rfl, by omega, by omega, rfl, rfl, .inr ⟨_, rfl, upd_same _ _ _, by dsimp only; omega⟩⟩
      · have hi3 : ¬ (i : Int) < 100 := by omega
        have hmin : min l.length 100 = i := by omega
        have hlen := someP_len (k := k) hi
        have hnew := sp_new pr (k : Int) (someP k l i) .non (by omega)
        rw [hlen, show clamp (k : Int) = k by unfold clamp; omega] at hnew
        have hsR : someR k l = newR k (someP k l i) := by unfold someR; rw [hmin]
        simp (disch := omega) only [wp, Nat.reduceAdd, Nat.reduceMul, Nat.reduceSub, h0, h1, h5, h6, hi1, hi3, hnew]
        rw [hsR]
    · have hi1 : ¬ (i : Int) < l.length := by omega
      have hmin : min l.length 100 = i := by omega
      have hlen := someP_len (k := k) hi
      have hnew := sp_new pr (k : Int) (someP k l i) .non (by omega)
      rw [hlen, show clamp (k : Int) = k by unfold clamp; omega] at hnew
      have hsR : someR k l = newR k (someP k l i) := by unfold someR; rw [hmin]
      simp (disch := omega) only [wp, Nat.reduceAdd, Nat.reduceMul, Nat.reduceSub, h0, h1, h5, h6, hi1, hnew]
      rw [hsR]

theorem sp_is (ls : RelLs F) (h21 : F 21 = some A_xlaw01_RelAlgebra_1) (pr : Pk_rel F) {k : Nat} (hk : k ≤ 40) {R S : Rw} (hR : Wf k R) (hS : Wf k S) (h : ∀ a b, hb R a b = true ↔ hb S a b = true) : pureS F 21 [.ptr (relC k R), .ptr (relC k S)] = some (.b true) := by
  refine pure_of h21 ?_
  have e1 : noneR (lessR R S) = true := (in_iff hk hR).2 fun a b => (h a b).1
  have e2 : noneR (lessR S R) = true := (in_iff hk hS).2 fun a b => (h a b).2
  simp (disch := omega) only [A_xlaw01_RelAlgebra_1, wp, Nat.reduceAdd, Nat.reduceMul, Nat.reduceSub, sp_in ls pr hk hk, e1, e2]

theorem Steps'.mono {r s : Nat → Nat → Prop} (h : ∀ a b, r a b → s a b) {a b : Nat} (t : Steps' r a b) : Steps' s a b := by
  induction t with
  | one h' => exact .one (h _ _ h')
  | join _ _ i1 i2 => exact .join i1 i2
theorem Steps'.flip {r s : Nat → Nat → Prop} (h : ∀ a b, r a b → s b a) {a b : Nat} (t : Steps' r a b) : Steps' s b a := by
  induction t with
  | one h' => exact .one (h _ _ h')
  | join _ _ i1 i2 => exact .join i2 i1
theorem Steps'.again {r : Nat → Nat → Prop} {a b : Nat} (t : Steps' (Steps' r) a b) : Steps' r a b := by
  induction t with
  | one h => exact h
  | join _ _ i1 i2 => exact .join i1 i2
theorem Steps'.first {r : Nat → Nat → Prop} {a b : Nat} (t : Steps' r a b) : r a b ∨ ∃ c, r a c ∧ Steps' r c b := by
  induction t with
  | one h => exact .inl h
  | @join a c b t1 t2 i1 i2 =>
    rcases i1 with h | ⟨d, h1, h2⟩
    · exact .inr ⟨c, h, t2⟩
    · exact .inr ⟨d, h1, .join h2 t2⟩
theorem plus_plus {k : Nat} {R : Rw} (hR : Wf k R) (a b : Nat) : hb (plusR k (plusR k R)) a b = true ↔ hb (plusR k R) a b = true := by
  rw [hb_plus (wf_plus hR), hb_plus hR]
  constructor
  · intro t
    exact (t.mono fun a b h => (hb_plus hR a b).1 h).again
  · intro t; exact .one ((hb_plus hR a b).2 t)
theorem loops_plus {k : Nat} {R : Rw} (hR : Wf k R) : loopsR k (plusR k R) = loopsR k R := by
  rw [Bool.eq_iff_iff, loops_iff (wf_plus hR), loops_iff hR]
  constructor
  · rintro ⟨a, t⟩; exact ⟨a, (t.mono fun a b h => (hb_plus hR a b).1 h).again⟩
  · rintro ⟨a, t⟩; exact ⟨a, .one ((hb_plus hR a a).2 t)⟩
theorem loops_back {k : Nat} (hk : k ≤ 40) {R : Rw} (hR : Wf k R) : loopsR k (backR k R) = loopsR k R := by
  rw [Bool.eq_iff_iff, loops_iff (wf_back hk), loops_iff hR]
  have e : ∀ a b, hb (backR k R) a b = true ↔ hb R b a = true := fun a b => by rw [hb_back hk, hN_wf hR]
  constructor
  · rintro ⟨a, t⟩; exact ⟨a, t.flip fun a b h => (e a b).1 h⟩
  · rintro ⟨a, t⟩; exact ⟨a, t.flip fun a b h => (e b a).2 h⟩

set_option maxRecDepth 100000 in
set_option maxHeartbeats 4000000 in
theorem sp_relAlgebra (ls : RelLs F) (h2 : F 2 = some A_xlaw01_RelAlgebra) (h21 : F 21 = some A_xlaw01_RelAlgebra_1) (h20 : F 20 = some A_xlaw01_some) (h19 : F 19 = some A_xlaw01_awake) (h10 : F 10 = some A_xlaw00_Place) (hbk : F 25 = some A_rel_Rel_Back) (pr : Pk_rel F)
    (n : Int) (a b c : List Int) (ta tb tc : Tok) : pureS F 2 [.i .i64 n, .sl (intsC a) a.length ta, .sl (intsC b) b.length tb, .sl (intsC c) c.length tc] = some (.b true) := by
  refine pure_of h2 ?_
  obtain ⟨hp0, hp1⟩ := place_lt (v := n) (n := 12) (by omega)
  have hpl := sp_place h10 (v := n) (n := 12) (by omega) (by omega)
  generalize place n 12 = q at hp0 hp1 hpl
  obtain ⟨k, hK, hK1, hK2⟩ : ∃ k : Nat, 1 + q = k ∧ 1 ≤ k ∧ k ≤ 12 := ⟨(1 + q).toNat, by omega, by omega, by omega⟩
  have hKw : IntKind.i64.wrap (1 + q) = k := by rw [i64_wrap (by omega) (by omega)]; exact hK
  have hk : k ≤ 40 := by omega
  have sa := sp_some h20 h10 pr hK1 hK2 a .non
  have sb := sp_some h20 h10 pr hK1 hK2 b .non
  have sc := sp_some h20 h10 pr hK1 hK2 c .non
  have wR : Wf k (someR k a) := wf_new hk _
  have wS : Wf k (someR k b) := wf_new hk _
  have wT : Wf k (someR k c) := wf_new hk _
  generalize someR k a = R at sa wR
  generalize someR k b = S at sb wS
  generalize someR k c = T at sc wT
  have wRS := wf_then wR wS
  have wST := wf_then wS wT
  have wRT := wf_then wR wT
  have wP := wf_plus wR
  have wbR : Wf k (backR k R) := wf_back hk
  have wbS : Wf k (backR k S) := wf_back hk
  have bk : ∀ {X : Rw}, Wf k X → ∀ a b, hb (backR k X) a b = hb X b a := fun hX a b => by rw [hb_back hk, hN_wf hX]
  have t1 := sp_is ls h21 pr hk (wf_then wRS wT) (wf_then wR wST) fun a b => by
    rw [hb_then wRS, hb_then wR]
    constructor
    · rintro ⟨c, h1, h2⟩
      obtain ⟨d, h3, h4⟩ := (hb_then wR _ _).1 h1
      exact ⟨d, h3, (hb_then wS _ _).2 ⟨c, h4, h2⟩⟩
    · rintro ⟨d, h3, h1⟩
      obtain ⟨c, h4, h2⟩ := (hb_then wS _ _).1 h1
      exact ⟨c, (hb_then wR _ _).2 ⟨d, h3, h4⟩, h2⟩
  have t2 := sp_is ls h21 pr hk (wf_then wR (wf_or wS wT)) (wf_or wRS wRT) fun a b => by
    rw [hb_then wR, hb_or, Bool.or_eq_true, hb_then wR, hb_then wR]
    constructor
    · rintro ⟨c, h1, h2⟩
      rw [hb_or, Bool.or_eq_true] at h2
      exact h2.elim (fun h => .inl ⟨c, h1, h⟩) (fun h => .inr ⟨c, h1, h⟩)
    · rintro (⟨c, h1, h2⟩ | ⟨c, h1, h2⟩)
      · exact ⟨c, h1, by rw [hb_or, h2]; rfl⟩
      · exact ⟨c, h1, by rw [hb_or, h2, Bool.or_true]⟩
  have t3 := sp_is ls h21 pr hk (wf_back hk (R := thenR k R S)) (wf_then wbS wbR) fun a b => by
    rw [bk wRS, hb_then wR, hb_then wbS]
    constructor
    · rintro ⟨c, h1, h2⟩; exact ⟨c, by rw [bk wS]; exact h2, by rw [bk wR]; exact h1⟩
    · rintro ⟨c, h1, h2⟩; exact ⟨c, by rw [← bk wR]; exact h2, by rw [← bk wS]; exact h1⟩
  have t4 := sp_is ls h21 pr hk (wf_back hk (R := backR k R)) wR fun a b => by rw [bk wbR, bk wR]
  have t5 := sp_is ls h21 pr hk (wf_plus wP) wP fun a b => plus_plus wR a b
  have t6 := sp_is ls h21 pr hk wP (wf_or wR (wf_then wR wP)) fun a b => by
    rw [hb_or, Bool.or_eq_true, hb_then wR, hb_plus wR]
    constructor
    · intro t
      rcases t.first with h | ⟨c, h1, h2⟩
      · exact .inl h
      · exact .inr ⟨c, h1, (hb_plus wR _ _).2 h2⟩
    · rintro (h | ⟨c, h1, h2⟩)
      · exact .one h
      · exact .join (.one h1) ((hb_plus wR _ _).1 h2)
  have t7 := sp_is ls h21 pr hk (wf_and wR (S := S)) (wf_less wR (S := lessR R S)) fun a b => by
    rw [hb_and, hb_less, hb_less]
    cases hb R a b <;> cases hb S a b <;> simp
  have t8 := loops_plus wR
  have t9 := loops_back hk wR
  have aw := sp_awake h19 pr
  simp (disch := omega) only [A_xlaw01_RelAlgebra, wp, Nat.reduceAdd, Nat.reduceMul, Nat.reduceSub, hpl, hKw, sa, sb, sc, sp_plus pr, sp_then pr, sp_or pr, sp_back hbk pr, sp_and pr, sp_less ls pr, sp_loops pr, Nat.max_self, t1, t2, t3, t4, t5, t6, t7, t8, t9, aw]
end Go.Ab
end
