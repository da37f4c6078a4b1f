/- What RulesModes rests on, part 3: lemmas, no claim of its own. -/
import Derived.Test.YtkbggcmlmlnepaaChecked
import Derived.KernelRfl
import Derived.Test.YtkbggcmlmlnepaaPRulesModes2
section
namespace Go.Ab
def A_slices_Contains_lint_int : AFun := { res := [.t 4], body := (.seq (.reg false [{ dst := some 4, op := .mv (.c (.b false)) }])
 (.seq (.reg false [{ dst := some 5, op := .mv (.t 0) },
  { dst := some 6, op := .mv (.t 1) },
  { dst := some 7, op := .call .pure (.c (.fn 419 [] [])) [.t 5, .t 6] },
  { dst := some 8, op := .bin .geq (.t 7) (.c (.i .i64 0)) },
  { dst := some 4, op := .mv (.t 8) }])
 .ret)) }
def A_slices_Clone_llapi_Instr_lapi_Instr : AFun := { res := [.t 2], body := (.seq (.reg false [{ dst := some 2, op := .mv (.c (.sl [] 0 .rig)) }])
 (.seq (.seq (.reg false [{ dst := some 3, op := .mv (.t 0) },
  { dst := some 4, op := .eqs false (.t 3) }])
 (.cond (.t 4) (.seq (.reg false [{ dst := some 2, op := .mv (.c (.sl [] 0 .rig)) }])
 .ret)
 .skip))
 (.seq (.reg false [{ dst := some 5, op := .bsl true 0 [] [] },
  { dst := some 6, op := .mv (.t 0) },
  { dst := some 7, op := .appM 1 24 (.t 5) (.t 6) },
  { dst := some 2, op := .mv (.t 7) }])
 .ret))) }
def A_slices_Sort_lint_int : AFun := { res := [], body := (.seq (.reg false [{ dst := some 3, op := .mv (.t 0) },
  { dst := some 4, op := .len (.t 3) },
  { dst := some 2, op := .mv (.t 4) }])
 (.reg false [{ dst := some 5, op := .mv (.t 0) },
  { dst := some 6, op := .mv (.t 2) },
  { dst := some 7, op := .mv (.t 2) },
  { dst := some 8, op := .conv .u64 (.t 7) },
  { dst := some 9, op := .call .pure (.c (.fn 421 [] [])) [.t 8] },
  { dst := some 10, op := .call .pure (.c (.fn 420 [] [])) [.t 5, .c (.i .i64 0), .t 6, .t 9] }])) }
def A_slices_Compact_lint_int : AFun := { res := [.t 2], body := (.seq (.reg false [{ dst := some 2, op := .mv (.c (.sl [] 0 .rig)) }])
 (.seq (.seq (.reg false [{ dst := some 6, op := .mv (.t 0) },
  { dst := some 7, op := .len (.t 6) },
  { dst := some 8, op := .bin .lss (.t 7) (.c (.i .i64 2)) }])
 (.cond (.t 8) (.seq (.reg false [{ dst := some 9, op := .mv (.t 0) },
  { dst := some 2, op := .mv (.t 9) }])
 .ret)
 .skip))
 (.seq (.seq (.reg false [{ dst := some 3, op := .mv (.c (.i .i64 1)) }])
 (.blk 0 (.loop (.seq (.seq (.reg false [{ dst := some 10, op := .mv (.t 3) },
  { dst := some 11, op := .mv (.t 0) },
  { dst := some 12, op := .len (.t 11) },
  { dst := some 13, op := .bin .lss (.t 10) (.t 12) }])
 (.cond (.t 13) .skip
 (.ext 0)))
 (.seq (.blk 1 (.seq (.reg true [{ dst := some 16, op := .mv (.t 0) },
  { dst := some 17, op := .mv (.t 3) },
  { dst := some 18, op := .ia 1 (.t 16) (.t 17) },
  { dst := some 19, op := .ld none (.t 18), pre := [] },
  { dst := some 20, op := .mv (.t 0) },
  { dst := some 21, op := .mv (.t 3) },
  { dst := some 22, op := .bin .sub (.t 21) (.c (.i .i64 1)) },
  { dst := some 23, op := .ia 1 (.t 20) (.t 22) },
  { dst := some 24, op := .ld none (.t 23), pre := [] },
  { dst := some 25, op := .bin .eql (.t 19) (.t 24) }])
 (.cond (.t 25) (.seq (.reg false [{ dst := some 26, op := .mv (.t 0) },
  { dst := some 27, op := .mv (.t 3) },
  { dst := some 28, op := .slice 1 (.t 26) (some (.t 27)) none none },
  { dst := some 4, op := .mv (.t 28) }])
 (.seq (.seq (.reg false [{ dst := some 5, op := .mv (.c (.i .i64 1)) }])
 (.blk 2 (.loop (.seq (.seq (.reg false [{ dst := some 29, op := .mv (.t 5) },
  { dst := some 30, op := .mv (.t 4) },
  { dst := some 31, op := .len (.t 30) },
  { dst := some 32, op := .bin .lss (.t 29) (.t 31) }])
 (.cond (.t 32) .skip
 (.ext 2)))
 (.seq (.blk 3 (.seq (.reg true [{ dst := some 35, op := .mv (.t 4) },
  { dst := some 36, op := .mv (.t 5) },
  { dst := some 37, op := .ia 1 (.t 35) (.t 36) },
  { dst := some 38, op := .ld none (.t 37), pre := [] },
  { dst := some 39, op := .mv (.t 4) },
  { dst := some 40, op := .mv (.t 5) },
  { dst := some 41, op := .bin .sub (.t 40) (.c (.i .i64 1)) },
  { dst := some 42, op := .ia 1 (.t 39) (.t 41) },
  { dst := some 43, op := .ld none (.t 42), pre := [] },
  { dst := some 44, op := .bin .neq (.t 38) (.t 43) }])
 (.cond (.t 44) (.seq (.reg false [{ dst := some 45, op := .mv (.t 0) },
  { dst := some 46, op := .mv (.t 3) },
  { dst := some 47, op := .mv (.t 4) },
  { dst := some 48, op := .mv (.t 5) },
  { dst := some 49, op := .ia 1 (.t 47) (.t 48) },
  { dst := some 50, op := .ld none (.t 49) },
  { dst := some 51, op := .ia 1 (.t 45) (.t 46) },
  { dst := none, op := .st 1 (.t 51) (.t 50) }])
 (.reg false [{ dst := some 52, op := .mv (.t 3) },
  { dst := some 53, op := .bin .add (.t 52) (.c (.i .i64 1)) },
  { dst := some 3, op := .mv (.t 53) }]))
 .skip)))
 (.reg false [{ dst := some 33, op := .mv (.t 5) },
  { dst := some 34, op := .bin .add (.t 33) (.c (.i .i64 1)) },
  { dst := some 5, op := .mv (.t 34) }]))))))
 (.seq (.reg false [{ dst := some 54, op := .mv (.t 0) },
  { dst := some 55, op := .mv (.t 3) },
  { dst := some 56, op := .slice 1 (.t 54) (some (.t 55)) none none },
  { dst := none, op := .clr 1 ([.i .i64 0]) (.t 56) }])
 (.seq (.reg false [{ dst := some 57, op := .mv (.t 0) },
  { dst := some 58, op := .mv (.t 3) },
  { dst := some 59, op := .slice 1 (.t 57) none (some (.t 58)) none },
  { dst := some 2, op := .mv (.t 59) }])
 .ret))))
 .skip)))
 (.reg false [{ dst := some 14, op := .mv (.t 3) },
  { dst := some 15, op := .bin .add (.t 14) (.c (.i .i64 1)) },
  { dst := some 3, op := .mv (.t 15) }]))))))
 (.seq (.reg false [{ dst := some 60, op := .mv (.t 0) },
  { dst := some 2, op := .mv (.t 60) }])
 .ret)))) }
def A_slices_Clone_lapi_Tok_api_Tok : AFun := { res := [.t 2], body := (.seq (.reg false [{ dst := some 2, op := .mv (.c (.sl [] 0 .rig)) }])
 (.seq (.seq (.reg false [{ dst := some 3, op := .mv (.t 0) },
  { dst := some 4, op := .eqs false (.t 3) }])
 (.cond (.t 4) (.seq (.reg false [{ dst := some 2, op := .mv (.c (.sl [] 0 .rig)) }])
 .ret)
 .skip))
 (.seq (.reg false [{ dst := some 5, op := .bsl true 0 [] [] },
  { dst := some 6, op := .mv (.t 0) },
  { dst := some 7, op := .app 2 16 (.t 5) (.t 6) },
  { dst := some 2, op := .mv (.t 7) }])
 .ret))) }
def A_slices_Index_lint_int : AFun := { res := [.t 4], body := (.seq (.reg false [{ dst := some 4, op := .mv (.c (.i .i64 0)) }])
 (.seq (.seq (.reg false [{ dst := some 6, op := .mv (.t 0) },
  { dst := some 7, op := .len (.t 6) },
  { dst := some 8, op := .mv (.c (.i .i64 0)) }])
 (.blk 0 (.loop (.seq (.reg false [{ dst := some 9, op := .bin .lss (.t 8) (.t 7) }])
 (.seq (.cond (.t 9) .skip
 (.ext 0))
 (.seq (.blk 1 (.seq (.reg false [{ dst := some 10, op := .mv (.t 8) },
  { dst := some 5, op := .mv (.t 10) }])
 (.seq (.reg false [{ dst := some 11, op := .mv (.t 1) },
  { dst := some 12, op := .mv (.t 0) },
  { dst := some 13, op := .mv (.t 5) },
  { dst := some 14, op := .ia 1 (.t 12) (.t 13) },
  { dst := some 15, op := .ld none (.t 14) },
  { dst := some 16, op := .bin .eql (.t 11) (.t 15) }])
 (.cond (.t 16) (.seq (.reg false [{ dst := some 17, op := .mv (.t 5) },
  { dst := some 4, op := .mv (.t 17) }])
 .ret)
 .skip))))
 (.reg false [{ dst := some 18, op := .bin .add (.t 8) (.c (.i .i64 1)) },
  { dst := some 8, op := .mv (.t 18) }])))))))
 (.seq (.reg false [{ dst := some 4, op := .mv (.c (.i .i64 (-1))) }])
 .ret))) }
def A_slices_pdqsortOrdered_int : AFun := { res := [], body := (.seq (.reg false [{ dst := some 8, op := .mv (.c (.b true)) }])
 (.seq (.reg false [{ dst := some 9, op := .mv (.c (.b true)) }])
 (.blk 0 (.loop (.blk 1 (.seq (.reg false [{ dst := some 19, op := .mv (.t 2) },
  { dst := some 20, op := .mv (.t 1) },
  { dst := some 21, op := .bin .sub (.t 19) (.t 20) },
  { dst := some 10, op := .mv (.t 21) }])
 (.seq (.seq (.reg false [{ dst := some 22, op := .mv (.t 10) },
  { dst := some 23, op := .bin .leq (.t 22) (.c (.i .i64 12)) }])
 (.cond (.t 23) (.seq (.reg false [{ dst := some 24, op := .mv (.t 0) },
  { dst := some 25, op := .mv (.t 1) },
  { dst := some 26, op := .mv (.t 2) },
  { dst := some 27, op := .call .pure (.c (.fn 424 [] [])) [.t 24, .t 25, .t 26] }])
 .ret)
 .skip))
 (.seq (.seq (.reg false [{ dst := some 28, op := .mv (.t 3) },
  { dst := some 29, op := .bin .eql (.t 28) (.c (.i .i64 0)) }])
 (.cond (.t 29) (.seq (.reg false [{ dst := some 30, op := .mv (.t 0) },
  { dst := some 31, op := .mv (.t 1) },
  { dst := some 32, op := .mv (.t 2) },
  { dst := some 33, op := .call .pure (.c (.fn 425 [] [])) [.t 30, .t 31, .t 32] }])
 .ret)
 .skip))
 (.seq (.seq (.reg false [{ dst := some 34, op := .mv (.t 8) },
  { dst := some 35, op := .un .not (.t 34) }])
 (.cond (.t 35) (.seq (.reg false [{ dst := some 36, op := .mv (.t 0) },
  { dst := some 37, op := .mv (.t 1) },
  { dst := some 38, op := .mv (.t 2) },
  { dst := some 39, op := .call .pure (.c (.fn 426 [] [])) [.t 36, .t 37, .t 38] }])
 (.reg false [{ dst := some 40, op := .mv (.t 3) },
  { dst := some 41, op := .bin .sub (.t 40) (.c (.i .i64 1)) },
  { dst := some 3, op := .mv (.t 41) }]))
 .skip))
 (.seq (.reg false [{ dst := some 43, op := .mv (.t 0) },
  { dst := some 44, op := .mv (.t 1) },
  { dst := some 45, op := .mv (.t 2) },
  { dst := some 46, op := .call .pure (.c (.fn 427 [] [])) [.t 43, .t 44, .t 45] },
  { dst := some 42, op := .mv (.t 46) },
  { dst := some 47, op := .ext 0 (.t 42) },
  { dst := some 48, op := .ext 1 (.t 42) },
  { dst := some 11, op := .mv (.t 47) },
  { dst := some 12, op := .mv (.t 48) }])
 (.seq (.seq (.reg false [{ dst := some 49, op := .mv (.t 12) },
  { dst := some 50, op := .bin .eql (.t 49) (.c (.i .i64 2)) }])
 (.cond (.t 50) (.seq (.reg false [{ dst := some 51, op := .mv (.t 0) },
  { dst := some 52, op := .mv (.t 1) },
  { dst := some 53, op := .mv (.t 2) },
  { dst := some 54, op := .call .pure (.c (.fn 428 [] [])) [.t 51, .t 52, .t 53] }])
 (.seq (.reg false [{ dst := some 55, op := .mv (.t 2) },
  { dst := some 56, op := .bin .sub (.t 55) (.c (.i .i64 1)) },
  { dst := some 57, op := .mv (.t 11) },
  { dst := some 58, op := .mv (.t 1) },
  { dst := some 59, op := .bin .sub (.t 57) (.t 58) },
  { dst := some 60, op := .bin .sub (.t 56) (.t 59) },
  { dst := some 11, op := .mv (.t 60) }])
 (.reg false [{ dst := some 12, op := .mv (.c (.i .i64 1)) }])))
 .skip))
 (.seq (.seq (.reg false [{ dst := some 61, op := .mv (.t 8) },
  { dst := some 62, op := .mv (.t 61) },
  { dst := some 63, op := .mv (.t 9), grd := some (62, true) },
  { dst := some 64, op := .pick (.t 62) (.t 63) (.c (.b false)) },
  { dst := some 65, op := .mv (.t 64) },
  { dst := some 66, op := .mv (.t 12), grd := some (65, true) },
  { dst := some 67, op := .bin .eql (.t 66) (.c (.i .i64 1)), grd := some (65, true) },
  { dst := some 68, op := .pick (.t 65) (.t 67) (.c (.b false)) }])
 (.cond (.t 68) (.seq (.reg false [{ dst := some 69, op := .mv (.t 0) },
  { dst := some 70, op := .mv (.t 1) },
  { dst := some 71, op := .mv (.t 2) },
  { dst := some 72, op := .call .pure (.c (.fn 429 [] [])) [.t 69, .t 70, .t 71] }])
 (.cond (.t 72) .ret
 .skip))
 .skip))
 (.seq (.seq (.reg true [{ dst := some 73, op := .mv (.t 1) },
  { dst := some 74, op := .bin .gtr (.t 73) (.c (.i .i64 0)) },
  { dst := some 75, op := .mv (.t 74) },
  { dst := some 76, op := .mv (.t 0), grd := some (75, true) },
  { dst := some 77, op := .mv (.t 1), grd := some (75, true) },
  { dst := some 78, op := .bin .sub (.t 77) (.c (.i .i64 1)), grd := some (75, true) },
  { dst := some 79, op := .ia 1 (.t 76) (.t 78), grd := some (75, true) },
  { dst := some 80, op := .ld none (.t 79), grd := some (75, true), pre := [] },
  { dst := some 81, op := .mv (.t 0), grd := some (75, true) },
  { dst := some 82, op := .mv (.t 11), grd := some (75, true) },
  { dst := some 83, op := .ia 1 (.t 81) (.t 82), grd := some (75, true) },
  { dst := some 84, op := .ld none (.t 83), grd := some (75, true), pre := [] },
  { dst := some 85, op := .call .pure (.c (.fn 359 [] [])) [.t 80, .t 84], grd := some (75, true), pre := [] },
  { dst := some 86, op := .un .not (.t 85), grd := some (75, true) },
  { dst := some 87, op := .pick (.t 75) (.t 86) (.c (.b false)) }])
 (.cond (.t 87) (.seq (.reg false [{ dst := some 88, op := .mv (.t 0) },
  { dst := some 89, op := .mv (.t 1) },
  { dst := some 90, op := .mv (.t 2) },
  { dst := some 91, op := .mv (.t 11) },
  { dst := some 92, op := .call .pure (.c (.fn 430 [] [])) [.t 88, .t 89, .t 90, .t 91] },
  { dst := some 13, op := .mv (.t 92) }])
 (.seq (.reg false [{ dst := some 93, op := .mv (.t 13) },
  { dst := some 1, op := .mv (.t 93) }])
 (.ext 1)))
 .skip))
 (.seq (.reg false [{ dst := some 95, op := .mv (.t 0) },
  { dst := some 96, op := .mv (.t 1) },
  { dst := some 97, op := .mv (.t 2) },
  { dst := some 98, op := .mv (.t 11) },
  { dst := some 99, op := .call .pure (.c (.fn 431 [] [])) [.t 95, .t 96, .t 97, .t 98] },
  { dst := some 94, op := .mv (.t 99) },
  { dst := some 100, op := .ext 0 (.t 94) },
  { dst := some 101, op := .ext 1 (.t 94) },
  { dst := some 14, op := .mv (.t 100) },
  { dst := some 15, op := .mv (.t 101) }])
 (.seq (.reg false [{ dst := some 102, op := .mv (.t 15) },
  { dst := some 9, op := .mv (.t 102) }])
 (.seq (.reg false [{ dst := some 103, op := .mv (.t 14) },
  { dst := some 104, op := .mv (.t 1) },
  { dst := some 105, op := .bin .sub (.t 103) (.t 104) },
  { dst := some 106, op := .mv (.t 2) },
  { dst := some 107, op := .mv (.t 14) },
  { dst := some 108, op := .bin .sub (.t 106) (.t 107) },
  { dst := some 16, op := .mv (.t 105) },
  { dst := some 17, op := .mv (.t 108) }])
 (.seq (.reg false [{ dst := some 109, op := .mv (.t 10) },
  { dst := some 110, op := .bin .quo (.t 109) (.c (.i .i64 8)) },
  { dst := some 18, op := .mv (.t 110) }])
 (.seq (.reg false [{ dst := some 111, op := .mv (.t 16) },
  { dst := some 112, op := .mv (.t 17) },
  { dst := some 113, op := .bin .lss (.t 111) (.t 112) }])
 (.cond (.t 113) (.seq (.reg false [{ dst := some 114, op := .mv (.t 16) },
  { dst := some 115, op := .mv (.t 18) },
  { dst := some 116, op := .bin .geq (.t 114) (.t 115) },
  { dst := some 8, op := .mv (.t 116) }])
 (.seq (.reg false [{ dst := some 117, op := .mv (.t 0) },
  { dst := some 118, op := .mv (.t 1) },
  { dst := some 119, op := .mv (.t 14) },
  { dst := some 120, op := .mv (.t 3) },
  { dst := some 121, op := .call .pure (.c (.fn 420 [] [])) [.t 117, .t 118, .t 119, .t 120] }])
 (.reg false [{ dst := some 122, op := .mv (.t 14) },
  { dst := some 123, op := .bin .add (.t 122) (.c (.i .i64 1)) },
  { dst := some 1, op := .mv (.t 123) }])))
 (.seq (.reg false [{ dst := some 124, op := .mv (.t 17) },
  { dst := some 125, op := .mv (.t 18) },
  { dst := some 126, op := .bin .geq (.t 124) (.t 125) },
  { dst := some 8, op := .mv (.t 126) }])
 (.seq (.reg false [{ dst := some 127, op := .mv (.t 0) },
  { dst := some 128, op := .mv (.t 14) },
  { dst := some 129, op := .bin .add (.t 128) (.c (.i .i64 1)) },
  { dst := some 130, op := .mv (.t 2) },
  { dst := some 131, op := .mv (.t 3) },
  { dst := some 132, op := .call .pure (.c (.fn 420 [] [])) [.t 127, .t 129, .t 130, .t 131] }])
 (.reg false [{ dst := some 133, op := .mv (.t 14) },
  { dst := some 2, op := .mv (.t 133) }])))))))))))))))))))))) }
def A_slices_insertionSortOrdered_int : AFun := { res := [], body := (.seq (.reg false [{ dst := some 8, op := .mv (.t 1) },
  { dst := some 9, op := .bin .add (.t 8) (.c (.i .i64 1)) },
  { dst := some 6, op := .mv (.t 9) }])
 (.blk 0 (.loop (.seq (.seq (.reg false [{ dst := some 10, op := .mv (.t 6) },
  { dst := some 11, op := .mv (.t 2) },
  { dst := some 12, op := .bin .lss (.t 10) (.t 11) }])
 (.cond (.t 12) .skip
 (.ext 0)))
 (.seq (.blk 1 (.seq (.reg false [{ dst := some 15, op := .mv (.t 6) },
  { dst := some 7, op := .mv (.t 15) }])
 (.blk 2 (.loop (.seq (.seq (.reg true [{ dst := some 16, op := .mv (.t 7) },
  { dst := some 17, op := .mv (.t 1) },
  { dst := some 18, op := .bin .gtr (.t 16) (.t 17) },
  { dst := some 19, op := .mv (.t 18) },
  { dst := some 20, op := .mv (.t 0), grd := some (19, true) },
  { dst := some 21, op := .mv (.t 7), grd := some (19, true) },
  { dst := some 22, op := .ia 1 (.t 20) (.t 21), grd := some (19, true) },
  { dst := some 23, op := .ld none (.t 22), grd := some (19, true), pre := [] },
  { dst := some 24, op := .mv (.t 0), grd := some (19, true) },
  { dst := some 25, op := .mv (.t 7), grd := some (19, true) },
  { dst := some 26, op := .bin .sub (.t 25) (.c (.i .i64 1)), grd := some (19, true) },
  { dst := some 27, op := .ia 1 (.t 24) (.t 26), grd := some (19, true) },
  { dst := some 28, op := .ld none (.t 27), grd := some (19, true), pre := [] },
  { dst := some 29, op := .call .pure (.c (.fn 359 [] [])) [.t 23, .t 28], grd := some (19, true), pre := [] },
  { dst := some 30, op := .pick (.t 19) (.t 29) (.c (.b false)) }])
 (.cond (.t 30) .skip
 (.ext 2)))
 (.seq (.blk 3 (.reg true [{ dst := some 33, op := .mv (.t 0) },
  { dst := some 34, op := .mv (.t 7) },
  { dst := some 35, op := .mv (.t 0) },
  { dst := some 36, op := .mv (.t 7) },
  { dst := some 37, op := .bin .sub (.t 36) (.c (.i .i64 1)) },
  { dst := some 38, op := .mv (.t 0) },
  { dst := some 39, op := .mv (.t 7) },
  { dst := some 40, op := .bin .sub (.t 39) (.c (.i .i64 1)) },
  { dst := some 41, op := .ia 1 (.t 38) (.t 40) },
  { dst := some 42, op := .ld none (.t 41), pre := [] },
  { dst := some 43, op := .mv (.t 0) },
  { dst := some 44, op := .mv (.t 7) },
  { dst := some 45, op := .ia 1 (.t 43) (.t 44) },
  { dst := some 46, op := .ld none (.t 45), pre := [] },
  { dst := some 47, op := .ia 1 (.t 33) (.t 34) },
  { dst := none, op := .st 1 (.t 47) (.t 42), pre := [] },
  { dst := some 48, op := .ia 1 (.t 35) (.t 37) },
  { dst := none, op := .st 1 (.t 48) (.t 46), pre := [] }]))
 (.reg false [{ dst := some 31, op := .mv (.t 7) },
  { dst := some 32, op := .bin .sub (.t 31) (.c (.i .i64 1)) },
  { dst := some 7, op := .mv (.t 32) }])))))))
 (.reg false [{ dst := some 13, op := .mv (.t 6) },
  { dst := some 14, op := .bin .add (.t 13) (.c (.i .i64 1)) },
  { dst := some 6, op := .mv (.t 14) }])))))) }
def A_slices_heapSortOrdered_int : AFun := { res := [], body := (.seq (.reg false [{ dst := some 11, op := .mv (.t 1) },
  { dst := some 6, op := .mv (.t 11) }])
 (.seq (.reg false [{ dst := some 7, op := .mv (.c (.i .i64 0)) }])
 (.seq (.reg false [{ dst := some 12, op := .mv (.t 2) },
  { dst := some 13, op := .mv (.t 1) },
  { dst := some 14, op := .bin .sub (.t 12) (.t 13) },
  { dst := some 8, op := .mv (.t 14) }])
 (.seq (.seq (.reg false [{ dst := some 15, op := .mv (.t 8) },
  { dst := some 16, op := .bin .sub (.t 15) (.c (.i .i64 1)) },
  { dst := some 17, op := .bin .quo (.t 16) (.c (.i .i64 2)) },
  { dst := some 9, op := .mv (.t 17) }])
 (.blk 0 (.loop (.seq (.seq (.reg false [{ dst := some 18, op := .mv (.t 9) },
  { dst := some 19, op := .bin .geq (.t 18) (.c (.i .i64 0)) }])
 (.cond (.t 19) .skip
 (.ext 0)))
 (.seq (.blk 1 (.reg false [{ dst := some 22, op := .mv (.t 0) },
  { dst := some 23, op := .mv (.t 9) },
  { dst := some 24, op := .mv (.t 8) },
  { dst := some 25, op := .mv (.t 6) },
  { dst := some 26, op := .call .pure (.c (.fn 442 [] [])) [.t 22, .t 23, .t 24, .t 25] }]))
 (.reg false [{ dst := some 20, op := .mv (.t 9) },
  { dst := some 21, op := .bin .sub (.t 20) (.c (.i .i64 1)) },
  { dst := some 9, op := .mv (.t 21) }]))))))
 (.seq (.reg false [{ dst := some 27, op := .mv (.t 8) },
  { dst := some 28, op := .bin .sub (.t 27) (.c (.i .i64 1)) },
  { dst := some 10, op := .mv (.t 28) }])
 (.blk 2 (.loop (.seq (.seq (.reg false [{ dst := some 29, op := .mv (.t 10) },
  { dst := some 30, op := .bin .geq (.t 29) (.c (.i .i64 0)) }])
 (.cond (.t 30) .skip
 (.ext 2)))
 (.seq (.blk 3 (.seq (.reg true [{ dst := some 33, op := .mv (.t 0) },
  { dst := some 34, op := .mv (.t 6) },
  { dst := some 35, op := .mv (.t 0) },
  { dst := some 36, op := .mv (.t 6) },
  { dst := some 37, op := .mv (.t 10) },
  { dst := some 38, op := .bin .add (.t 36) (.t 37) },
  { dst := some 39, op := .mv (.t 0) },
  { dst := some 40, op := .mv (.t 6) },
  { dst := some 41, op := .mv (.t 10) },
  { dst := some 42, op := .bin .add (.t 40) (.t 41) },
  { dst := some 43, op := .ia 1 (.t 39) (.t 42) },
  { dst := some 44, op := .ld none (.t 43), pre := [] },
  { dst := some 45, op := .mv (.t 0) },
  { dst := some 46, op := .mv (.t 6) },
  { dst := some 47, op := .ia 1 (.t 45) (.t 46) },
  { dst := some 48, op := .ld none (.t 47), pre := [] },
  { dst := some 49, op := .ia 1 (.t 33) (.t 34) },
  { dst := none, op := .st 1 (.t 49) (.t 44), pre := [] },
  { dst := some 50, op := .ia 1 (.t 35) (.t 38) },
  { dst := none, op := .st 1 (.t 50) (.t 48), pre := [] }])
 (.reg false [{ dst := some 51, op := .mv (.t 0) },
  { dst := some 52, op := .mv (.t 7) },
  { dst := some 53, op := .mv (.t 10) },
  { dst := some 54, op := .mv (.t 6) },
  { dst := some 55, op := .call .pure (.c (.fn 442 [] [])) [.t 51, .t 52, .t 53, .t 54] }])))
 (.reg false [{ dst := some 31, op := .mv (.t 10) },
  { dst := some 32, op := .bin .sub (.t 31) (.c (.i .i64 1)) },
  { dst := some 10, op := .mv (.t 32) }])))))))))) }
def A_slices_breakPatternsOrdered_int : AFun := { res := [], body := (.seq (.reg false [{ dst := some 11, op := .mv (.t 2) },
  { dst := some 12, op := .mv (.t 1) },
  { dst := some 13, op := .bin .sub (.t 11) (.t 12) },
  { dst := some 6, op := .mv (.t 13) }])
 (.seq (.reg false [{ dst := some 14, op := .mv (.t 6) },
  { dst := some 15, op := .bin .geq (.t 14) (.c (.i .i64 8)) }])
 (.cond (.t 15) (.seq (.reg false [{ dst := some 16, op := .mv (.t 6) },
  { dst := some 17, op := .conv .u64 (.t 16) },
  { dst := some 7, op := .new ([.i .u64 0]) },
  { dst := none, op := .st 1 (.t 7) (.t 17) }])
 (.seq (.reg false [{ dst := some 18, op := .mv (.t 6) },
  { dst := some 19, op := .call .pure (.c (.fn 443 [] [])) [.t 18] },
  { dst := some 8, op := .mv (.t 19) }])
 (.seq (.reg false [{ dst := some 20, op := .mv (.t 1) },
  { dst := some 21, op := .mv (.t 6) },
  { dst := some 22, op := .bin .quo (.t 21) (.c (.i .i64 4)) },
  { dst := some 23, op := .bin .mul (.t 22) (.c (.i .i64 2)) },
  { dst := some 24, op := .bin .add (.t 20) (.t 23) },
  { dst := some 25, op := .bin .sub (.t 24) (.c (.i .i64 1)) },
  { dst := some 9, op := .mv (.t 25) }])
 (.blk 0 (.loop (.seq (.seq (.reg false [{ dst := some 26, op := .mv (.t 9) },
  { dst := some 27, op := .mv (.t 1) },
  { dst := some 28, op := .mv (.t 6) },
  { dst := some 29, op := .bin .quo (.t 28) (.c (.i .i64 4)) },
  { dst := some 30, op := .bin .mul (.t 29) (.c (.i .i64 2)) },
  { dst := some 31, op := .bin .add (.t 27) (.t 30) },
  { dst := some 32, op := .bin .add (.t 31) (.c (.i .i64 1)) },
  { dst := some 33, op := .bin .leq (.t 26) (.t 32) }])
 (.cond (.t 33) .skip
 (.ext 0)))
 (.seq (.blk 1 (.seq (.reg false [{ dst := some 36, op := .call .pure (.c (.fn 444 [] [])) [.t 7] },
  { dst := some 37, op := .mv (.t 8) },
  { dst := some 38, op := .bin .sub (.t 37) (.c (.i .u64 1)) },
  { dst := some 39, op := .bin .and (.t 36) (.t 38) },
  { dst := some 40, op := .conv .i64 (.t 39) },
  { dst := some 10, op := .mv (.t 40) }])
 (.seq (.seq (.reg false [{ dst := some 41, op := .mv (.t 10) },
  { dst := some 42, op := .mv (.t 6) },
  { dst := some 43, op := .bin .geq (.t 41) (.t 42) }])
 (.cond (.t 43) (.reg false [{ dst := some 44, op := .mv (.t 10) },
  { dst := some 45, op := .mv (.t 6) },
  { dst := some 46, op := .bin .sub (.t 44) (.t 45) },
  { dst := some 10, op := .mv (.t 46) }])
 .skip))
 (.reg true [{ dst := some 47, op := .mv (.t 0) },
  { dst := some 48, op := .mv (.t 9) },
  { dst := some 49, op := .mv (.t 0) },
  { dst := some 50, op := .mv (.t 1) },
  { dst := some 51, op := .mv (.t 10) },
  { dst := some 52, op := .bin .add (.t 50) (.t 51) },
  { dst := some 53, op := .mv (.t 0) },
  { dst := some 54, op := .mv (.t 1) },
  { dst := some 55, op := .mv (.t 10) },
  { dst := some 56, op := .bin .add (.t 54) (.t 55) },
  { dst := some 57, op := .ia 1 (.t 53) (.t 56) },
  { dst := some 58, op := .ld none (.t 57), pre := [] },
  { dst := some 59, op := .mv (.t 0) },
  { dst := some 60, op := .mv (.t 9) },
  { dst := some 61, op := .ia 1 (.t 59) (.t 60) },
  { dst := some 62, op := .ld none (.t 61), pre := [] },
  { dst := some 63, op := .ia 1 (.t 47) (.t 48) },
  { dst := none, op := .st 1 (.t 63) (.t 58), pre := [] },
  { dst := some 64, op := .ia 1 (.t 49) (.t 52) },
  { dst := none, op := .st 1 (.t 64) (.t 62), pre := [] }]))))
 (.reg false [{ dst := some 34, op := .mv (.t 9) },
  { dst := some 35, op := .bin .add (.t 34) (.c (.i .i64 1)) },
  { dst := some 9, op := .mv (.t 35) }]))))))))
 .skip))) }
def A_slices_choosePivotOrdered_int : AFun := { res := [.t 6, .t 7], body := (.seq (.reg false [{ dst := some 6, op := .mv (.c (.i .i64 0)) },
  { dst := some 7, op := .mv (.c (.i .i64 0)) }])
 (.seq (.reg false [{ dst := some 13, op := .mv (.t 2) },
  { dst := some 14, op := .mv (.t 1) },
  { dst := some 15, op := .bin .sub (.t 13) (.t 14) },
  { dst := some 8, op := .mv (.t 15) }])
 (.seq (.reg false [{ dst := some 9, op := .new ([.i .i64 0]) }])
 (.seq (.reg false [{ dst := some 16, op := .mv (.t 1) },
  { dst := some 17, op := .mv (.t 8) },
  { dst := some 18, op := .bin .quo (.t 17) (.c (.i .i64 4)) },
  { dst := some 19, op := .bin .mul (.t 18) (.c (.i .i64 1)) },
  { dst := some 20, op := .bin .add (.t 16) (.t 19) },
  { dst := some 10, op := .mv (.t 20) }])
 (.seq (.reg false [{ dst := some 21, op := .mv (.t 1) },
  { dst := some 22, op := .mv (.t 8) },
  { dst := some 23, op := .bin .quo (.t 22) (.c (.i .i64 4)) },
  { dst := some 24, op := .bin .mul (.t 23) (.c (.i .i64 2)) },
  { dst := some 25, op := .bin .add (.t 21) (.t 24) },
  { dst := some 11, op := .mv (.t 25) }])
 (.seq (.reg false [{ dst := some 26, op := .mv (.t 1) },
  { dst := some 27, op := .mv (.t 8) },
  { dst := some 28, op := .bin .quo (.t 27) (.c (.i .i64 4)) },
  { dst := some 29, op := .bin .mul (.t 28) (.c (.i .i64 3)) },
  { dst := some 30, op := .bin .add (.t 26) (.t 29) },
  { dst := some 12, op := .mv (.t 30) }])
 (.seq (.seq (.reg false [{ dst := some 31, op := .mv (.t 8) },
  { dst := some 32, op := .bin .geq (.t 31) (.c (.i .i64 8)) }])
 (.cond (.t 32) (.seq (.seq (.reg false [{ dst := some 33, op := .mv (.t 8) },
  { dst := some 34, op := .bin .geq (.t 33) (.c (.i .i64 50)) }])
 (.cond (.t 34) (.seq (.reg false [{ dst := some 35, op := .mv (.t 0) },
  { dst := some 36, op := .mv (.t 10) },
  { dst := some 37, op := .call .pure (.c (.fn 445 [] [])) [.t 35, .t 36, .t 9] },
  { dst := some 10, op := .mv (.t 37) }])
 (.seq (.reg false [{ dst := some 38, op := .mv (.t 0) },
  { dst := some 39, op := .mv (.t 11) },
  { dst := some 40, op := .call .pure (.c (.fn 445 [] [])) [.t 38, .t 39, .t 9] },
  { dst := some 11, op := .mv (.t 40) }])
 (.reg false [{ dst := some 41, op := .mv (.t 0) },
  { dst := some 42, op := .mv (.t 12) },
  { dst := some 43, op := .call .pure (.c (.fn 445 [] [])) [.t 41, .t 42, .t 9] },
  { dst := some 12, op := .mv (.t 43) }])))
 .skip))
 (.reg false [{ dst := some 44, op := .mv (.t 0) },
  { dst := some 45, op := .mv (.t 10) },
  { dst := some 46, op := .mv (.t 11) },
  { dst := some 47, op := .mv (.t 12) },
  { dst := some 48, op := .call .pure (.c (.fn 446 [] [])) [.t 44, .t 45, .t 46, .t 47, .t 9] },
  { dst := some 11, op := .mv (.t 48) }]))
 .skip))
 (.seq (.reg false [{ dst := some 49, op := .ld none (.t 9) }])
 (.blk 0 (.seq (.reg false [{ dst := some 52, op := .bin .eql (.t 49) (.c (.i .i64 0)) },
  { dst := some 51, op := .mv (.t 52) }])
 (.cond (.t 51) (.seq (.reg false [{ dst := some 53, op := .mv (.t 11) },
  { dst := some 6, op := .mv (.t 53) },
  { dst := some 7, op := .mv (.c (.i .i64 1)) }])
 .ret)
 (.seq (.reg false [{ dst := some 55, op := .bin .eql (.t 49) (.c (.i .i64 12)) },
  { dst := some 54, op := .mv (.t 55) }])
 (.cond (.t 54) (.seq (.reg false [{ dst := some 56, op := .mv (.t 11) },
  { dst := some 6, op := .mv (.t 56) },
  { dst := some 7, op := .mv (.c (.i .i64 2)) }])
 .ret)
 (.seq (.reg false [{ dst := some 50, op := .mv (.t 11) },
  { dst := some 6, op := .mv (.t 50) },
  { dst := some 7, op := .mv (.c (.i .i64 0)) }])
 .ret)))))))))))))) }
def A_slices_reverseRangeOrdered_int : AFun := { res := [], body := (.seq (.reg false [{ dst := some 8, op := .mv (.t 1) },
  { dst := some 6, op := .mv (.t 8) }])
 (.seq (.reg false [{ dst := some 9, op := .mv (.t 2) },
  { dst := some 10, op := .bin .sub (.t 9) (.c (.i .i64 1)) },
  { dst := some 7, op := .mv (.t 10) }])
 (.blk 0 (.loop (.seq (.seq (.reg false [{ dst := some 11, op := .mv (.t 6) },
  { dst := some 12, op := .mv (.t 7) },
  { dst := some 13, op := .bin .lss (.t 11) (.t 12) }])
 (.cond (.t 13) .skip
 (.ext 0)))
 (.blk 1 (.seq (.reg true [{ dst := some 14, op := .mv (.t 0) },
  { dst := some 15, op := .mv (.t 6) },
  { dst := some 16, op := .mv (.t 0) },
  { dst := some 17, op := .mv (.t 7) },
  { dst := some 18, op := .mv (.t 0) },
  { dst := some 19, op := .mv (.t 7) },
  { dst := some 20, op := .ia 1 (.t 18) (.t 19) },
  { dst := some 21, op := .ld none (.t 20), pre := [] },
  { dst := some 22, op := .mv (.t 0) },
  { dst := some 23, op := .mv (.t 6) },
  { dst := some 24, op := .ia 1 (.t 22) (.t 23) },
  { dst := some 25, op := .ld none (.t 24), pre := [] },
  { dst := some 26, op := .ia 1 (.t 14) (.t 15) },
  { dst := none, op := .st 1 (.t 26) (.t 21), pre := [] },
  { dst := some 27, op := .ia 1 (.t 16) (.t 17) },
  { dst := none, op := .st 1 (.t 27) (.t 25), pre := [] }])
 (.seq (.reg false [{ dst := some 28, op := .mv (.t 6) },
  { dst := some 29, op := .bin .add (.t 28) (.c (.i .i64 1)) },
  { dst := some 6, op := .mv (.t 29) }])
 (.reg false [{ dst := some 30, op := .mv (.t 7) },
  { dst := some 31, op := .bin .sub (.t 30) (.c (.i .i64 1)) },
  { dst := some 7, op := .mv (.t 31) }]))))))))) }
def A_slices_partialInsertionSortOrdered_int : AFun := { res := [.t 6], body := (.seq (.reg false [{ dst := some 6, op := .mv (.c (.b false)) }])
 (.seq (.reg false [{ dst := some 11, op := .mv (.t 1) },
  { dst := some 12, op := .bin .add (.t 11) (.c (.i .i64 1)) },
  { dst := some 7, op := .mv (.t 12) }])
 (.seq (.seq (.reg false [{ dst := some 8, op := .mv (.c (.i .i64 0)) }])
 (.blk 0 (.loop (.seq (.seq (.reg false [{ dst := some 13, op := .mv (.t 8) },
  { dst := some 14, op := .bin .lss (.t 13) (.c (.i .i64 5)) }])
 (.cond (.t 14) .skip
 (.ext 0)))
 (.seq (.blk 1 (.seq (.blk 2 (.loop (.seq (.seq (.reg true [{ dst := some 17, op := .mv (.t 7) },
  { dst := some 18, op := .mv (.t 2) },
  { dst := some 19, op := .bin .lss (.t 17) (.t 18) },
  { dst := some 20, op := .mv (.t 19) },
  { dst := some 21, op := .mv (.t 0), grd := some (20, true) },
  { dst := some 22, op := .mv (.t 7), grd := some (20, true) },
  { dst := some 23, op := .ia 1 (.t 21) (.t 22), grd := some (20, true) },
  { dst := some 24, op := .ld none (.t 23), grd := some (20, true), pre := [] },
  { dst := some 25, op := .mv (.t 0), grd := some (20, true) },
  { dst := some 26, op := .mv (.t 7), grd := some (20, true) },
  { dst := some 27, op := .bin .sub (.t 26) (.c (.i .i64 1)), grd := some (20, true) },
  { dst := some 28, op := .ia 1 (.t 25) (.t 27), grd := some (20, true) },
  { dst := some 29, op := .ld none (.t 28), grd := some (20, true), pre := [] },
  { dst := some 30, op := .call .pure (.c (.fn 359 [] [])) [.t 24, .t 29], grd := some (20, true), pre := [] },
  { dst := some 31, op := .un .not (.t 30), grd := some (20, true) },
  { dst := some 32, op := .pick (.t 20) (.t 31) (.c (.b false)) }])
 (.cond (.t 32) .skip
 (.ext 2)))
 (.blk 3 (.reg false [{ dst := some 33, op := .mv (.t 7) },
  { dst := some 34, op := .bin .add (.t 33) (.c (.i .i64 1)) },
  { dst := some 7, op := .mv (.t 34) }])))))
 (.seq (.seq (.reg false [{ dst := some 35, op := .mv (.t 7) },
  { dst := some 36, op := .mv (.t 2) },
  { dst := some 37, op := .bin .eql (.t 35) (.t 36) }])
 (.cond (.t 37) (.seq (.reg false [{ dst := some 6, op := .mv (.c (.b true)) }])
 .ret)
 .skip))
 (.seq (.seq (.reg false [{ dst := some 38, op := .mv (.t 2) },
  { dst := some 39, op := .mv (.t 1) },
  { dst := some 40, op := .bin .sub (.t 38) (.t 39) },
  { dst := some 41, op := .bin .lss (.t 40) (.c (.i .i64 50)) }])
 (.cond (.t 41) (.seq (.reg false [{ dst := some 6, op := .mv (.c (.b false)) }])
 .ret)
 .skip))
 (.seq (.reg true [{ dst := some 42, op := .mv (.t 0) },
  { dst := some 43, op := .mv (.t 7) },
  { dst := some 44, op := .mv (.t 0) },
  { dst := some 45, op := .mv (.t 7) },
  { dst := some 46, op := .bin .sub (.t 45) (.c (.i .i64 1)) },
  { dst := some 47, op := .mv (.t 0) },
  { dst := some 48, op := .mv (.t 7) },
  { dst := some 49, op := .bin .sub (.t 48) (.c (.i .i64 1)) },
  { dst := some 50, op := .ia 1 (.t 47) (.t 49) },
  { dst := some 51, op := .ld none (.t 50), pre := [] },
  { dst := some 52, op := .mv (.t 0) },
  { dst := some 53, op := .mv (.t 7) },
  { dst := some 54, op := .ia 1 (.t 52) (.t 53) },
  { dst := some 55, op := .ld none (.t 54), pre := [] },
  { dst := some 56, op := .ia 1 (.t 42) (.t 43) },
  { dst := none, op := .st 1 (.t 56) (.t 51), pre := [] },
  { dst := some 57, op := .ia 1 (.t 44) (.t 46) },
  { dst := none, op := .st 1 (.t 57) (.t 55), pre := [] }])
 (.seq (.seq (.reg false [{ dst := some 58, op := .mv (.t 7) },
  { dst := some 59, op := .mv (.t 1) },
  { dst := some 60, op := .bin .sub (.t 58) (.t 59) },
  { dst := some 61, op := .bin .geq (.t 60) (.c (.i .i64 2)) }])
 (.cond (.t 61) (.seq (.reg false [{ dst := some 62, op := .mv (.t 7) },
  { dst := some 63, op := .bin .sub (.t 62) (.c (.i .i64 1)) },
  { dst := some 9, op := .mv (.t 63) }])
 (.blk 4 (.loop (.seq (.seq (.reg false [{ dst := some 64, op := .mv (.t 9) },
  { dst := some 65, op := .bin .geq (.t 64) (.c (.i .i64 1)) }])
 (.cond (.t 65) .skip
 (.ext 4)))
 (.seq (.blk 5 (.seq (.seq (.reg true [{ dst := some 68, op := .mv (.t 0) },
  { dst := some 69, op := .mv (.t 9) },
  { dst := some 70, op := .ia 1 (.t 68) (.t 69) },
  { dst := some 71, op := .ld none (.t 70), pre := [] },
  { dst := some 72, op := .mv (.t 0) },
  { dst := some 73, op := .mv (.t 9) },
  { dst := some 74, op := .bin .sub (.t 73) (.c (.i .i64 1)) },
  { dst := some 75, op := .ia 1 (.t 72) (.t 74) },
  { dst := some 76, op := .ld none (.t 75), pre := [] },
  { dst := some 77, op := .call .pure (.c (.fn 359 [] [])) [.t 71, .t 76], pre := [] },
  { dst := some 78, op := .un .not (.t 77) }])
 (.cond (.t 78) (.ext 4)
 .skip))
 (.reg true [{ dst := some 79, op := .mv (.t 0) },
  { dst := some 80, op := .mv (.t 9) },
  { dst := some 81, op := .mv (.t 0) },
  { dst := some 82, op := .mv (.t 9) },
  { dst := some 83, op := .bin .sub (.t 82) (.c (.i .i64 1)) },
  { dst := some 84, op := .mv (.t 0) },
  { dst := some 85, op := .mv (.t 9) },
  { dst := some 86, op := .bin .sub (.t 85) (.c (.i .i64 1)) },
  { dst := some 87, op := .ia 1 (.t 84) (.t 86) },
  { dst := some 88, op := .ld none (.t 87), pre := [] },
  { dst := some 89, op := .mv (.t 0) },
  { dst := some 90, op := .mv (.t 9) },
  { dst := some 91, op := .ia 1 (.t 89) (.t 90) },
  { dst := some 92, op := .ld none (.t 91), pre := [] },
  { dst := some 93, op := .ia 1 (.t 79) (.t 80) },
  { dst := none, op := .st 1 (.t 93) (.t 88), pre := [] },
  { dst := some 94, op := .ia 1 (.t 81) (.t 83) },
  { dst := none, op := .st 1 (.t 94) (.t 92), pre := [] }])))
 (.reg false [{ dst := some 66, op := .mv (.t 9) },
  { dst := some 67, op := .bin .sub (.t 66) (.c (.i .i64 1)) },
  { dst := some 9, op := .mv (.t 67) }]))))))
 .skip))
 (.seq (.reg false [{ dst := some 95, op := .mv (.t 2) },
  { dst := some 96, op := .mv (.t 7) },
  { dst := some 97, op := .bin .sub (.t 95) (.t 96) },
  { dst := some 98, op := .bin .geq (.t 97) (.c (.i .i64 2)) }])
 (.cond (.t 98) (.seq (.reg false [{ dst := some 99, op := .mv (.t 7) },
  { dst := some 100, op := .bin .add (.t 99) (.c (.i .i64 1)) },
  { dst := some 10, op := .mv (.t 100) }])
 (.blk 6 (.loop (.seq (.seq (.reg false [{ dst := some 101, op := .mv (.t 10) },
  { dst := some 102, op := .mv (.t 2) },
  { dst := some 103, op := .bin .lss (.t 101) (.t 102) }])
 (.cond (.t 103) .skip
 (.ext 6)))
 (.seq (.blk 7 (.seq (.seq (.reg true [{ dst := some 106, op := .mv (.t 0) },
  { dst := some 107, op := .mv (.t 10) },
  { dst := some 108, op := .ia 1 (.t 106) (.t 107) },
  { dst := some 109, op := .ld none (.t 108), pre := [] },
  { dst := some 110, op := .mv (.t 0) },
  { dst := some 111, op := .mv (.t 10) },
  { dst := some 112, op := .bin .sub (.t 111) (.c (.i .i64 1)) },
  { dst := some 113, op := .ia 1 (.t 110) (.t 112) },
  { dst := some 114, op := .ld none (.t 113), pre := [] },
  { dst := some 115, op := .call .pure (.c (.fn 359 [] [])) [.t 109, .t 114], pre := [] },
  { dst := some 116, op := .un .not (.t 115) }])
 (.cond (.t 116) (.ext 6)
 .skip))
 (.reg true [{ dst := some 117, op := .mv (.t 0) },
  { dst := some 118, op := .mv (.t 10) },
  { dst := some 119, op := .mv (.t 0) },
  { dst := some 120, op := .mv (.t 10) },
  { dst := some 121, op := .bin .sub (.t 120) (.c (.i .i64 1)) },
  { dst := some 122, op := .mv (.t 0) },
  { dst := some 123, op := .mv (.t 10) },
  { dst := some 124, op := .bin .sub (.t 123) (.c (.i .i64 1)) },
  { dst := some 125, op := .ia 1 (.t 122) (.t 124) },
  { dst := some 126, op := .ld none (.t 125), pre := [] },
  { dst := some 127, op := .mv (.t 0) },
  { dst := some 128, op := .mv (.t 10) },
  { dst := some 129, op := .ia 1 (.t 127) (.t 128) },
  { dst := some 130, op := .ld none (.t 129), pre := [] },
  { dst := some 131, op := .ia 1 (.t 117) (.t 118) },
  { dst := none, op := .st 1 (.t 131) (.t 126), pre := [] },
  { dst := some 132, op := .ia 1 (.t 119) (.t 121) },
  { dst := none, op := .st 1 (.t 132) (.t 130), pre := [] }])))
 (.reg false [{ dst := some 104, op := .mv (.t 10) },
  { dst := some 105, op := .bin .add (.t 104) (.c (.i .i64 1)) },
  { dst := some 10, op := .mv (.t 105) }]))))))
 .skip))))))))
 (.reg false [{ dst := some 15, op := .mv (.t 8) },
  { dst := some 16, op := .bin .add (.t 15) (.c (.i .i64 1)) },
  { dst := some 8, op := .mv (.t 16) }]))))))
 (.seq (.reg false [{ dst := some 6, op := .mv (.c (.b false)) }])
 .ret)))) }
def A_slices_partitionEqualOrdered_int : AFun := { res := [.t 8], body := (.seq (.reg false [{ dst := some 8, op := .mv (.c (.i .i64 0)) }])
 (.seq (.reg true [{ dst := some 11, op := .mv (.t 0) },
  { dst := some 12, op := .mv (.t 1) },
  { dst := some 13, op := .mv (.t 0) },
  { dst := some 14, op := .mv (.t 3) },
  { dst := some 15, op := .mv (.t 0) },
  { dst := some 16, op := .mv (.t 3) },
  { dst := some 17, op := .ia 1 (.t 15) (.t 16) },
  { dst := some 18, op := .ld none (.t 17), pre := [] },
  { dst := some 19, op := .mv (.t 0) },
  { dst := some 20, op := .mv (.t 1) },
  { dst := some 21, op := .ia 1 (.t 19) (.t 20) },
  { dst := some 22, op := .ld none (.t 21), pre := [] },
  { dst := some 23, op := .ia 1 (.t 11) (.t 12) },
  { dst := none, op := .st 1 (.t 23) (.t 18), pre := [] },
  { dst := some 24, op := .ia 1 (.t 13) (.t 14) },
  { dst := none, op := .st 1 (.t 24) (.t 22), pre := [] }])
 (.seq (.reg false [{ dst := some 25, op := .mv (.t 1) },
  { dst := some 26, op := .bin .add (.t 25) (.c (.i .i64 1)) },
  { dst := some 27, op := .mv (.t 2) },
  { dst := some 28, op := .bin .sub (.t 27) (.c (.i .i64 1)) },
  { dst := some 9, op := .mv (.t 26) },
  { dst := some 10, op := .mv (.t 28) }])
 (.seq (.blk 0 (.loop (.blk 1 (.seq (.blk 2 (.loop (.seq (.seq (.reg true [{ dst := some 29, op := .mv (.t 9) },
  { dst := some 30, op := .mv (.t 10) },
  { dst := some 31, op := .bin .leq (.t 29) (.t 30) },
  { dst := some 32, op := .mv (.t 31) },
  { dst := some 33, op := .mv (.t 0), grd := some (32, true) },
  { dst := some 34, op := .mv (.t 1), grd := some (32, true) },
  { dst := some 35, op := .ia 1 (.t 33) (.t 34), grd := some (32, true) },
  { dst := some 36, op := .ld none (.t 35), grd := some (32, true), pre := [] },
  { dst := some 37, op := .mv (.t 0), grd := some (32, true) },
  { dst := some 38, op := .mv (.t 9), grd := some (32, true) },
  { dst := some 39, op := .ia 1 (.t 37) (.t 38), grd := some (32, true) },
  { dst := some 40, op := .ld none (.t 39), grd := some (32, true), pre := [] },
  { dst := some 41, op := .call .pure (.c (.fn 359 [] [])) [.t 36, .t 40], grd := some (32, true), pre := [] },
  { dst := some 42, op := .un .not (.t 41), grd := some (32, true) },
  { dst := some 43, op := .pick (.t 32) (.t 42) (.c (.b false)) }])
 (.cond (.t 43) .skip
 (.ext 2)))
 (.blk 3 (.reg false [{ dst := some 44, op := .mv (.t 9) },
  { dst := some 45, op := .bin .add (.t 44) (.c (.i .i64 1)) },
  { dst := some 9, op := .mv (.t 45) }])))))
 (.seq (.blk 4 (.loop (.seq (.seq (.reg true [{ dst := some 46, op := .mv (.t 9) },
  { dst := some 47, op := .mv (.t 10) },
  { dst := some 48, op := .bin .leq (.t 46) (.t 47) },
  { dst := some 49, op := .mv (.t 48) },
  { dst := some 50, op := .mv (.t 0), grd := some (49, true) },
  { dst := some 51, op := .mv (.t 1), grd := some (49, true) },
  { dst := some 52, op := .ia 1 (.t 50) (.t 51), grd := some (49, true) },
  { dst := some 53, op := .ld none (.t 52), grd := some (49, true), pre := [] },
  { dst := some 54, op := .mv (.t 0), grd := some (49, true) },
  { dst := some 55, op := .mv (.t 10), grd := some (49, true) },
  { dst := some 56, op := .ia 1 (.t 54) (.t 55), grd := some (49, true) },
  { dst := some 57, op := .ld none (.t 56), grd := some (49, true), pre := [] },
  { dst := some 58, op := .call .pure (.c (.fn 359 [] [])) [.t 53, .t 57], grd := some (49, true), pre := [] },
  { dst := some 59, op := .pick (.t 49) (.t 58) (.c (.b false)) }])
 (.cond (.t 59) .skip
 (.ext 4)))
 (.blk 5 (.reg false [{ dst := some 60, op := .mv (.t 10) },
  { dst := some 61, op := .bin .sub (.t 60) (.c (.i .i64 1)) },
  { dst := some 10, op := .mv (.t 61) }])))))
 (.seq (.seq (.reg false [{ dst := some 62, op := .mv (.t 9) },
  { dst := some 63, op := .mv (.t 10) },
  { dst := some 64, op := .bin .gtr (.t 62) (.t 63) }])
 (.cond (.t 64) (.ext 0)
 .skip))
 (.seq (.reg true [{ dst := some 65, op := .mv (.t 0) },
  { dst := some 66, op := .mv (.t 9) },
  { dst := some 67, op := .mv (.t 0) },
  { dst := some 68, op := .mv (.t 10) },
  { dst := some 69, op := .mv (.t 0) },
  { dst := some 70, op := .mv (.t 10) },
  { dst := some 71, op := .ia 1 (.t 69) (.t 70) },
  { dst := some 72, op := .ld none (.t 71), pre := [] },
  { dst := some 73, op := .mv (.t 0) },
  { dst := some 74, op := .mv (.t 9) },
  { dst := some 75, op := .ia 1 (.t 73) (.t 74) },
  { dst := some 76, op := .ld none (.t 75), pre := [] },
  { dst := some 77, op := .ia 1 (.t 65) (.t 66) },
  { dst := none, op := .st 1 (.t 77) (.t 72), pre := [] },
  { dst := some 78, op := .ia 1 (.t 67) (.t 68) },
  { dst := none, op := .st 1 (.t 78) (.t 76), pre := [] }])
 (.seq (.reg false [{ dst := some 79, op := .mv (.t 9) },
  { dst := some 80, op := .bin .add (.t 79) (.c (.i .i64 1)) },
  { dst := some 9, op := .mv (.t 80) }])
 (.reg false [{ dst := some 81, op := .mv (.t 10) },
  { dst := some 82, op := .bin .sub (.t 81) (.c (.i .i64 1)) },
  { dst := some 10, op := .mv (.t 82) }])))))))))
 (.seq (.reg false [{ dst := some 83, op := .mv (.t 9) },
  { dst := some 8, op := .mv (.t 83) }])
 .ret))))) }
def A_slices_partitionOrdered_int : AFun := { res := [.t 8, .t 9], body := (.seq (.reg false [{ dst := some 8, op := .mv (.c (.i .i64 0)) },
  { dst := some 9, op := .mv (.c (.b false)) }])
 (.seq (.reg true [{ dst := some 12, op := .mv (.t 0) },
  { dst := some 13, op := .mv (.t 1) },
  { dst := some 14, op := .mv (.t 0) },
  { dst := some 15, op := .mv (.t 3) },
  { dst := some 16, op := .mv (.t 0) },
  { dst := some 17, op := .mv (.t 3) },
  { dst := some 18, op := .ia 1 (.t 16) (.t 17) },
  { dst := some 19, op := .ld none (.t 18), pre := [] },
  { dst := some 20, op := .mv (.t 0) },
  { dst := some 21, op := .mv (.t 1) },
  { dst := some 22, op := .ia 1 (.t 20) (.t 21) },
  { dst := some 23, op := .ld none (.t 22), pre := [] },
  { dst := some 24, op := .ia 1 (.t 12) (.t 13) },
  { dst := none, op := .st 1 (.t 24) (.t 19), pre := [] },
  { dst := some 25, op := .ia 1 (.t 14) (.t 15) },
  { dst := none, op := .st 1 (.t 25) (.t 23), pre := [] }])
 (.seq (.reg false [{ dst := some 26, op := .mv (.t 1) },
  { dst := some 27, op := .bin .add (.t 26) (.c (.i .i64 1)) },
  { dst := some 28, op := .mv (.t 2) },
  { dst := some 29, op := .bin .sub (.t 28) (.c (.i .i64 1)) },
  { dst := some 10, op := .mv (.t 27) },
  { dst := some 11, op := .mv (.t 29) }])
 (.seq (.blk 0 (.loop (.seq (.seq (.reg true [{ dst := some 30, op := .mv (.t 10) },
  { dst := some 31, op := .mv (.t 11) },
  { dst := some 32, op := .bin .leq (.t 30) (.t 31) },
  { dst := some 33, op := .mv (.t 32) },
  { dst := some 34, op := .mv (.t 0), grd := some (33, true) },
  { dst := some 35, op := .mv (.t 10), grd := some (33, true) },
  { dst := some 36, op := .ia 1 (.t 34) (.t 35), grd := some (33, true) },
  { dst := some 37, op := .ld none (.t 36), grd := some (33, true), pre := [] },
  { dst := some 38, op := .mv (.t 0), grd := some (33, true) },
  { dst := some 39, op := .mv (.t 1), grd := some (33, true) },
  { dst := some 40, op := .ia 1 (.t 38) (.t 39), grd := some (33, true) },
  { dst := some 41, op := .ld none (.t 40), grd := some (33, true), pre := [] },
  { dst := some 42, op := .call .pure (.c (.fn 359 [] [])) [.t 37, .t 41], grd := some (33, true), pre := [] },
  { dst := some 43, op := .pick (.t 33) (.t 42) (.c (.b false)) }])
 (.cond (.t 43) .skip
 (.ext 0)))
 (.blk 1 (.reg false [{ dst := some 44, op := .mv (.t 10) },
  { dst := some 45, op := .bin .add (.t 44) (.c (.i .i64 1)) },
  { dst := some 10, op := .mv (.t 45) }])))))
 (.seq (.blk 2 (.loop (.seq (.seq (.reg true [{ dst := some 46, op := .mv (.t 10) },
  { dst := some 47, op := .mv (.t 11) },
  { dst := some 48, op := .bin .leq (.t 46) (.t 47) },
  { dst := some 49, op := .mv (.t 48) },
  { dst := some 50, op := .mv (.t 0), grd := some (49, true) },
  { dst := some 51, op := .mv (.t 11), grd := some (49, true) },
  { dst := some 52, op := .ia 1 (.t 50) (.t 51), grd := some (49, true) },
  { dst := some 53, op := .ld none (.t 52), grd := some (49, true), pre := [] },
  { dst := some 54, op := .mv (.t 0), grd := some (49, true) },
  { dst := some 55, op := .mv (.t 1), grd := some (49, true) },
  { dst := some 56, op := .ia 1 (.t 54) (.t 55), grd := some (49, true) },
  { dst := some 57, op := .ld none (.t 56), grd := some (49, true), pre := [] },
  { dst := some 58, op := .call .pure (.c (.fn 359 [] [])) [.t 53, .t 57], grd := some (49, true), pre := [] },
  { dst := some 59, op := .un .not (.t 58), grd := some (49, true) },
  { dst := some 60, op := .pick (.t 49) (.t 59) (.c (.b false)) }])
 (.cond (.t 60) .skip
 (.ext 2)))
 (.blk 3 (.reg false [{ dst := some 61, op := .mv (.t 11) },
  { dst := some 62, op := .bin .sub (.t 61) (.c (.i .i64 1)) },
  { dst := some 11, op := .mv (.t 62) }])))))
 (.seq (.seq (.reg false [{ dst := some 63, op := .mv (.t 10) },
  { dst := some 64, op := .mv (.t 11) },
  { dst := some 65, op := .bin .gtr (.t 63) (.t 64) }])
 (.cond (.t 65) (.seq (.reg true [{ dst := some 66, op := .mv (.t 0) },
  { dst := some 67, op := .mv (.t 11) },
  { dst := some 68, op := .mv (.t 0) },
  { dst := some 69, op := .mv (.t 1) },
  { dst := some 70, op := .mv (.t 0) },
  { dst := some 71, op := .mv (.t 1) },
  { dst := some 72, op := .ia 1 (.t 70) (.t 71) },
  { dst := some 73, op := .ld none (.t 72), pre := [] },
  { dst := some 74, op := .mv (.t 0) },
  { dst := some 75, op := .mv (.t 11) },
  { dst := some 76, op := .ia 1 (.t 74) (.t 75) },
  { dst := some 77, op := .ld none (.t 76), pre := [] },
  { dst := some 78, op := .ia 1 (.t 66) (.t 67) },
  { dst := none, op := .st 1 (.t 78) (.t 73), pre := [] },
  { dst := some 79, op := .ia 1 (.t 68) (.t 69) },
  { dst := none, op := .st 1 (.t 79) (.t 77), pre := [] }])
 (.seq (.reg false [{ dst := some 80, op := .mv (.t 11) },
  { dst := some 8, op := .mv (.t 80) },
  { dst := some 9, op := .mv (.c (.b true)) }])
 .ret))
 .skip))
 (.seq (.reg true [{ dst := some 81, op := .mv (.t 0) },
  { dst := some 82, op := .mv (.t 10) },
  { dst := some 83, op := .mv (.t 0) },
  { dst := some 84, op := .mv (.t 11) },
  { dst := some 85, op := .mv (.t 0) },
  { dst := some 86, op := .mv (.t 11) },
  { dst := some 87, op := .ia 1 (.t 85) (.t 86) },
  { dst := some 88, op := .ld none (.t 87), pre := [] },
  { dst := some 89, op := .mv (.t 0) },
  { dst := some 90, op := .mv (.t 10) },
  { dst := some 91, op := .ia 1 (.t 89) (.t 90) },
  { dst := some 92, op := .ld none (.t 91), pre := [] },
  { dst := some 93, op := .ia 1 (.t 81) (.t 82) },
  { dst := none, op := .st 1 (.t 93) (.t 88), pre := [] },
  { dst := some 94, op := .ia 1 (.t 83) (.t 84) },
  { dst := none, op := .st 1 (.t 94) (.t 92), pre := [] }])
 (.seq (.reg false [{ dst := some 95, op := .mv (.t 10) },
  { dst := some 96, op := .bin .add (.t 95) (.c (.i .i64 1)) },
  { dst := some 10, op := .mv (.t 96) }])
 (.seq (.reg false [{ dst := some 97, op := .mv (.t 11) },
  { dst := some 98, op := .bin .sub (.t 97) (.c (.i .i64 1)) },
  { dst := some 11, op := .mv (.t 98) }])
 (.seq (.blk 4 (.loop (.blk 5 (.seq (.blk 6 (.loop (.seq (.seq (.reg true [{ dst := some 99, op := .mv (.t 10) },
  { dst := some 100, op := .mv (.t 11) },
  { dst := some 101, op := .bin .leq (.t 99) (.t 100) },
  { dst := some 102, op := .mv (.t 101) },
  { dst := some 103, op := .mv (.t 0), grd := some (102, true) },
  { dst := some 104, op := .mv (.t 10), grd := some (102, true) },
  { dst := some 105, op := .ia 1 (.t 103) (.t 104), grd := some (102, true) },
  { dst := some 106, op := .ld none (.t 105), grd := some (102, true), pre := [] },
  { dst := some 107, op := .mv (.t 0), grd := some (102, true) },
  { dst := some 108, op := .mv (.t 1), grd := some (102, true) },
  { dst := some 109, op := .ia 1 (.t 107) (.t 108), grd := some (102, true) },
  { dst := some 110, op := .ld none (.t 109), grd := some (102, true), pre := [] },
  { dst := some 111, op := .call .pure (.c (.fn 359 [] [])) [.t 106, .t 110], grd := some (102, true), pre := [] },
  { dst := some 112, op := .pick (.t 102) (.t 111) (.c (.b false)) }])
 (.cond (.t 112) .skip
 (.ext 6)))
 (.blk 7 (.reg false [{ dst := some 113, op := .mv (.t 10) },
  { dst := some 114, op := .bin .add (.t 113) (.c (.i .i64 1)) },
  { dst := some 10, op := .mv (.t 114) }])))))
 (.seq (.blk 8 (.loop (.seq (.seq (.reg true [{ dst := some 115, op := .mv (.t 10) },
  { dst := some 116, op := .mv (.t 11) },
  { dst := some 117, op := .bin .leq (.t 115) (.t 116) },
  { dst := some 118, op := .mv (.t 117) },
  { dst := some 119, op := .mv (.t 0), grd := some (118, true) },
  { dst := some 120, op := .mv (.t 11), grd := some (118, true) },
  { dst := some 121, op := .ia 1 (.t 119) (.t 120), grd := some (118, true) },
  { dst := some 122, op := .ld none (.t 121), grd := some (118, true), pre := [] },
  { dst := some 123, op := .mv (.t 0), grd := some (118, true) },
  { dst := some 124, op := .mv (.t 1), grd := some (118, true) },
  { dst := some 125, op := .ia 1 (.t 123) (.t 124), grd := some (118, true) },
  { dst := some 126, op := .ld none (.t 125), grd := some (118, true), pre := [] },
  { dst := some 127, op := .call .pure (.c (.fn 359 [] [])) [.t 122, .t 126], grd := some (118, true), pre := [] },
  { dst := some 128, op := .un .not (.t 127), grd := some (118, true) },
  { dst := some 129, op := .pick (.t 118) (.t 128) (.c (.b false)) }])
 (.cond (.t 129) .skip
 (.ext 8)))
 (.blk 9 (.reg false [{ dst := some 130, op := .mv (.t 11) },
  { dst := some 131, op := .bin .sub (.t 130) (.c (.i .i64 1)) },
  { dst := some 11, op := .mv (.t 131) }])))))
 (.seq (.seq (.reg false [{ dst := some 132, op := .mv (.t 10) },
  { dst := some 133, op := .mv (.t 11) },
  { dst := some 134, op := .bin .gtr (.t 132) (.t 133) }])
 (.cond (.t 134) (.ext 4)
 .skip))
 (.seq (.reg true [{ dst := some 135, op := .mv (.t 0) },
  { dst := some 136, op := .mv (.t 10) },
  { dst := some 137, op := .mv (.t 0) },
  { dst := some 138, op := .mv (.t 11) },
  { dst := some 139, op := .mv (.t 0) },
  { dst := some 140, op := .mv (.t 11) },
  { dst := some 141, op := .ia 1 (.t 139) (.t 140) },
  { dst := some 142, op := .ld none (.t 141), pre := [] },
  { dst := some 143, op := .mv (.t 0) },
  { dst := some 144, op := .mv (.t 10) },
  { dst := some 145, op := .ia 1 (.t 143) (.t 144) },
  { dst := some 146, op := .ld none (.t 145), pre := [] },
  { dst := some 147, op := .ia 1 (.t 135) (.t 136) },
  { dst := none, op := .st 1 (.t 147) (.t 142), pre := [] },
  { dst := some 148, op := .ia 1 (.t 137) (.t 138) },
  { dst := none, op := .st 1 (.t 148) (.t 146), pre := [] }])
 (.seq (.reg false [{ dst := some 149, op := .mv (.t 10) },
  { dst := some 150, op := .bin .add (.t 149) (.c (.i .i64 1)) },
  { dst := some 10, op := .mv (.t 150) }])
 (.reg false [{ dst := some 151, op := .mv (.t 11) },
  { dst := some 152, op := .bin .sub (.t 151) (.c (.i .i64 1)) },
  { dst := some 11, op := .mv (.t 152) }])))))))))
 (.seq (.reg true [{ dst := some 153, op := .mv (.t 0) },
  { dst := some 154, op := .mv (.t 11) },
  { dst := some 155, op := .mv (.t 0) },
  { dst := some 156, op := .mv (.t 1) },
  { dst := some 157, op := .mv (.t 0) },
  { dst := some 158, op := .mv (.t 1) },
  { dst := some 159, op := .ia 1 (.t 157) (.t 158) },
  { dst := some 160, op := .ld none (.t 159), pre := [] },
  { dst := some 161, op := .mv (.t 0) },
  { dst := some 162, op := .mv (.t 11) },
  { dst := some 163, op := .ia 1 (.t 161) (.t 162) },
  { dst := some 164, op := .ld none (.t 163), pre := [] },
  { dst := some 165, op := .ia 1 (.t 153) (.t 154) },
  { dst := none, op := .st 1 (.t 165) (.t 160), pre := [] },
  { dst := some 166, op := .ia 1 (.t 155) (.t 156) },
  { dst := none, op := .st 1 (.t 166) (.t 164), pre := [] }])
 (.seq (.reg false [{ dst := some 167, op := .mv (.t 11) },
  { dst := some 8, op := .mv (.t 167) },
  { dst := some 9, op := .mv (.c (.b false)) }])
 .ret)))))))))))) }
def A_slices_siftDownOrdered_int : AFun := { res := [], body := (.seq (.reg false [{ dst := some 10, op := .mv (.t 1) },
  { dst := some 8, op := .mv (.t 10) }])
 (.blk 0 (.loop (.blk 1 (.seq (.reg false [{ dst := some 11, op := .mv (.t 8) },
  { dst := some 12, op := .bin .mul (.c (.i .i64 2)) (.t 11) },
  { dst := some 13, op := .bin .add (.t 12) (.c (.i .i64 1)) },
  { dst := some 9, op := .mv (.t 13) }])
 (.seq (.seq (.reg false [{ dst := some 14, op := .mv (.t 9) },
  { dst := some 15, op := .mv (.t 2) },
  { dst := some 16, op := .bin .geq (.t 14) (.t 15) }])
 (.cond (.t 16) (.ext 0)
 .skip))
 (.seq (.seq (.reg true [{ dst := some 17, op := .mv (.t 9) },
  { dst := some 18, op := .bin .add (.t 17) (.c (.i .i64 1)) },
  { dst := some 19, op := .mv (.t 2) },
  { dst := some 20, op := .bin .lss (.t 18) (.t 19) },
  { dst := some 21, op := .mv (.t 20) },
  { dst := some 22, op := .mv (.t 0), grd := some (21, true) },
  { dst := some 23, op := .mv (.t 3), grd := some (21, true) },
  { dst := some 24, op := .mv (.t 9), grd := some (21, true) },
  { dst := some 25, op := .bin .add (.t 23) (.t 24), grd := some (21, true) },
  { dst := some 26, op := .ia 1 (.t 22) (.t 25), grd := some (21, true) },
  { dst := some 27, op := .ld none (.t 26), grd := some (21, true), pre := [] },
  { dst := some 28, op := .mv (.t 0), grd := some (21, true) },
  { dst := some 29, op := .mv (.t 3), grd := some (21, true) },
  { dst := some 30, op := .mv (.t 9), grd := some (21, true) },
  { dst := some 31, op := .bin .add (.t 29) (.t 30), grd := some (21, true) },
  { dst := some 32, op := .bin .add (.t 31) (.c (.i .i64 1)), grd := some (21, true) },
  { dst := some 33, op := .ia 1 (.t 28) (.t 32), grd := some (21, true) },
  { dst := some 34, op := .ld none (.t 33), grd := some (21, true), pre := [] },
  { dst := some 35, op := .call .pure (.c (.fn 359 [] [])) [.t 27, .t 34], grd := some (21, true), pre := [] },
  { dst := some 36, op := .pick (.t 21) (.t 35) (.c (.b false)) }])
 (.cond (.t 36) (.reg false [{ dst := some 37, op := .mv (.t 9) },
  { dst := some 38, op := .bin .add (.t 37) (.c (.i .i64 1)) },
  { dst := some 9, op := .mv (.t 38) }])
 .skip))
 (.seq (.seq (.reg true [{ dst := some 39, op := .mv (.t 0) },
  { dst := some 40, op := .mv (.t 3) },
  { dst := some 41, op := .mv (.t 8) },
  { dst := some 42, op := .bin .add (.t 40) (.t 41) },
  { dst := some 43, op := .ia 1 (.t 39) (.t 42) },
  { dst := some 44, op := .ld none (.t 43), pre := [] },
  { dst := some 45, op := .mv (.t 0) },
  { dst := some 46, op := .mv (.t 3) },
  { dst := some 47, op := .mv (.t 9) },
  { dst := some 48, op := .bin .add (.t 46) (.t 47) },
  { dst := some 49, op := .ia 1 (.t 45) (.t 48) },
  { dst := some 50, op := .ld none (.t 49), pre := [] },
  { dst := some 51, op := .call .pure (.c (.fn 359 [] [])) [.t 44, .t 50], pre := [] },
  { dst := some 52, op := .un .not (.t 51) }])
 (.cond (.t 52) .ret
 .skip))
 (.seq (.reg true [{ dst := some 53, op := .mv (.t 0) },
  { dst := some 54, op := .mv (.t 3) },
  { dst := some 55, op := .mv (.t 8) },
  { dst := some 56, op := .bin .add (.t 54) (.t 55) },
  { dst := some 57, op := .mv (.t 0) },
  { dst := some 58, op := .mv (.t 3) },
  { dst := some 59, op := .mv (.t 9) },
  { dst := some 60, op := .bin .add (.t 58) (.t 59) },
  { dst := some 61, op := .mv (.t 0) },
  { dst := some 62, op := .mv (.t 3) },
  { dst := some 63, op := .mv (.t 9) },
  { dst := some 64, op := .bin .add (.t 62) (.t 63) },
  { dst := some 65, op := .ia 1 (.t 61) (.t 64) },
  { dst := some 66, op := .ld none (.t 65), pre := [] },
  { dst := some 67, op := .mv (.t 0) },
  { dst := some 68, op := .mv (.t 3) },
  { dst := some 69, op := .mv (.t 8) },
  { dst := some 70, op := .bin .add (.t 68) (.t 69) },
  { dst := some 71, op := .ia 1 (.t 67) (.t 70) },
  { dst := some 72, op := .ld none (.t 71), pre := [] },
  { dst := some 73, op := .ia 1 (.t 53) (.t 56) },
  { dst := none, op := .st 1 (.t 73) (.t 66), pre := [] },
  { dst := some 74, op := .ia 1 (.t 57) (.t 60) },
  { dst := none, op := .st 1 (.t 74) (.t 72), pre := [] }])
 (.reg false [{ dst := some 75, op := .mv (.t 9) },
  { dst := some 8, op := .mv (.t 75) }])))))))))) }
def A_slices_nextPowerOfTwo : AFun := { res := [.t 2], body := (.seq (.reg false [{ dst := some 2, op := .mv (.c (.i .u64 0)) }])
 (.seq (.reg false [{ dst := some 3, op := .mv (.t 0) },
  { dst := some 4, op := .conv .u64 (.t 3) },
  { dst := some 5, op := .call .pure (.c (.fn 421 [] [])) [.t 4] },
  { dst := some 6, op := .bin .shl (.c (.i .u64 1)) (.t 5) },
  { dst := some 2, op := .mv (.t 6) }])
 .ret)) }
def A_slices_xorshift_Next : AFun := { res := [.t 2], body := (.seq (.reg false [{ dst := some 2, op := .mv (.c (.i .u64 0)) }])
 (.seq (.reg true [{ dst := some 3, op := .mv (.t 0) },
  { dst := some 4, op := .nilck (.t 3) },
  { dst := some 5, op := .ld none (.t 4), pre := [] },
  { dst := some 6, op := .mv (.t 0) },
  { dst := some 7, op := .nilck (.t 6) },
  { dst := some 8, op := .ld none (.t 7), pre := [] },
  { dst := some 9, op := .bin .shl (.t 8) (.c (.i .u64 13)) },
  { dst := some 10, op := .bin .xor (.t 5) (.t 9) },
  { dst := some 11, op := .nilck (.t 3) },
  { dst := none, op := .st 1 (.t 11) (.t 10), pre := [] }])
 (.seq (.reg true [{ dst := some 12, op := .mv (.t 0) },
  { dst := some 13, op := .nilck (.t 12) },
  { dst := some 14, op := .ld none (.t 13), pre := [] },
  { dst := some 15, op := .mv (.t 0) },
  { dst := some 16, op := .nilck (.t 15) },
  { dst := some 17, op := .ld none (.t 16), pre := [] },
  { dst := some 18, op := .bin .shr (.t 17) (.c (.i .u64 7)) },
  { dst := some 19, op := .bin .xor (.t 14) (.t 18) },
  { dst := some 20, op := .nilck (.t 12) },
  { dst := none, op := .st 1 (.t 20) (.t 19), pre := [] }])
 (.seq (.reg true [{ dst := some 21, op := .mv (.t 0) },
  { dst := some 22, op := .nilck (.t 21) },
  { dst := some 23, op := .ld none (.t 22), pre := [] },
  { dst := some 24, op := .mv (.t 0) },
  { dst := some 25, op := .nilck (.t 24) },
  { dst := some 26, op := .ld none (.t 25), pre := [] },
  { dst := some 27, op := .bin .shl (.t 26) (.c (.i .u64 17)) },
  { dst := some 28, op := .bin .xor (.t 23) (.t 27) },
  { dst := some 29, op := .nilck (.t 21) },
  { dst := none, op := .st 1 (.t 29) (.t 28), pre := [] }])
 (.seq (.reg false [{ dst := some 30, op := .mv (.t 0) },
  { dst := some 31, op := .nilck (.t 30) },
  { dst := some 32, op := .ld none (.t 31) },
  { dst := some 2, op := .mv (.t 32) }])
 .ret))))) }
def A_slices_medianAdjacentOrdered_int : AFun := { res := [.t 6], body := (.seq (.reg false [{ dst := some 6, op := .mv (.c (.i .i64 0)) }])
 (.seq (.reg false [{ dst := some 7, op := .mv (.t 0) },
  { dst := some 8, op := .mv (.t 1) },
  { dst := some 9, op := .bin .sub (.t 8) (.c (.i .i64 1)) },
  { dst := some 10, op := .mv (.t 1) },
  { dst := some 11, op := .mv (.t 1) },
  { dst := some 12, op := .bin .add (.t 11) (.c (.i .i64 1)) },
  { dst := some 13, op := .mv (.t 2) },
  { dst := some 14, op := .call .pure (.c (.fn 446 [] [])) [.t 7, .t 9, .t 10, .t 12, .t 13] },
  { dst := some 6, op := .mv (.t 14) }])
 .ret)) }
def A_slices_medianOrdered_int : AFun := { res := [.t 10], body := (.seq (.reg false [{ dst := some 10, op := .mv (.c (.i .i64 0)) }])
 (.seq (.reg false [{ dst := some 12, op := .mv (.t 0) },
  { dst := some 13, op := .mv (.t 1) },
  { dst := some 14, op := .mv (.t 2) },
  { dst := some 15, op := .mv (.t 4) },
  { dst := some 16, op := .call .pure (.c (.fn 450 [] [])) [.t 12, .t 13, .t 14, .t 15] },
  { dst := some 11, op := .mv (.t 16) },
  { dst := some 17, op := .ext 0 (.t 11) },
  { dst := some 18, op := .ext 1 (.t 11) },
  { dst := some 1, op := .mv (.t 17) },
  { dst := some 2, op := .mv (.t 18) }])
 (.seq (.reg false [{ dst := some 20, op := .mv (.t 0) },
  { dst := some 21, op := .mv (.t 2) },
  { dst := some 22, op := .mv (.t 3) },
  { dst := some 23, op := .mv (.t 4) },
  { dst := some 24, op := .call .pure (.c (.fn 450 [] [])) [.t 20, .t 21, .t 22, .t 23] },
  { dst := some 19, op := .mv (.t 24) },
  { dst := some 25, op := .ext 0 (.t 19) },
  { dst := some 26, op := .ext 1 (.t 19) },
  { dst := some 2, op := .mv (.t 25) },
  { dst := some 3, op := .mv (.t 26) }])
 (.seq (.reg false [{ dst := some 28, op := .mv (.t 0) },
  { dst := some 29, op := .mv (.t 1) },
  { dst := some 30, op := .mv (.t 2) },
  { dst := some 31, op := .mv (.t 4) },
  { dst := some 32, op := .call .pure (.c (.fn 450 [] [])) [.t 28, .t 29, .t 30, .t 31] },
  { dst := some 27, op := .mv (.t 32) },
  { dst := some 33, op := .ext 0 (.t 27) },
  { dst := some 34, op := .ext 1 (.t 27) },
  { dst := some 1, op := .mv (.t 33) },
  { dst := some 2, op := .mv (.t 34) }])
 (.seq (.reg false [{ dst := some 35, op := .mv (.t 2) },
  { dst := some 10, op := .mv (.t 35) }])
 .ret))))) }
def A_slices_order2Ordered_int : AFun := { res := [.t 8, .t 9], body := (.seq (.reg false [{ dst := some 8, op := .mv (.c (.i .i64 0)) },
  { dst := some 9, op := .mv (.c (.i .i64 0)) }])
 (.seq (.seq (.reg true [{ dst := some 10, op := .mv (.t 0) },
  { dst := some 11, op := .mv (.t 2) },
  { dst := some 12, op := .ia 1 (.t 10) (.t 11) },
  { dst := some 13, op := .ld none (.t 12), pre := [] },
  { dst := some 14, op := .mv (.t 0) },
  { dst := some 15, op := .mv (.t 1) },
  { dst := some 16, op := .ia 1 (.t 14) (.t 15) },
  { dst := some 17, op := .ld none (.t 16), pre := [] },
  { dst := some 18, op := .call .pure (.c (.fn 359 [] [])) [.t 13, .t 17], pre := [] }])
 (.cond (.t 18) (.seq (.reg false [{ dst := some 19, op := .mv (.t 3) },
  { dst := some 20, op := .nilck (.t 19) },
  { dst := some 21, op := .ld none (.t 20) },
  { dst := some 22, op := .bin .add (.t 21) (.c (.i .i64 1)) },
  { dst := some 23, op := .nilck (.t 19) },
  { dst := none, op := .st 1 (.t 23) (.t 22) }])
 (.seq (.reg false [{ dst := some 24, op := .mv (.t 2) },
  { dst := some 25, op := .mv (.t 1) },
  { dst := some 8, op := .mv (.t 24) },
  { dst := some 9, op := .mv (.t 25) }])
 .ret))
 .skip))
 (.seq (.reg false [{ dst := some 26, op := .mv (.t 1) },
  { dst := some 27, op := .mv (.t 2) },
  { dst := some 8, op := .mv (.t 26) },
  { dst := some 9, op := .mv (.t 27) }])
 .ret))) }
end Go.Ab
end
section
namespace Go.Ab
def A_sound_Check : AFun := { res := [.t 2], body := (.seq (.reg false [{ dst := some 1, op := .box (.t 0) },
  { dst := some 2, op := .mv (.c (.i .i64 0)) }])
 (.seq (.seq (.reg false [{ dst := some 9, op := .fa 0 (.t 1) },
  { dst := some 10, op := .ld none (.t 9) },
  { dst := some 11, op := .bin .lss (.t 10) (.c (.i .i64 1)) },
  { dst := some 12, op := .mv (.t 11) },
  { dst := some 13, op := .fa 0 (.t 1), grd := some (12, false) },
  { dst := some 14, op := .ld none (.t 13), grd := some (12, false) },
  { dst := some 15, op := .bin .gtr (.t 14) (.c (.i .i64 4)), grd := some (12, false) },
  { dst := some 16, op := .pick (.t 12) (.c (.b true)) (.t 15) },
  { dst := some 17, op := .mv (.t 16) },
  { dst := some 18, op := .fa 1 (.t 1), grd := some (17, false) },
  { dst := some 19, op := .ld none (.t 18), grd := some (17, false) },
  { dst := some 20, op := .len (.t 19), grd := some (17, false) },
  { dst := some 21, op := .bin .eql (.t 20) (.c (.i .i64 0)), grd := some (17, false) },
  { dst := some 22, op := .pick (.t 17) (.c (.b true)) (.t 21) }])
 (.cond (.t 22) (.seq (.reg false [{ dst := some 2, op := .mv (.c (.i .i64 3)) }])
 .ret)
 .skip))
 (.seq (.reg false [{ dst := some 23, op := .fa 1 (.t 1) },
  { dst := some 24, op := .ld none (.t 23) },
  { dst := some 25, op := .len (.t 24) },
  { dst := some 26, op := .bin .gtr (.t 25) (.c (.i .i64 4)) },
  { dst := some 3, op := .mv (.t 26) }])
 (.seq (.reg false [{ dst := some 27, op := .fa 0 (.t 1) },
  { dst := some 28, op := .ld none (.t 27) },
  { dst := some 4, op := .mv (.t 28) }])
 (.seq (.seq (.reg false [{ dst := some 29, op := .fa 1 (.t 1) },
  { dst := some 30, op := .ld none (.t 29) },
  { dst := some 31, op := .len (.t 30) },
  { dst := some 32, op := .mv (.c (.i .i64 0)) }])
 (.blk 0 (.loop (.seq (.reg false [{ dst := some 33, op := .bin .lss (.t 32) (.t 31) }])
 (.seq (.cond (.t 33) .skip
 (.ext 0))
 (.seq (.blk 1 (.seq (.reg false [{ dst := some 34, op := .ia 1 (.t 30) (.t 32) },
  { dst := some 35, op := .ld none (.t 34) },
  { dst := some 6, op := .mv (.t 35) }])
 (.seq (.seq (.reg false [{ dst := some 36, op := .mv (.t 6) },
  { dst := some 37, op := .len (.t 36) },
  { dst := some 38, op := .mv (.c (.i .i64 0)) }])
 (.blk 2 (.loop (.seq (.reg false [{ dst := some 39, op := .bin .lss (.t 38) (.t 37) }])
 (.seq (.cond (.t 39) .skip
 (.ext 2))
 (.seq (.blk 3 (.seq (.reg false [{ dst := some 40, op := .mv (.t 38) },
  { dst := some 41, op := .ia 7 (.t 36) (.t 38) },
  { dst := some 42, op := .ld (some 7) (.t 41) },
  { dst := some 8, op := .new (List.replicate 5 (.i .i64 0) ++ [.sl [] 0 .rig, .i .i64 0]) },
  { dst := some 7, op := .mv (.t 40) },
  { dst := none, op := .st 7 (.t 8) (.t 42) }])
 (.seq (.reg false [{ dst := some 43, op := .ld (some 7) (.t 8) },
  { dst := some 44, op := .fa 0 (.t 1) },
  { dst := some 45, op := .ld none (.t 44) },
  { dst := some 46, op := .mv (.t 6) },
  { dst := some 47, op := .len (.t 46) },
  { dst := some 48, op := .bin .sub (.t 47) (.c (.i .i64 1)) },
  { dst := some 49, op := .mv (.t 7) },
  { dst := some 50, op := .bin .sub (.t 48) (.t 49) },
  { dst := some 51, op := .call .pure (.c (.fn 282 [] [])) [.t 43, .t 45, .t 50] },
  { dst := some 52, op := .un .not (.t 51) }])
 (.cond (.t 52) (.seq (.reg false [{ dst := some 2, op := .mv (.c (.i .i64 3)) }])
 .ret)
 .skip))))
 (.reg false [{ dst := some 53, op := .bin .add (.t 38) (.c (.i .i64 1)) },
  { dst := some 38, op := .mv (.t 53) }])))))))
 (.seq (.reg false [{ dst := some 54, op := .mv (.t 4) },
  { dst := some 55, op := .mv (.t 6) },
  { dst := some 56, op := .call .pure (.c (.fn 301 [] [])) [.t 55] },
  { dst := some 57, op := .bin .add (.t 54) (.t 56) },
  { dst := some 4, op := .mv (.t 57) }])
 (.reg false [{ dst := some 58, op := .mv (.t 3) },
  { dst := some 59, op := .mv (.t 58) },
  { dst := some 60, op := .mv (.t 6), grd := some (59, false) },
  { dst := some 61, op := .len (.t 60), grd := some (59, false) },
  { dst := some 62, op := .bin .gtr (.t 61) (.c (.i .i64 12)), grd := some (59, false) },
  { dst := some 63, op := .pick (.t 59) (.c (.b true)) (.t 62) },
  { dst := some 64, op := .mv (.t 63) },
  { dst := some 65, op := .mv (.t 6), grd := some (64, false) },
  { dst := some 66, op := .call .pure (.c (.fn 302 [] [])) [.t 65], grd := some (64, false) },
  { dst := some 67, op := .bin .gtr (.t 66) (.c (.i .i64 64)), grd := some (64, false) },
  { dst := some 68, op := .pick (.t 64) (.c (.b true)) (.t 67) },
  { dst := some 3, op := .mv (.t 68) }])))))
 (.reg false [{ dst := some 69, op := .bin .add (.t 32) (.c (.i .i64 1)) },
  { dst := some 32, op := .mv (.t 69) }])))))))
 (.seq (.seq (.reg false [{ dst := some 70, op := .mv (.t 3) },
  { dst := some 71, op := .mv (.t 70) },
  { dst := some 72, op := .mv (.t 4), grd := some (71, false) },
  { dst := some 73, op := .bin .gtr (.t 72) (.c (.i .i64 40)), grd := some (71, false) },
  { dst := some 74, op := .pick (.t 71) (.c (.b true)) (.t 73) }])
 (.cond (.t 74) (.seq (.reg false [{ dst := some 2, op := .mv (.c (.i .i64 4)) }])
 .ret)
 .skip))
 (.seq (.reg false [{ dst := some 2, op := .mv (.c (.i .i64 0)) }])
 .ret))))))) }
def A_sound_Instr : AFun := { res := [.t 6], body := (.seq (.reg false [{ dst := some 3, op := .box (.t 0) },
  { dst := some 6, op := .mv (.c (.b false)) }])
 (.seq (.reg false [{ dst := some 10, op := .fa 0 (.t 3) },
  { dst := some 11, op := .ld none (.t 10) },
  { dst := some 12, op := .call .pure (.c (.fn 303 [] [])) [.t 11] },
  { dst := some 7, op := .new (List.replicate 4 (.i .i64 0)) },
  { dst := none, op := .st 4 (.t 7) (.t 12) }])
 (.seq (.reg false [{ dst := some 13, op := .mkfn 304 [] [.t 7] },
  { dst := some 8, op := .mv (.t 13) }])
 (.seq (.reg false [{ dst := some 14, op := .ld (some 4) (.t 7) },
  { dst := some 15, op := .build (List.replicate 4 (.i .i64 0)) [] },
  { dst := some 16, op := .eqa true [0, 0, 0, 0] (.t 14) (.t 15) },
  { dst := some 17, op := .mv (.t 16) },
  { dst := some 18, op := .fa 1 (.t 3), grd := some (17, true) },
  { dst := some 19, op := .ld none (.t 18), grd := some (17, true) },
  { dst := some 20, op := .fa 1 (.t 7), grd := some (17, true) },
  { dst := some 21, op := .ld none (.t 20), grd := some (17, true) },
  { dst := some 22, op := .call .pure (.c (.fn 305 [] [])) [.t 19, .t 21], grd := some (17, true) },
  { dst := some 23, op := .pick (.t 17) (.t 22) (.c (.b false)) },
  { dst := some 24, op := .mv (.t 23) },
  { dst := some 25, op := .fa 2 (.t 3), grd := some (24, true) },
  { dst := some 26, op := .ld none (.t 25), grd := some (24, true) },
  { dst := some 27, op := .fa 2 (.t 7), grd := some (24, true) },
  { dst := some 28, op := .ld none (.t 27), grd := some (24, true) },
  { dst := some 29, op := .call .pure (.c (.fn 305 [] [])) [.t 26, .t 28], grd := some (24, true) },
  { dst := some 30, op := .pick (.t 24) (.t 29) (.c (.b false)) },
  { dst := some 9, op := .mv (.t 30) }])
 (.seq (.reg true [{ dst := some 31, op := .mv (.t 9) },
  { dst := some 32, op := .mv (.t 31) },
  { dst := some 33, op := .mv (.t 8), grd := some (32, true) },
  { dst := some 34, op := .call .pure (.t 33) [.c (.i .i64 1)], grd := some (32, true), pre := [] },
  { dst := some 35, op := .fa 3 (.t 3), grd := some (32, true) },
  { dst := some 36, op := .ld none (.t 35), grd := some (32, true), pre := [] },
  { dst := some 37, op := .call .pure (.c (.fn 306 [] [])) [.t 34, .t 36, .c (.i .i64 7)], grd := some (32, true), pre := [] },
  { dst := some 38, op := .pick (.t 32) (.t 37) (.c (.b false)) },
  { dst := some 39, op := .mv (.t 38) },
  { dst := some 40, op := .mv (.t 8), grd := some (39, true) },
  { dst := some 41, op := .call .pure (.t 40) [.c (.i .i64 2)], grd := some (39, true), pre := [] },
  { dst := some 42, op := .fa 4 (.t 3), grd := some (39, true) },
  { dst := some 43, op := .ld none (.t 42), grd := some (39, true), pre := [] },
  { dst := some 44, op := .mv (.t 1), grd := some (39, true) },
  { dst := some 45, op := .mx (.t 44) (.c (.i .i64 0)), grd := some (39, true) },
  { dst := some 46, op := .bin .sub (.t 45) (.c (.i .i64 1)), grd := some (39, true) },
  { dst := some 47, op := .call .pure (.c (.fn 306 [] [])) [.t 41, .t 43, .t 46], grd := some (39, true), pre := [] },
  { dst := some 48, op := .pick (.t 39) (.t 47) (.c (.b false)) },
  { dst := some 49, op := .mv (.t 48) },
  { dst := some 50, op := .mv (.t 8), grd := some (49, true) },
  { dst := some 51, op := .call .pure (.t 50) [.c (.i .i64 8)], grd := some (49, true), pre := [] },
  { dst := some 52, op := .fa 6 (.t 3), grd := some (49, true) },
  { dst := some 53, op := .ld none (.t 52), grd := some (49, true), pre := [] },
  { dst := some 54, op := .mv (.t 2), grd := some (49, true) },
  { dst := some 55, op := .call .pure (.c (.fn 306 [] [])) [.t 51, .t 53, .t 54], grd := some (49, true), pre := [] },
  { dst := some 56, op := .pick (.t 49) (.t 55) (.c (.b false)) },
  { dst := some 9, op := .mv (.t 56) }])
 (.seq (.seq (.reg true [{ dst := some 57, op := .fa 0 (.t 3) },
  { dst := some 58, op := .ld none (.t 57), pre := [] },
  { dst := some 59, op := .bin .eql (.t 58) (.c (.i .i64 4)) },
  { dst := some 60, op := .mv (.t 59) },
  { dst := some 61, op := .fa 5 (.t 3), grd := some (60, true) },
  { dst := some 62, op := .ld none (.t 61), grd := some (60, true), pre := [] },
  { dst := some 63, op := .len (.t 62), grd := some (60, true) },
  { dst := some 64, op := .bin .gtr (.t 63) (.c (.i .i64 7)), grd := some (60, true) },
  { dst := some 65, op := .mv (.t 64), grd := some (60, true) },
  { dst := some 66, op := .fa 5 (.t 3), grd := some (65, false) },
  { dst := some 67, op := .ld none (.t 66), grd := some (65, false), pre := [] },
  { dst := some 68, op := .call .pure (.c (.fn 307 [] [])) [.t 67], grd := some (65, false), pre := [] },
  { dst := some 69, op := .fa 3 (.t 3), grd := some (65, false) },
  { dst := some 70, op := .ld none (.t 69), grd := some (65, false), pre := [] },
  { dst := some 71, op := .call .pure (.c (.fn 369 [] [])) [.t 68, .t 70], grd := some (65, false), pre := [] },
  { dst := some 72, op := .pick (.t 65) (.c (.b true)) (.t 71), grd := some (60, true) },
  { dst := some 73, op := .pick (.t 60) (.t 72) (.c (.b false)) }])
 (.cond (.t 73) (.seq (.reg false [{ dst := some 6, op := .mv (.c (.b false)) }])
 .ret)
 .skip))
 (.seq (.reg false [{ dst := some 74, op := .mv (.t 9) },
  { dst := some 75, op := .mv (.t 74) },
  { dst := some 76, op := .mv (.t 8), grd := some (75, true) },
  { dst := some 77, op := .call .pure (.t 76) [.c (.i .i64 4)], grd := some (75, true) },
  { dst := some 78, op := .mv (.t 77), grd := some (75, true) },
  { dst := some 79, op := .fa 5 (.t 3), grd := some (78, true) },
  { dst := some 80, op := .ld none (.t 79), grd := some (78, true) },
  { dst := some 81, op := .call .pure (.c (.fn 308 [] [])) [.t 80], grd := some (78, true) },
  { dst := some 82, op := .pick (.t 78) (.t 81) (.c (.b false)), grd := some (75, true) },
  { dst := some 83, op := .mv (.t 82), grd := some (75, true) },
  { dst := some 84, op := .mv (.t 8), grd := some (83, false) },
  { dst := some 85, op := .call .pure (.t 84) [.c (.i .i64 4)], grd := some (83, false) },
  { dst := some 86, op := .un .not (.t 85), grd := some (83, false) },
  { dst := some 87, op := .mv (.t 86), grd := some (83, false) },
  { dst := some 88, op := .fa 5 (.t 3), grd := some (87, true) },
  { dst := some 89, op := .ld none (.t 88), grd := some (87, true) },
  { dst := some 90, op := .len (.t 89), grd := some (87, true) },
  { dst := some 91, op := .bin .eql (.t 90) (.c (.i .i64 0)), grd := some (87, true) },
  { dst := some 92, op := .pick (.t 87) (.t 91) (.c (.b false)), grd := some (83, false) },
  { dst := some 93, op := .pick (.t 83) (.c (.b true)) (.t 92), grd := some (75, true) },
  { dst := some 94, op := .pick (.t 75) (.t 93) (.c (.b false)) },
  { dst := some 6, op := .mv (.t 94) }])
 .ret))))))) }
def A_sound_Events : AFun := { res := [.t 2], body := (.seq (.reg false [{ dst := some 2, op := .mv (.c (.i .i64 0)) }])
 (.seq (.reg false [{ dst := some 3, op := .mv (.c (.i .i64 0)) }])
 (.seq (.seq (.reg false [{ dst := some 6, op := .mv (.t 0) },
  { dst := some 7, op := .len (.t 6) },
  { dst := some 8, op := .mv (.c (.i .i64 0)) }])
 (.blk 0 (.loop (.seq (.reg false [{ dst := some 9, op := .bin .lss (.t 8) (.t 7) }])
 (.seq (.cond (.t 9) .skip
 (.ext 0))
 (.seq (.blk 1 (.seq (.reg false [{ dst := some 10, op := .ia 7 (.t 6) (.t 8) },
  { dst := some 11, op := .ld (some 7) (.t 10) },
  { dst := some 5, op := .new (List.replicate 5 (.i .i64 0) ++ [.sl [] 0 .rig, .i .i64 0]) },
  { dst := none, op := .st 7 (.t 5) (.t 11) }])
 (.reg false [{ dst := some 12, op := .mv (.t 3) },
  { dst := some 13, op := .fa 0 (.t 5) },
  { dst := some 14, op := .ld none (.t 13) },
  { dst := some 15, op := .call .pure (.c (.fn 303 [] [])) [.t 14] },
  { dst := some 16, op := .fld 3 none (.t 15) },
  { dst := some 17, op := .bin .add (.t 12) (.t 16) },
  { dst := some 3, op := .mv (.t 17) }])))
 (.reg false [{ dst := some 18, op := .bin .add (.t 8) (.c (.i .i64 1)) },
  { dst := some 8, op := .mv (.t 18) }])))))))
 (.seq (.reg false [{ dst := some 19, op := .mv (.t 3) },
  { dst := some 2, op := .mv (.t 19) }])
 .ret)))) }
def A_sound_Paths : AFun := { res := [.t 2], body := (.seq (.reg false [{ dst := some 2, op := .mv (.c (.i .i64 0)) }])
 (.seq (.reg false [{ dst := some 3, op := .mv (.c (.i .i64 1)) }])
 (.seq (.seq (.reg false [{ dst := some 6, op := .mv (.t 0) },
  { dst := some 7, op := .len (.t 6) },
  { dst := some 8, op := .mv (.c (.i .i64 0)) }])
 (.blk 0 (.loop (.seq (.reg false [{ dst := some 9, op := .bin .lss (.t 8) (.t 7) }])
 (.seq (.cond (.t 9) .skip
 (.ext 0))
 (.seq (.blk 1 (.seq (.reg false [{ dst := some 10, op := .ia 7 (.t 6) (.t 8) },
  { dst := some 11, op := .ld (some 7) (.t 10) },
  { dst := some 5, op := .new (List.replicate 5 (.i .i64 0) ++ [.sl [] 0 .rig, .i .i64 0]) },
  { dst := none, op := .st 7 (.t 5) (.t 11) }])
 (.seq (.reg false [{ dst := some 12, op := .fa 0 (.t 5) },
  { dst := some 13, op := .ld none (.t 12) },
  { dst := some 14, op := .bin .eql (.t 13) (.c (.i .i64 6)) }])
 (.cond (.t 14) (.reg false [{ dst := some 15, op := .mv (.t 3) },
  { dst := some 16, op := .bin .mul (.c (.i .i64 2)) (.t 15) },
  { dst := some 17, op := .mn (.t 16) (.c (.i .i64 1000000)) },
  { dst := some 3, op := .mv (.t 17) }])
 .skip))))
 (.reg false [{ dst := some 18, op := .bin .add (.t 8) (.c (.i .i64 1)) },
  { dst := some 8, op := .mv (.t 18) }])))))))
 (.seq (.reg false [{ dst := some 19, op := .mv (.t 3) },
  { dst := some 2, op := .mv (.t 19) }])
 .ret)))) }
def A_sound_of : AFun := { res := [.cell 2 (some 4)], body := (.seq (.reg false [{ dst := some 2, op := .new (List.replicate 4 (.i .i64 0)) }])
 (.seq (.reg false [{ dst := some 4, op := .call .pure (.c (.fn 330 [] [])) [] },
  { dst := some 3, op := .mv (.t 4) }])
 (.seq (.seq (.reg false [{ dst := some 5, op := .mv (.t 0) },
  { dst := some 6, op := .bin .lss (.t 5) (.c (.i .i64 0)) },
  { dst := some 7, op := .mv (.t 6) },
  { dst := some 8, op := .mv (.t 0), grd := some (7, false) },
  { dst := some 9, op := .mv (.t 3), grd := some (7, false) },
  { dst := some 10, op := .len (.t 9), grd := some (7, false) },
  { dst := some 11, op := .bin .geq (.t 8) (.t 10), grd := some (7, false) },
  { dst := some 12, op := .pick (.t 7) (.c (.b true)) (.t 11) }])
 (.cond (.t 12) (.seq (.reg false [{ dst := some 13, op := .build (List.replicate 4 (.i .i64 0)) [] },
  { dst := none, op := .st 4 (.t 2) (.t 13) }])
 .ret)
 .skip))
 (.seq (.reg false [{ dst := some 14, op := .mv (.t 3) },
  { dst := some 15, op := .mv (.t 0) },
  { dst := some 16, op := .ia 4 (.t 14) (.t 15) },
  { dst := some 17, op := .ld (some 4) (.t 16) },
  { dst := none, op := .st 4 (.t 2) (.t 17) }])
 .ret)))) }
def A_sound_Instr_1 : AFun := { res := [.t 3], body := (.seq (.reg false [{ dst := some 3, op := .mv (.c (.b false)) }])
 (.seq (.reg false [{ dst := some 4, op := .fa 0 (.t 1) },
  { dst := some 5, op := .ld none (.t 4) },
  { dst := some 6, op := .mv (.t 0) },
  { dst := some 7, op := .bin .and (.t 5) (.t 6) },
  { dst := some 8, op := .bin .neq (.t 7) (.c (.i .i64 0)) },
  { dst := some 3, op := .mv (.t 8) }])
 .ret)) }
def A_sound_mode : AFun := { res := [.t 4], body := (.seq (.reg false [{ dst := some 4, op := .mv (.c (.b false)) }])
 (.seq (.reg false [{ dst := some 5, op := .mv (.t 0) },
  { dst := some 6, op := .bin .geq (.t 5) (.c (.i .i64 0)) },
  { dst := some 7, op := .mv (.t 6) },
  { dst := some 8, op := .mv (.t 0), grd := some (7, true) },
  { dst := some 9, op := .bin .leq (.t 8) (.c (.i .i64 4)), grd := some (7, true) },
  { dst := some 10, op := .pick (.t 7) (.t 9) (.c (.b false)) },
  { dst := some 11, op := .mv (.t 10) },
  { dst := some 12, op := .mv (.t 1), grd := some (11, true) },
  { dst := some 13, op := .mv (.t 0), grd := some (11, true) },
  { dst := some 14, op := .bin .shr (.t 12) (.t 13), grd := some (11, true) },
  { dst := some 15, op := .bin .and (.t 14) (.c (.i .i64 1)), grd := some (11, true) },
  { dst := some 16, op := .bin .eql (.t 15) (.c (.i .i64 1)), grd := some (11, true) },
  { dst := some 17, op := .pick (.t 11) (.t 16) (.c (.b false)) },
  { dst := some 4, op := .mv (.t 17) }])
 .ret)) }
def A_sound_part : AFun := { res := [.t 6], body := (.seq (.reg false [{ dst := some 6, op := .mv (.c (.b false)) }])
 (.seq (.seq (.reg false [{ dst := some 7, op := .mv (.t 0) },
  { dst := some 8, op := .un .not (.t 7) }])
 (.cond (.t 8) (.reg false [{ dst := some 2, op := .mv (.c (.i .i64 0)) }])
 .skip))
 (.seq (.reg false [{ dst := some 9, op := .mv (.t 1) },
  { dst := some 10, op := .bin .geq (.t 9) (.c (.i .i64 0)) },
  { dst := some 11, op := .mv (.t 10) },
  { dst := some 12, op := .mv (.t 1), grd := some (11, true) },
  { dst := some 13, op := .mv (.t 2), grd := some (11, true) },
  { dst := some 14, op := .bin .leq (.t 12) (.t 13), grd := some (11, true) },
  { dst := some 15, op := .pick (.t 11) (.t 14) (.c (.b false)) },
  { dst := some 6, op := .mv (.t 15) }])
 .ret))) }
def A_sound_kinds : AFun := { res := [.t 0], body := (.seq (.reg false [{ dst := some 0, op := .mv (.c (.sl [] 0 .rig)) }])
 (.seq (.reg false [{ dst := some 1, op := .build (List.replicate 4 (.i .i64 0)) [] },
  { dst := some 2, op := .build (List.replicate 4 (.i .i64 0)) [(0, 1, .c (.i .i64 3)), (1, 1, .c (.i .i64 3)), (2, 1, .c (.i .i64 1)), (3, 1, .c (.i .i64 1))] },
  { dst := some 3, op := .build (List.replicate 4 (.i .i64 0)) [(0, 1, .c (.i .i64 6)), (1, 1, .c (.i .i64 5)), (2, 1, .c (.i .i64 1)), (3, 1, .c (.i .i64 1))] },
  { dst := some 4, op := .build (List.replicate 4 (.i .i64 0)) [(0, 1, .c (.i .i64 0)), (1, 1, .c (.i .i64 30)), (2, 1, .c (.i .i64 1)), (3, 1, .c (.i .i64 1))] },
  { dst := some 5, op := .build (List.replicate 4 (.i .i64 0)) [(0, 1, .c (.i .i64 7)), (1, 1, .c (.i .i64 3)), (2, 1, .c (.i .i64 5)), (3, 1, .c (.i .i64 2))] },
  { dst := some 6, op := .build (List.replicate 4 (.i .i64 0)) [(0, 1, .c (.i .i64 5)), (1, 1, .c (.i .i64 1)), (2, 1, .c (.i .i64 1)), (3, 1, .c (.i .i64 0))] },
  { dst := some 7, op := .build (List.replicate 4 (.i .i64 0)) [(0, 1, .c (.i .i64 12)), (1, 1, .c (.i .i64 1)), (2, 1, .c (.i .i64 1)), (3, 1, .c (.i .i64 0))] },
  { dst := some 8, op := .bsl true 7 (List.replicate 28 (.i .i64 0)) [(0, 4, .t 1), (4, 4, .t 2), (8, 4, .t 3), (12, 4, .t 4), (16, 4, .t 5), (20, 4, .t 6), (24, 4, .t 7)] },
  { dst := some 0, op := .mv (.t 8) }])
 .ret)) }
end Go.Ab
end
section
set_option maxRecDepth 100000
set_option linter.unusedVariables false
namespace Go.Proofs.Ytkbggcmlmlnepaa
open Go.Ab
def tab : List (Nat × Nat × AFun) := [(10, 12, A_xlaw00_Place),
 (266, 188, A_cmp_isNaN_int),
 (273, 9, A_xlaw24_RulesKnown),
 (274, 10, A_xlaw24_RulesTargets),
 (275, 11, A_xlaw24_RulesModes),
 (280, 17, A_sound_Check),
 (282, 19, A_sound_Instr),
 (283, 20, A_xlaw24_RulesKnown_1),
 (284, 21, A_xlaw24_RulesKnown_2),
 (285, 22, A_xlaw24_st),
 (286, 23, A_xlaw24_ld),
 (287, 24, A_rules_Apply),
 (288, 25, A_rules_Can),
 (289, 26, A_xlaw24_awake),
 (290, 27, A_rules_Targets),
 (291, 28, A_rules_Join),
 (301, 40, A_sound_Events),
 (302, 41, A_sound_Paths),
 (303, 42, A_sound_of),
 (304, 43, A_sound_Instr_1),
 (305, 44, A_sound_mode),
 (306, 45, A_sound_part),
 (307, 47, A_expr_Regs),
 (308, 48, A_expr_Check),
 (309, 49, A_rules_all),
 (310, 53, A_rules_bar),
 (330, 96, A_sound_kinds),
 (331, 98, A_expr_may),
 (332, 99, A_rules_canSwap),
 (333, 100, A_rules_swap),
 (334, 101, A_rules_canDrop),
 (335, 102, A_rules_dropWrite),
 (336, 103, A_rules_canRead),
 (337, 104, A_rules_readWrite),
 (338, 105, A_rules_canAgain),
 (339, 106, A_rules_readRead),
 (340, 107, A_rules_canMerge),
 (341, 108, A_rules_merge),
 (342, 109, A_rules_canStrengthen),
 (343, 110, A_rules_strengthen),
 (344, 111, A_rules_canInsert),
 (345, 112, A_rules_insert),
 (346, 113, A_rules_canFold),
 (347, 114, A_rules_fold),
 (351, 142, A_rules_at_both),
 (352, 143, A_rules_at_i),
 (353, 144, A_rules_at_k),
 (354, 145, A_rules_canSwap_1),
 (355, 146, A_rules_meets),
 (356, 147, A_rules_at_reads),
 (357, 149, A_rules_at_has),
 (358, 150, A_expr_Eval),
 (359, 157, A_cmp_Less_int),
 (360, 181, A_rules_sets),
 (361, 182, A_expr_ops),
 (362, 198, A_expr_ops_1),
 (363, 199, A_expr_ops_2),
 (364, 200, A_expr_ops_3),
 (365, 201, A_expr_ops_4),
 (366, 202, A_expr_ops_5),
 (367, 203, A_expr_one),
 (368, 204, A_expr_ops_6),
 (369, 46, A_slices_Contains_lint_int),
 (370, 50, A_slices_Clone_llapi_Instr_lapi_Instr),
 (371, 51, A_slices_Sort_lint_int),
 (372, 52, A_slices_Compact_lint_int),
 (378, 148, A_slices_Clone_lapi_Tok_api_Tok),
 (419, 97, A_slices_Index_lint_int),
 (420, 115, A_slices_pdqsortOrdered_int),
 (421, 116, A_math_bits_Len),
 (424, 151, A_slices_insertionSortOrdered_int),
 (425, 152, A_slices_heapSortOrdered_int),
 (426, 153, A_slices_breakPatternsOrdered_int),
 (427, 154, A_slices_choosePivotOrdered_int),
 (428, 155, A_slices_reverseRangeOrdered_int),
 (429, 156, A_slices_partialInsertionSortOrdered_int),
 (430, 158, A_slices_partitionEqualOrdered_int),
 (431, 159, A_slices_partitionOrdered_int),
 (432, 160, A_math_bits_Len32),
 (433, 161, A_math_bits_Len64),
 (442, 183, A_slices_siftDownOrdered_int),
 (443, 184, A_slices_nextPowerOfTwo),
 (444, 185, A_slices_xorshift_Next),
 (445, 186, A_slices_medianAdjacentOrdered_int),
 (446, 187, A_slices_medianOrdered_int),
 (450, 205, A_slices_order2Ordered_int)]
def num (f : Nat) : Nat := ((tab.find? (fun r => r.1 == f)).map (·.2.1)).getD 0
def funs : Funs := fun f => (tab.find? (fun r => r.1 == f)).map (·.2.2)
theorem c10 : funB Try.prog num Try.f12 A_xlaw00_Place = true := by kernel_rfl
theorem c266 : funB Try.prog num Try.f188 A_cmp_isNaN_int = true := by kernel_rfl
theorem c273 : funB Try.prog num Try.f9 A_xlaw24_RulesKnown = true := by kernel_rfl
theorem c274 : funB Try.prog num Try.f10 A_xlaw24_RulesTargets = true := by kernel_rfl
theorem c275 : funB Try.prog num Try.f11 A_xlaw24_RulesModes = true := by kernel_rfl
theorem c280 : funB Try.prog num Try.f17 A_sound_Check = true := by kernel_rfl
theorem c282 : funB Try.prog num Try.f19 A_sound_Instr = true := by kernel_rfl
theorem c283 : funB Try.prog num Try.f20 A_xlaw24_RulesKnown_1 = true := by kernel_rfl
theorem c284 : funB Try.prog num Try.f21 A_xlaw24_RulesKnown_2 = true := by kernel_rfl
theorem c285 : funB Try.prog num Try.f22 A_xlaw24_st = true := by kernel_rfl
theorem c286 : funB Try.prog num Try.f23 A_xlaw24_ld = true := by kernel_rfl
theorem c287 : funB Try.prog num Try.f24 A_rules_Apply = true := by kernel_rfl
theorem c288 : funB Try.prog num Try.f25 A_rules_Can = true := by kernel_rfl
theorem c289 : funB Try.prog num Try.f26 A_xlaw24_awake = true := by kernel_rfl
theorem c290 : funB Try.prog num Try.f27 A_rules_Targets = true := by kernel_rfl
theorem c291 : funB Try.prog num Try.f28 A_rules_Join = true := by kernel_rfl
theorem c301 : funB Try.prog num Try.f40 A_sound_Events = true := by kernel_rfl
theorem c302 : funB Try.prog num Try.f41 A_sound_Paths = true := by kernel_rfl
theorem c303 : funB Try.prog num Try.f42 A_sound_of = true := by kernel_rfl
theorem c304 : funB Try.prog num Try.f43 A_sound_Instr_1 = true := by kernel_rfl
theorem c305 : funB Try.prog num Try.f44 A_sound_mode = true := by kernel_rfl
theorem c306 : funB Try.prog num Try.f45 A_sound_part = true := by kernel_rfl
theorem c307 : funB Try.prog num Try.f47 A_expr_Regs = true := by kernel_rfl
theorem c308 : funB Try.prog num Try.f48 A_expr_Check = true := by kernel_rfl
theorem c309 : funB Try.prog num Try.f49 A_rules_all = true := by kernel_rfl
theorem c310 : funB Try.prog num Try.f53 A_rules_bar = true := by kernel_rfl
theorem c330 : funB Try.prog num Try.f96 A_sound_kinds = true := by kernel_rfl
theorem c331 : funB Try.prog num Try.f98 A_expr_may = true := by kernel_rfl
theorem c332 : funB Try.prog num Try.f99 A_rules_canSwap = true := by kernel_rfl
theorem c333 : funB Try.prog num Try.f100 A_rules_swap = true := by kernel_rfl
theorem c334 : funB Try.prog num Try.f101 A_rules_canDrop = true := by kernel_rfl
theorem c335 : funB Try.prog num Try.f102 A_rules_dropWrite = true := by kernel_rfl
theorem c336 : funB Try.prog num Try.f103 A_rules_canRead = true := by kernel_rfl
theorem c337 : funB Try.prog num Try.f104 A_rules_readWrite = true := by kernel_rfl
theorem c338 : funB Try.prog num Try.f105 A_rules_canAgain = true := by kernel_rfl
theorem c339 : funB Try.prog num Try.f106 A_rules_readRead = true := by kernel_rfl
theorem c340 : funB Try.prog num Try.f107 A_rules_canMerge = true := by kernel_rfl
theorem c341 : funB Try.prog num Try.f108 A_rules_merge = true := by kernel_rfl
theorem c342 : funB Try.prog num Try.f109 A_rules_canStrengthen = true := by kernel_rfl
theorem c343 : funB Try.prog num Try.f110 A_rules_strengthen = true := by kernel_rfl
theorem c344 : funB Try.prog num Try.f111 A_rules_canInsert = true := by kernel_rfl
theorem c345 : funB Try.prog num Try.f112 A_rules_insert = true := by kernel_rfl
theorem c346 : funB Try.prog num Try.f113 A_rules_canFold = true := by kernel_rfl
theorem c347 : funB Try.prog num Try.f114 A_rules_fold = true := by kernel_rfl
theorem c351 : funB Try.prog num Try.f142 A_rules_at_both = true := by kernel_rfl
theorem c352 : funB Try.prog num Try.f143 A_rules_at_i = true := by kernel_rfl
theorem c353 : funB Try.prog num Try.f144 A_rules_at_k = true := by kernel_rfl
theorem c354 : funB Try.prog num Try.f145 A_rules_canSwap_1 = true := by kernel_rfl
theorem c355 : funB Try.prog num Try.f146 A_rules_meets = true := by kernel_rfl
theorem c356 : funB Try.prog num Try.f147 A_rules_at_reads = true := by kernel_rfl
theorem c357 : funB Try.prog num Try.f149 A_rules_at_has = true := by kernel_rfl
theorem c358 : funB Try.prog num Try.f150 A_expr_Eval = true := by kernel_rfl
theorem c359 : funB Try.prog num Try.f157 A_cmp_Less_int = true := by kernel_rfl
theorem c360 : funB Try.prog num Try.f181 A_rules_sets = true := by kernel_rfl
theorem c361 : funB Try.prog num Try.f182 A_expr_ops = true := by kernel_rfl
theorem c362 : funB Try.prog num Try.f198 A_expr_ops_1 = true := by kernel_rfl
theorem c363 : funB Try.prog num Try.f199 A_expr_ops_2 = true := by kernel_rfl
theorem c364 : funB Try.prog num Try.f200 A_expr_ops_3 = true := by kernel_rfl
theorem c365 : funB Try.prog num Try.f201 A_expr_ops_4 = true := by kernel_rfl
theorem c366 : funB Try.prog num Try.f202 A_expr_ops_5 = true := by kernel_rfl
theorem c367 : funB Try.prog num Try.f203 A_expr_one = true := by kernel_rfl
theorem c368 : funB Try.prog num Try.f204 A_expr_ops_6 = true := by kernel_rfl
theorem c369 : funB Try.prog num Try.f46 A_slices_Contains_lint_int = true := by kernel_rfl
theorem c370 : funB Try.prog num Try.f50 A_slices_Clone_llapi_Instr_lapi_Instr = true := by kernel_rfl
theorem c371 : funB Try.prog num Try.f51 A_slices_Sort_lint_int = true := by kernel_rfl
theorem c372 : funB Try.prog num Try.f52 A_slices_Compact_lint_int = true := by kernel_rfl
theorem c378 : funB Try.prog num Try.f148 A_slices_Clone_lapi_Tok_api_Tok = true := by kernel_rfl
theorem c419 : funB Try.prog num Try.f97 A_slices_Index_lint_int = true := by kernel_rfl
theorem c420 : funB Try.prog num Try.f115 A_slices_pdqsortOrdered_int = true := by kernel_rfl
theorem c421 : funB Try.prog num Try.f116 A_math_bits_Len = true := by kernel_rfl
theorem c424 : funB Try.prog num Try.f151 A_slices_insertionSortOrdered_int = true := by kernel_rfl
theorem c425 : funB Try.prog num Try.f152 A_slices_heapSortOrdered_int = true := by kernel_rfl
theorem c426 : funB Try.prog num Try.f153 A_slices_breakPatternsOrdered_int = true := by kernel_rfl
theorem c427 : funB Try.prog num Try.f154 A_slices_choosePivotOrdered_int = true := by kernel_rfl
theorem c428 : funB Try.prog num Try.f155 A_slices_reverseRangeOrdered_int = true := by kernel_rfl
theorem c429 : funB Try.prog num Try.f156 A_slices_partialInsertionSortOrdered_int = true := by kernel_rfl
theorem c430 : funB Try.prog num Try.f158 A_slices_partitionEqualOrdered_int = true := by kernel_rfl
theorem c431 : funB Try.prog num Try.f159 A_slices_partitionOrdered_int = true := by kernel_rfl
theorem c432 : funB Try.prog num Try.f160 A_math_bits_Len32 = true := by kernel_rfl
theorem c433 : funB Try.prog num Try.f161 A_math_bits_Len64 = true := by kernel_rfl
theorem c442 : funB Try.prog num Try.f183 A_slices_siftDownOrdered_int = true := by kernel_rfl
theorem c443 : funB Try.prog num Try.f184 A_slices_nextPowerOfTwo = true := by kernel_rfl
theorem c444 : funB Try.prog num Try.f185 A_slices_xorshift_Next = true := by kernel_rfl
theorem c445 : funB Try.prog num Try.f186 A_slices_medianAdjacentOrdered_int = true := by kernel_rfl
theorem c446 : funB Try.prog num Try.f187 A_slices_medianOrdered_int = true := by kernel_rfl
theorem c450 : funB Try.prog num Try.f205 A_slices_order2Ordered_int = true := by kernel_rfl
def Good (r : Nat × Nat × AFun) : Prop := num r.1 = r.2.1 ∧ ∃ fn, Try.prog.funcs[r.2.1]? = some fn ∧ funB Try.prog num fn r.2.2 = true
theorem good : ∀ r ∈ tab, Good r := by
  intro r hr
  unfold tab at hr
  rcases List.mem_cons.1 hr with rfl | hr
  · exact ⟨by kernel_rfl, _, Try.func12, c10⟩
  rcases List.mem_cons.1 hr with rfl | hr
  · exact ⟨by kernel_rfl, _, Try.func188, c266⟩
  rcases List.mem_cons.1 hr with rfl | hr
  · exact ⟨by kernel_rfl, _, Try.func9, c273⟩
  rcases List.mem_cons.1 hr with rfl | hr
  · exact ⟨by kernel_rfl, _, Try.func10, c274⟩
  rcases List.mem_cons.1 hr with rfl | hr
  · exact ⟨by kernel_rfl, _, Try.func11, c275⟩
  rcases List.mem_cons.1 hr with rfl | hr
  · exact ⟨by kernel_rfl, _, Try.func17, c280⟩
  rcases List.mem_cons.1 hr with rfl | hr
  · exact ⟨by kernel_rfl, _, Try.func19, c282⟩
  rcases List.mem_cons.1 hr with rfl | hr
  · exact ⟨by kernel_rfl, _, Try.func20, c283⟩
  rcases List.mem_cons.1 hr with rfl | hr
  · exact ⟨by kernel_rfl, _, Try.func21, c284⟩
  rcases List.mem_cons.1 hr with rfl | hr
  · exact ⟨by kernel_rfl, _, Try.func22, c285⟩
  rcases List.mem_cons.1 hr with rfl | hr
  · exact ⟨by kernel_rfl, _, Try.func23, c286⟩
  rcases List.mem_cons.1 hr with rfl | hr
  · exact ⟨by kernel_rfl, _, Try.func24, c287⟩
  rcases List.mem_cons.1 hr with rfl | hr
  · exact ⟨by kernel_rfl, _, Try.func25, c288⟩
  rcases List.mem_cons.1 hr with rfl | hr
  · exact ⟨by kernel_rfl, _, Try.func26, c289⟩
  rcases List.mem_cons.1 hr with rfl | hr
  · exact ⟨by kernel_rfl, _, Try.func27, c290⟩
  rcases List.mem_cons.1 hr with rfl | hr
  · exact ⟨by kernel_rfl, _, Try.func28, c291⟩
  rcases List.mem_cons.1 hr with rfl | hr
  · exact ⟨by kernel_rfl, _, Try.func40, c301⟩
  rcases List.mem_cons.1 hr with rfl | hr
  · exact ⟨by kernel_rfl, _, Try.func41, c302⟩
  rcases List.mem_cons.1 hr with rfl | hr
  · exact ⟨by kernel_rfl, _, Try.func42, c303⟩
  rcases List.mem_cons.1 hr with rfl | hr
  · exact ⟨by kernel_rfl, _, Try.func43, c304⟩
  rcases List.mem_cons.1 hr with rfl | hr
  · exact ⟨by kernel_rfl, _, Try.func44, c305⟩
  rcases List.mem_cons.1 hr with rfl | hr
  · exact ⟨by kernel_rfl, _, Try.func45, c306⟩
  rcases List.mem_cons.1 hr with rfl | hr
  · exact ⟨by kernel_rfl, _, Try.func47, c307⟩
  rcases List.mem_cons.1 hr with rfl | hr
  · exact ⟨by kernel_rfl, _, Try.func48, c308⟩
  rcases List.mem_cons.1 hr with rfl | hr
  · exact ⟨by kernel_rfl, _, Try.func49, c309⟩
  rcases List.mem_cons.1 hr with rfl | hr
  · exact ⟨by kernel_rfl, _, Try.func53, c310⟩
  rcases List.mem_cons.1 hr with rfl | hr
  · exact ⟨by kernel_rfl, _, Try.func96, c330⟩
  rcases List.mem_cons.1 hr with rfl | hr
  · exact ⟨by kernel_rfl, _, Try.func98, c331⟩
  rcases List.mem_cons.1 hr with rfl | hr
  · exact ⟨by kernel_rfl, _, Try.func99, c332⟩
  rcases List.mem_cons.1 hr with rfl | hr
  · exact ⟨by kernel_rfl, _, Try.func100, c333⟩
  rcases List.mem_cons.1 hr with rfl | hr
  · exact ⟨by kernel_rfl, _, Try.func101, c334⟩
  rcases List.mem_cons.1 hr with rfl | hr
  · exact ⟨by kernel_rfl, _, Try.func102, c335⟩
  rcases List.mem_cons.1 hr with rfl | hr
  · exact ⟨by kernel_rfl, _, Try.func103, c336⟩
  rcases List.mem_cons.1 hr with rfl | hr
  · exact ⟨by kernel_rfl, _, Try.func104, c337⟩
  rcases List.mem_cons.1 hr with rfl | hr
  · exact ⟨by kernel_rfl, _, Try.func105, c338⟩
  rcases List.mem_cons.1 hr with rfl | hr
  · exact ⟨by kernel_rfl, _, Try.func106, c339⟩
  rcases List.mem_cons.1 hr with rfl | hr
  · exact ⟨by kernel_rfl, _, Try.func107, c340⟩
  rcases List.mem_cons.1 hr with rfl | hr
  · exact ⟨by kernel_rfl, _, Try.func108, c341⟩
  rcases List.mem_cons.1 hr with rfl | hr
  · exact ⟨by kernel_rfl, _, Try.func109, c342⟩
  rcases List.mem_cons.1 hr with rfl | hr
  · exact ⟨by kernel_rfl, _, Try.func110, c343⟩
  rcases List.mem_cons.1 hr with rfl | hr
  · exact ⟨by kernel_rfl, _, Try.func111, c344⟩
  rcases List.mem_cons.1 hr with rfl | hr
  · exact ⟨by kernel_rfl, _, Try.func112, c345⟩
  rcases List.mem_cons.1 hr with rfl | hr
  · exact ⟨by kernel_rfl, _, Try.func113, c346⟩
  rcases List.mem_cons.1 hr with rfl | hr
  · exact ⟨by kernel_rfl, _, Try.func114, c347⟩
  rcases List.mem_cons.1 hr with rfl | hr
  · exact ⟨by kernel_rfl, _, Try.func142, c351⟩
  rcases List.mem_cons.1 hr with rfl | hr
  · exact ⟨by kernel_rfl, _, Try.func143, c352⟩
  rcases List.mem_cons.1 hr with rfl | hr
  · exact ⟨by kernel_rfl, _, Try.func144, c353⟩
  rcases List.mem_cons.1 hr with rfl | hr
  · exact ⟨by kernel_rfl, _, Try.func145, c354⟩
  rcases List.mem_cons.1 hr with rfl | hr
  · exact ⟨by kernel_rfl, _, Try.func146, c355⟩
  rcases List.mem_cons.1 hr with rfl | hr
  · exact ⟨by kernel_rfl, _, Try.func147, c356⟩
  rcases List.mem_cons.1 hr with rfl | hr
  · exact ⟨by kernel_rfl, _, Try.func149, c357⟩
  rcases List.mem_cons.1 hr with rfl | hr
  · exact ⟨by kernel_rfl, _, Try.func150, c358⟩
  rcases List.mem_cons.1 hr with rfl | hr
  · exact ⟨by kernel_rfl, _, Try.func157, c359⟩
  rcases List.mem_cons.1 hr with rfl | hr
  · exact ⟨by kernel_rfl, _, Try.func181, c360⟩
  rcases List.mem_cons.1 hr with rfl | hr
  · exact ⟨by kernel_rfl, _, Try.func182, c361⟩
  rcases List.mem_cons.1 hr with rfl | hr
  · exact ⟨by kernel_rfl, _, Try.func198, c362⟩
  rcases List.mem_cons.1 hr with rfl | hr
  · exact ⟨by kernel_rfl, _, Try.func199, c363⟩
  rcases List.mem_cons.1 hr with rfl | hr
  · exact ⟨by kernel_rfl, _, Try.func200, c364⟩
  rcases List.mem_cons.1 hr with rfl | hr
  · exact ⟨by kernel_rfl, _, Try.func201, c365⟩
  rcases List.mem_cons.1 hr with rfl | hr
  · exact ⟨by kernel_rfl, _, Try.func202, c366⟩
  rcases List.mem_cons.1 hr with rfl | hr
  · exact ⟨by kernel_rfl, _, Try.func203, c367⟩
  rcases List.mem_cons.1 hr with rfl | hr
  · exact ⟨by kernel_rfl, _, Try.func204, c368⟩
  rcases List.mem_cons.1 hr with rfl | hr
  · exact ⟨by kernel_rfl, _, Try.func46, c369⟩
  rcases List.mem_cons.1 hr with rfl | hr
  · exact ⟨by kernel_rfl, _, Try.func50, c370⟩
  rcases List.mem_cons.1 hr with rfl | hr
  · exact ⟨by kernel_rfl, _, Try.func51, c371⟩
  rcases List.mem_cons.1 hr with rfl | hr
  · exact ⟨by kernel_rfl, _, Try.func52, c372⟩
  rcases List.mem_cons.1 hr with rfl | hr
  · exact ⟨by kernel_rfl, _, Try.func148, c378⟩
  rcases List.mem_cons.1 hr with rfl | hr
  · exact ⟨by kernel_rfl, _, Try.func97, c419⟩
  rcases List.mem_cons.1 hr with rfl | hr
  · exact ⟨by kernel_rfl, _, Try.func115, c420⟩
  rcases List.mem_cons.1 hr with rfl | hr
  · exact ⟨by kernel_rfl, _, Try.func116, c421⟩
  rcases List.mem_cons.1 hr with rfl | hr
  · exact ⟨by kernel_rfl, _, Try.func151, c424⟩
  rcases List.mem_cons.1 hr with rfl | hr
  · exact ⟨by kernel_rfl, _, Try.func152, c425⟩
  rcases List.mem_cons.1 hr with rfl | hr
  · exact ⟨by kernel_rfl, _, Try.func153, c426⟩
  rcases List.mem_cons.1 hr with rfl | hr
  · exact ⟨by kernel_rfl, _, Try.func154, c427⟩
  rcases List.mem_cons.1 hr with rfl | hr
  · exact ⟨by kernel_rfl, _, Try.func155, c428⟩
  rcases List.mem_cons.1 hr with rfl | hr
  · exact ⟨by kernel_rfl, _, Try.func156, c429⟩
  rcases List.mem_cons.1 hr with rfl | hr
  · exact ⟨by kernel_rfl, _, Try.func158, c430⟩
  rcases List.mem_cons.1 hr with rfl | hr
  · exact ⟨by kernel_rfl, _, Try.func159, c431⟩
  rcases List.mem_cons.1 hr with rfl | hr
  · exact ⟨by kernel_rfl, _, Try.func160, c432⟩
  rcases List.mem_cons.1 hr with rfl | hr
  · exact ⟨by kernel_rfl, _, Try.func161, c433⟩
  rcases List.mem_cons.1 hr with rfl | hr
  · exact ⟨by kernel_rfl, _, Try.func183, c442⟩
  rcases List.mem_cons.1 hr with rfl | hr
  · exact ⟨by kernel_rfl, _, Try.func184, c443⟩
  rcases List.mem_cons.1 hr with rfl | hr
  · exact ⟨by kernel_rfl, _, Try.func185, c444⟩
  rcases List.mem_cons.1 hr with rfl | hr
  · exact ⟨by kernel_rfl, _, Try.func186, c445⟩
  rcases List.mem_cons.1 hr with rfl | hr
  · exact ⟨by kernel_rfl, _, Try.func187, c446⟩
  rcases List.mem_cons.1 hr with rfl | hr
  · exact ⟨by kernel_rfl, _, Try.func205, c450⟩
  cases hr
theorem table : Table Try.prog num funs := by
  intro f A h
  unfold funs at h
  cases hf : tab.find? (fun r => r.1 == f) with
  | none => rw [hf] at h; cases h
  | some r =>
    rw [hf] at h; cases h
    have h1 := List.find?_some hf
    simp only [beq_iff_eq] at h1
    subst h1
    obtain ⟨h2, h3⟩ := good r (List.mem_of_find?_eq_some hf)
    rw [h2]; exact h3
end Go.Proofs.Ytkbggcmlmlnepaa
end
section
namespace Go.Ab
def CLe (c d : CS) : Prop := ∀ f asx g r, c f asx g = some r → d f asx g = some r
theorem opE_mono {c d : CS} (h : CLe c d) {al : Nat → Bool} {lo id : Nat} {op : AOp} {e : Env} {g : G} {r : AV × G} (hr : opE c al lo id op e g = some r) : opE d al lo id op e g = some r := by
  cases op with
  | call m f args =>
    simp only [opE, vCall] at hr ⊢
    split at hr
    · cases m with
      | raw => exact h _ _ _ _ hr
      | pure =>
        simp only at hr ⊢
        split at hr
        · cases hr
        · split at hr
          · cases hr
          · rename_i hc
            rw [h _ _ _ _ hc]
            exact hr
      | lock =>
        simp only at hr ⊢
        split at hr
        · cases hr
        · split at hr
          · cases hr
          · rename_i hc
            rw [h _ _ _ _ hc]
            exact hr
      | thaw =>
        simp only at hr ⊢
        split at hr
        · cases hr
        · split at hr
          · rename_i hc
            rw [h _ _ _ _ hc]
            exact hr
          · cases hr
      | melt =>
        simp only at hr ⊢
        split at hr
        · cases hr
        · split at hr
          · rename_i hc
            rw [h _ _ _ _ hc]
            exact hr
          · cases hr
    · cases hr
  | _ => exact hr
theorem regE_mono {c d : CS} (h : CLe c d) {draw : Bool} {base : Nat} : ∀ {os : List AOper} {j : Nat} {e : Env} {g : G} {r}, regE c draw base j os e g = some r → regE d draw base j os e g = some r
  | [], _, _, _, _, hr => hr
  | o :: os, j, e, g, r, hr => by
    simp only [regE] at hr ⊢
    split
    · rename_i hw
      simp only [hw, if_true] at hr
      split at hr
      · rename_i ho
        rw [opE_mono h ho]
        exact regE_mono h hr
      · cases hr
    · rename_i hw
      simp only [hw, Bool.false_eq_true, if_false] at hr
      exact regE_mono h hr
theorem iter_mono {f f' : Env → G → Option (Out × Env × G)} (h : ∀ e g r, f e g = some r → f' e g = some r) : ∀ {k k' : Nat} {e g r}, k ≤ k' → iter f k e g = some r → iter f' k' e g = some r
  | 0, _, _, _, _, _, hr => by simp [iter] at hr
  | k + 1, k', e, g, r, hk, hr => by
    obtain ⟨k', rfl⟩ : ∃ j, k' = j + 1 := ⟨k' - 1, by omega⟩
    simp only [iter] at hr ⊢
    split at hr
    · rename_i hf
      rw [h _ _ _ hf]
      exact iter_mono h (by omega) hr
    · rename_i hn
      cases hf : f e g with
      | none => rw [hf] at hr; cases hr
      | some q =>
        rw [hf] at hr
        obtain rfl : q = r := Option.some.inj hr
        obtain ⟨o, e', g'⟩ := q
        cases o with
        | nrm => exact absurd hf (hn _ _)
        | ext n => rw [h _ _ _ hf]
        | ret => rw [h _ _ _ hf]
theorem codeE_mono {c d : CS} (h : CLe c d) {k k' : Nat} (hk : k ≤ k') : ∀ {x : ACode} {e : Env} {g : G} {r}, codeE c k x e g = some r → codeE d k' x e g = some r := by
  intro x
  induction x with
  | skip => intro e g r hr; exact hr
  | reg draw ops =>
    intro e g r hr
    simp only [codeE] at hr ⊢
    split at hr
    · rename_i ho
      rw [regE_mono h ho]
      exact hr
    · cases hr
  | seq a b iha ihb =>
    intro e g r hr
    simp only [codeE] at hr ⊢
    split at hr
    · rename_i ho
      rw [iha ho]
      exact ihb hr
    · rename_i hn
      cases hf : codeE c k a e g with
      | none => rw [hf] at hr; cases hr
      | some q =>
        rw [hf] at hr
        obtain rfl : q = r := Option.some.inj hr
        obtain ⟨o, e', g'⟩ := q
        cases o with
        | nrm => exact absurd hf (hn _ _)
        | ext n => rw [iha hf]
        | ret => rw [iha hf]
  | cond cc t f iht ihf =>
    intro e g r hr
    simp only [codeE] at hr ⊢
    split at hr
    · split
      · rename_i hx
        simp only [hx, if_true] at hr
        exact iht hr
      · rename_i hx
        simp only [hx, Bool.false_eq_true, if_false] at hr
        exact ihf hr
    · cases hr
  | lck t cc ih =>
    intro e g r hr
    simp only [codeE] at hr ⊢
    exact ih hr
  | lckS t cc ih =>
    intro e g r hr
    simp only [codeE] at hr ⊢
    exact ih hr
  | imm t cc ih =>
    intro e g r hr
    simp only [codeE] at hr ⊢
    cases hf : frz g.hp depth (e t) with
    | none => rw [hf] at hr; cases hr
    | some v => rw [hf] at hr; exact ih hr
  | tmp cc ih =>
    intro e g r hr
    simp only [codeE] at hr ⊢
    cases hf : codeE c k cc e ⟨lock g.hp (List.range g.nx), g.nx⟩ with
    | none => rw [hf] at hr; cases hr
    | some q => rw [hf] at hr; rw [ih hf]; exact hr
  | scp cc ih =>
    intro e g r hr
    simp only [codeE] at hr ⊢
    exact ih hr
  | lab =>
    intro e g r hr
    simp only [codeE] at hr ⊢
    exact hr
  | blk id cc ih =>
    intro e g r hr
    simp only [codeE] at hr ⊢
    split at hr
    · rename_i hf
      rw [ih hf]
      exact hr
    · rename_i hn
      cases hf : codeE c k cc e g with
      | none => rw [hf] at hr; cases hr
      | some q =>
        rw [hf] at hr
        obtain rfl : q = r := Option.some.inj hr
        obtain ⟨o, e', g'⟩ := q
        cases o with
        | nrm => rw [ih hf]
        | ext n => exact absurd hf (hn _ _ _)
        | ret => rw [ih hf]
  | loop cc ih =>
    intro e g r hr
    simp only [codeE] at hr ⊢
    exact iter_mono (fun _ _ _ => ih) hk hr
  | ext id => intro e g r hr; exact hr
  | ret => intro e g r hr; exact hr
theorem callE_mono (F : Funs) : ∀ {k k' : Nat}, k ≤ k' → CLe (callE F k) (callE F k')
  | 0, _, _, _, _, _, _, hr => by simp [callE] at hr
  | k + 1, k', hk, f, asx, g, r, hr => by
    obtain ⟨k', rfl⟩ : ∃ j, k' = j + 1 := ⟨k' - 1, by omega⟩
    simp only [callE] at hr ⊢
    split at hr
    · cases hr
    · rename_i fn hF
      have hm := fun {x} => codeE_mono (callE_mono F (show k ≤ k' by omega)) (show k ≤ k' by omega) (x := fn.body) (e := argEnv asx) (g := g) (r := x)
      split at hr
      · rename_i hc
        rw [hm hc]
        exact hr
      · rename_i hc
        rw [hm hc]
        exact hr
      · cases hr
open Classical in
noncomputable def lim {α : Type} (f : Nat → Option α) : Option α :=
  if h : ∃ r k, f k = some r then some (Classical.choose h) else none
theorem lim_some {α : Type} {f : Nat → Option α} (hm : ∀ k k' r, k ≤ k' → f k = some r → f k' = some r) {r : α} : lim f = some r ↔ ∃ k, f k = some r := by
  unfold lim
  constructor
  · intro h
    split at h
    · rename_i hx
      have := Classical.choose_spec hx
      rwa [Option.some.inj h] at this
    · cases h
  · rintro ⟨k, hk⟩
    rw [dif_pos ⟨r, k, hk⟩]
    obtain ⟨k', hk'⟩ := Classical.choose_spec (⟨r, k, hk⟩ : ∃ r k, f k = some r)
    have h1 := hm k (max k k') _ (by omega) hk
    have h2 := hm k' (max k k') _ (by omega) hk'
    rw [h1] at h2
    exact congrArg some (Option.some.inj h2).symm
theorem lim_ext {α : Type} {a b : Option α} (h : ∀ r, a = some r ↔ b = some r) : a = b := by
  cases a with
  | none =>
    cases b with
    | none => rfl
    | some r => exact (((h r).2 rfl).symm ▸ rfl : none = some r)
  | some r => exact ((h r).1 rfl).symm
variable (F : Funs)
noncomputable def callS : CS := fun f asx g => lim fun k => callE F k f asx g
noncomputable def codeS (x : ACode) (e : Env) (g : G) : Option (Out × Env × G) := lim fun k => codeE (callE F k) k x e g
theorem callS_some {f asx g r} : callS F f asx g = some r ↔ ∃ k, callE F k f asx g = some r :=
  lim_some fun _ _ _ hk h => callE_mono F hk _ _ _ _ h
theorem codeS_some {x e g r} : codeS F x e g = some r ↔ ∃ k, codeE (callE F k) k x e g = some r :=
  lim_some fun _ _ _ hk h => codeE_mono (callE_mono F hk) hk h
theorem callE_le (k : Nat) : CLe (callE F k) (callS F) := fun _ _ _ _ h => (callS_some F).2 ⟨k, h⟩
theorem opE_lim {al lo id op e g r} : opE (callS F) al lo id op e g = some r ↔ ∃ k, opE (callE F k) al lo id op e g = some r := by
  refine ⟨fun h => ?_, fun ⟨k, h⟩ => opE_mono (callE_le F k) h⟩
  cases op with
  | call m f args =>
    simp only [opE, vCall] at h ⊢
    split at h
    · cases m with
      | raw => exact (callS_some F).1 h
      | pure =>
        simp only at h ⊢
        split at h
        · cases h
        · split at h
          · cases h
          · rename_i hc
            obtain ⟨k, hk⟩ := (callS_some F).1 hc
            exact ⟨k, by rw [hk]; exact h⟩
      | lock =>
        simp only at h ⊢
        split at h
        · cases h
        · split at h
          · cases h
          · rename_i hc
            obtain ⟨k, hk⟩ := (callS_some F).1 hc
            exact ⟨k, by rw [hk]; exact h⟩
      | thaw =>
        simp only at h ⊢
        split at h
        · cases h
        · split at h
          · rename_i hc
            obtain ⟨k, hk⟩ := (callS_some F).1 hc
            exact ⟨k, by rw [hk]; exact h⟩
          · cases h
      | melt =>
        simp only at h ⊢
        split at h
        · cases h
        · split at h
          · rename_i hc
            obtain ⟨k, hk⟩ := (callS_some F).1 hc
            exact ⟨k, by rw [hk]; exact h⟩
          · cases h
    · cases h
  | _ => exact ⟨0, h⟩
theorem regE_lim {draw base} : ∀ {os : List AOper} {j e g r}, regE (callS F) draw base j os e g = some r ↔ ∃ k, regE (callE F k) draw base j os e g = some r
  | [], _, _, _, _ => ⟨fun h => ⟨0, h⟩, fun ⟨_, h⟩ => h⟩
  | o :: os, j, e, g, r => by
    refine ⟨fun h => ?_, fun ⟨k, h⟩ => regE_mono (callE_le F k) h⟩
    simp only [regE] at h
    split at h
    · rename_i hw
      split at h
      · rename_i ho
        obtain ⟨k1, h1⟩ := (opE_lim F).1 ho
        obtain ⟨k2, h2⟩ := (regE_lim).1 h
        refine ⟨max k1 k2, ?_⟩
        simp only [regE]
        rw [if_pos hw, opE_mono (callE_mono F (Nat.le_max_left k1 k2)) h1]
        exact regE_mono (callE_mono F (Nat.le_max_right k1 k2)) h2
      · cases h
    · rename_i hw
      obtain ⟨k2, h2⟩ := (regE_lim).1 h
      refine ⟨k2, ?_⟩
      simp only [regE]
      rw [if_neg hw]
      exact h2
theorem codeS_skip (e g) : codeS F .skip e g = some (.nrm, e, g) := (codeS_some F).2 ⟨0, rfl⟩
theorem codeS_ext (id e g) : codeS F (.ext id) e g = some (.ext id, e, g) := (codeS_some F).2 ⟨0, rfl⟩
theorem codeS_ret (e g) : codeS F .ret e g = some (.ret, e, g) := (codeS_some F).2 ⟨0, rfl⟩
theorem codeS_reg (draw ops e g) : codeS F (.reg draw ops) e g = match regE (callS F) draw g.nx 0 ops e { g with nx := g.nx + ops.length } with
    | some (e, g) => some (.nrm, e, g)
    | none => none := by
  refine lim_ext fun r => ?_
  rw [codeS_some]
  constructor
  · rintro ⟨k, h⟩
    simp only [codeE] at h
    split at h
    · rename_i ho
      rw [(regE_lim F).2 ⟨k, ho⟩]
      exact h
    · cases h
  · intro h
    split at h
    · rename_i ho
      obtain ⟨k, hk⟩ := (regE_lim F).1 ho
      exact ⟨k, by simp only [codeE]; rw [hk]; exact h⟩
    · cases h
theorem codeS_seq (a b e g) : codeS F (.seq a b) e g = match codeS F a e g with
    | some (.nrm, e, g) => codeS F b e g
    | r => r := by
  refine lim_ext fun r => ?_
  rw [codeS_some]
  constructor
  · rintro ⟨k, h⟩
    simp only [codeE] at h
    split at h
    · rename_i ho
      rw [(codeS_some F).2 ⟨k, ho⟩]
      exact (codeS_some F).2 ⟨k, h⟩
    · rename_i hn
      rw [(codeS_some F).2 ⟨k, h⟩]
      obtain ⟨o, e', g'⟩ := r
      cases o with
      | nrm => exact absurd h (hn _ _)
      | ext n => rfl
      | ret => rfl
  · intro h
    split at h
    · rename_i ho
      obtain ⟨k1, h1⟩ := (codeS_some F).1 ho
      obtain ⟨k2, h2⟩ := (codeS_some F).1 h
      refine ⟨max k1 k2, ?_⟩
      simp only [codeE]
      rw [codeE_mono (callE_mono F (Nat.le_max_left k1 k2)) (Nat.le_max_left k1 k2) h1]
      exact codeE_mono (callE_mono F (Nat.le_max_right k1 k2)) (Nat.le_max_right k1 k2) h2
    · rename_i hn
      obtain ⟨k1, h1⟩ := (codeS_some F).1 h
      refine ⟨k1, ?_⟩
      simp only [codeE]
      rw [h1]
      obtain ⟨o, e', g'⟩ := r
      cases o with
      | nrm => exact absurd h (hn _ _)
      | ext n => rfl
      | ret => rfl
theorem codeS_cond (c t f e g) : codeS F (.cond c t f) e g = match c.ev e with
    | .b x => if x then codeS F t e g else codeS F f e g
    | _ => none := by
  refine lim_ext fun r => ?_
  rw [codeS_some]
  simp only [codeE]
  cases c.ev e with
  | b x =>
    cases x with
    | true => simp only [if_true]; exact (codeS_some F).symm
    | false => simp only [Bool.false_eq_true, if_false]; exact (codeS_some F).symm
  | _ => simp
theorem codeS_lck (t c e g) : codeS F (.lck t c) e g = codeS F c e ⟨lock g.hp (vis g.hp depth (e t)), g.nx⟩ := by
  refine lim_ext fun r => ?_
  rw [codeS_some]
  simp only [codeE]
  exact (codeS_some F).symm
theorem codeS_lckS (t c e g) : codeS F (.lckS t c) e g = codeS F c e ⟨lock g.hp (ids1 (e t)), g.nx⟩ := by
  refine lim_ext fun r => ?_
  rw [codeS_some]
  simp only [codeE]
  exact (codeS_some F).symm
theorem codeS_imm (t c e g) : codeS F (.imm t c) e g = match frz g.hp depth (e t) with
    | some v => codeS F c (upd e t v) ⟨lock g.hp (vis g.hp depth (e t)), g.nx⟩
    | none => none := by
  refine lim_ext fun r => ?_
  rw [codeS_some]
  simp only [codeE]
  cases frz g.hp depth (e t) with
  | none => simp
  | some v => exact (codeS_some F).symm
theorem codeS_scp (c e g) : codeS F (.scp c) e g = codeS F c e g := by
  refine lim_ext fun r => ?_
  rw [codeS_some]
  simp only [codeE]
  exact (codeS_some F).symm
theorem codeS_lab (e g) : codeS F .lab e g = some (.nrm, e, g) := by
  refine lim_ext fun r => ?_
  rw [codeS_some]
  simp only [codeE]
  exact ⟨fun ⟨_, h⟩ => h, fun h => ⟨0, h⟩⟩
theorem codeS_blk (id c e g) : codeS F (.blk id c) e g = match codeS F c e g with
    | some (.ext n, e, g) => some (if n = id then .nrm else .ext n, e, g)
    | r => r := by
  refine lim_ext fun r => ?_
  rw [codeS_some]
  constructor
  · rintro ⟨k, h⟩
    simp only [codeE] at h
    split at h
    · rename_i ho
      rw [(codeS_some F).2 ⟨k, ho⟩]
      exact h
    · rename_i hn
      rw [(codeS_some F).2 ⟨k, h⟩]
      obtain ⟨o, e', g'⟩ := r
      cases o with
      | nrm => rfl
      | ext n => exact absurd h (hn _ _ _)
      | ret => rfl
  · intro h
    split at h
    · rename_i ho
      obtain ⟨k1, h1⟩ := (codeS_some F).1 ho
      exact ⟨k1, by simp only [codeE]; rw [h1]; exact h⟩
    · rename_i hn
      obtain ⟨k1, h1⟩ := (codeS_some F).1 h
      refine ⟨k1, ?_⟩
      simp only [codeE]
      rw [h1]
      obtain ⟨o, e', g'⟩ := r
      cases o with
      | nrm => rfl
      | ext n => exact absurd h (hn _ _ _)
      | ret => rfl
theorem codeS_loop (c e g) : codeS F (.loop c) e g = match codeS F c e g with
    | some (.nrm, e, g) => codeS F (.loop c) e g
    | r => r := by
  refine lim_ext fun r => ?_
  rw [codeS_some]
  constructor
  · rintro ⟨k, h⟩
    simp only [codeE] at h
    cases k with
    | zero => simp [iter] at h
    | succ k =>
      simp only [iter] at h
      split at h
      · rename_i ho
        rw [(codeS_some F).2 ⟨k + 1, ho⟩]
        refine (codeS_some F).2 ⟨k + 1, ?_⟩
        simp only [codeE]
        exact iter_mono (fun _ _ _ h => h) (Nat.le_succ k) h
      · rename_i hn
        rw [(codeS_some F).2 ⟨k + 1, h⟩]
        obtain ⟨o, e', g'⟩ := r
        cases o with
        | nrm => exact absurd h (hn _ _)
        | ext n => rfl
        | ret => rfl
  · intro h
    split at h
    · rename_i ho
      obtain ⟨k1, h1⟩ := (codeS_some F).1 ho
      obtain ⟨k2, h2⟩ := (codeS_some F).1 h
      simp only [codeE] at h2
      refine ⟨max k1 k2 + 1, ?_⟩
      simp only [codeE, iter]
      rw [codeE_mono (callE_mono F (by omega : k1 ≤ max k1 k2 + 1)) (by omega : k1 ≤ max k1 k2 + 1) h1]
      exact iter_mono (fun _ _ _ h => codeE_mono (callE_mono F (by omega : k2 ≤ max k1 k2 + 1)) (by omega : k2 ≤ max k1 k2 + 1) h) (by omega) h2
    · rename_i hn
      obtain ⟨k1, h1⟩ := (codeS_some F).1 h
      refine ⟨k1 + 1, ?_⟩
      simp only [codeE, iter]
      rw [codeE_mono (callE_mono F (by omega : k1 ≤ k1 + 1)) (by omega : k1 ≤ k1 + 1) h1]
      obtain ⟨o, e', g'⟩ := r
      cases o with
      | nrm => exact absurd h (hn _ _)
      | ext n => rfl
      | ret => rfl
theorem callS_eq (f asx g) : callS F f asx g = match F f with
    | none => none
    | some fn => match codeS F fn.body (argEnv asx) g with
      | some (.nrm, e, g) | some (.ret, e, g) => (resE fn.res e g).map (·, g)
      | _ => none := by
  refine lim_ext fun r => ?_
  rw [callS_some]
  constructor
  · rintro ⟨k, h⟩
    cases k with
    | zero => simp [callE] at h
    | succ k =>
      simp only [callE] at h
      split at h
      · cases h
      · rename_i fn hF
        rw [hF]
        simp only
        split at h
        · rename_i hc
          rw [(codeS_some F).2 ⟨k, hc⟩]
          exact h
        · rename_i hc
          rw [(codeS_some F).2 ⟨k, hc⟩]
          exact h
        · cases h
  · intro h
    split at h
    · cases h
    · rename_i fn hF
      split at h
      · rename_i hc
        obtain ⟨k, hk⟩ := (codeS_some F).1 hc
        exact ⟨k + 1, by simp only [callE, hF]; rw [hk]; exact h⟩
      · rename_i hc
        obtain ⟨k, hk⟩ := (codeS_some F).1 hc
        exact ⟨k + 1, by simp only [callE, hF]; rw [hk]; exact h⟩
      · cases h
end Go.Ab
end
section
namespace Go.Ab
theorem upd_same {α : Type} (e : Nat → α) (d : Nat) (v : α) : upd e d v d = v := if_pos rfl
theorem upd_ne {α : Type} (e : Nat → α) {d k : Nat} (v : α) (h : k ≠ d) : upd e d v k = e k := if_neg h
theorem put_some (e : Env) (d : Nat) (v : AV) : put e (some d) v = upd e d v := rfl
theorem put_none (e : Env) (v : AV) : put e none v = e := rfl
theorem allow_no (base : Nat) (pre : List Nat) (id : Nat) : allow false base pre id = true := rfl
theorem allow_lt {base id : Nat} (pre : List Nat) (h : id < base) : allow true base pre id = true := by simp [allow, h]
section
variable (c : CS) (d : Bool) (b j : Nat) (dst : Option Nat) (os : List AOper) (e : Env)
def bindR (r : Option (AV × G)) : Option (Env × G) :=
  match r with
  | some (v, g) => regE c d b j os (put e dst v) g
  | none => none
def selR (w : Bool) (op : AOp) (pre : List Nat) (g : G) : Option (Env × G) :=
  if w then bindR c d b (j + 1) dst os e (opE c (allow d b pre) b (b + j) op e g) else regE c d b (j + 1) os (put e dst .undef) g
theorem selR_true (op pre g) : selR c d b j dst os e true op pre g = bindR c d b (j + 1) dst os e (opE c (allow d b pre) b (b + j) op e g) := rfl
theorem regE_nil (g : G) : regE c d b j [] e g = some (e, g) := rfl
theorem regE_cons (op : AOp) (grd : Option (Nat × Bool)) (pre : List Nat) (g : G) :
    regE c d b j ({ dst, op, grd, pre } :: os) e g = selR c d b j dst os e (wanted e grd) op pre g := by
  simp only [regE, selR, bindR]
  rfl
end
section
variable (F : Funs)
noncomputable def thenS (x : ACode) (r : Option (Out × Env × G)) : Option (Out × Env × G) :=
  match r with
  | some (.nrm, e, g) => codeS F x e g
  | r => r
noncomputable def selS (t f : ACode) (e : Env) (g : G) (v : AV) : Option (Out × Env × G) :=
  match v with
  | .b c => if c then codeS F t e g else codeS F f e g
  | _ => none
def normS (r : Option (Env × G)) : Option (Out × Env × G) :=
  match r with
  | some (e, g) => some (.nrm, e, g)
  | none => none
def blkS (id : Nat) (r : Option (Out × Env × G)) : Option (Out × Env × G) :=
  match r with
  | some (.ext n, e, g) => some (if n = id then .nrm else .ext n, e, g)
  | r => r
theorem cS_reg (draw ops e g) : codeS F (.reg draw ops) e g = normS (regE (callS F) draw g.nx 0 ops e ⟨g.hp, g.nx + ops.length⟩) := codeS_reg F draw ops e g
theorem cS_seq (a b e g) : codeS F (.seq a b) e g = thenS F b (codeS F a e g) := codeS_seq F a b e g
theorem cS_cond (c t f e g) : codeS F (.cond c t f) e g = selS F t f e g (c.ev e) := codeS_cond F c t f e g
theorem cS_blk (id c e g) : codeS F (.blk id c) e g = blkS id (codeS F c e g) := codeS_blk F id c e g
end
def wantV (v : AV) (w : Bool) : Bool := match v with | .b x => x == w | _ => false
theorem wanted_none (e : Env) : wanted e none = true := rfl
theorem wanted_some (e : Env) (t : Nat) (w : Bool) : wanted e (some (t, w)) = wantV (e t) w := rfl
theorem wantV_1 (x : Bool) : wantV (.b x) true = x := by cases x <;> rfl
theorem wantV_0 (x : Bool) : wantV (.b x) false = !x := by cases x <;> rfl
theorem wantV_undef (w : Bool) : wantV .undef w = false := rfl
section
variable {c : CS} {al : Nat → Bool} {lo id : Nat} {e : Env} {g : G}
theorem ev_t (n : Nat) : Opd.ev e (.t n) = e n := rfl
theorem ev_c (v : AV) : Opd.ev e (.c v) = v := rfl
theorem o_mv (x : Opd) : opE c al lo id (.mv x) e g = some (x.ev e, g) := rfl
theorem o_pick (x y z : Opd) : opE c al lo id (.pick x y z) e g = vPick (x.ev e) (y.ev e) (z.ev e) g := rfl
theorem vPick_t (a b : AV) (g : G) : vPick (.b true) a b g = some (a, g) := rfl
theorem vPick_f (a b : AV) (g : G) : vPick (.b false) a b g = some (b, g) := rfl
theorem o_new (z : List AV) : opE c al lo id (.new z) e g = some (.mp id 0, ⟨upd g.hp id (some (.cells z false)), g.nx⟩) := rfl
theorem o_box (x : Opd) : opE c al lo id (.box x) e g = vBox id (x.ev e) g := rfl
theorem vMap_some (v : AV) : vMap g (some v) = some (v, g) := rfl
theorem vMapL_some (f) (v : List AV) : vMapL f g (some v) = some (f v, g) := rfl
theorem o_build (z : List AV) (ps) : opE c al lo id (.build z ps) e g = vMapL .agg g (fill e z ps) := rfl
theorem o_ld (agg) (x : Opd) : opE c al lo id (.ld agg x) e g = vLd al agg (x.ev e) g := rfl
theorem vLd_ptr (agg cs) : vLd al agg (.ptr cs) g = vMap g (part cs 0 agg) := rfl
theorem o_st (n) (a x : Opd) : opE c al lo id (.st n a x) e g = vSt al n (a.ev e) (x.ev e) g := rfl
theorem o_nilck (x : Opd) : opE c al lo id (.nilck x) e g = vNil (x.ev e) g := rfl
theorem vNil_ptr (cs) : vNil (.ptr cs) g = some (.ptr cs, g) := rfl
theorem vNil_mp (b o) : vNil (.mp b o) g = some (.mp b o, g) := rfl
theorem vNil_fn (f a b) : vNil (.fn f a b) g = some (.fn f a b, g) := rfl
theorem o_bin (op) (x y : Opd) : opE c al lo id (.bin op x y) e g = vMap g (abin op (x.ev e) (y.ev e)) := rfl
theorem o_un (op) (x : Opd) : opE c al lo id (.un op x) e g = vMap g (aun op (x.ev e)) := rfl
theorem o_mkfn (f a b) : opE c al lo id (.mkfn f a b) e g = some (.fn f (a.map (·.ev e)) (b.map (·.ev e)), g) := rfl
theorem o_fa (off) (x : Opd) : opE c al lo id (.fa off x) e g = vFa off (x.ev e) g := rfl
theorem vFa_mp (off b o) : vFa off (.mp b o) g = some (.mp b (o + off), g) := rfl
theorem o_fld (off agg) (x : Opd) : opE c al lo id (.fld off agg x) e g = vFld off agg (x.ev e) g := rfl
theorem vFld_agg (off agg cs) : vFld off agg (.agg cs) g = vMap g (part cs off agg) := rfl
theorem o_ia (esz) (x i : Opd) : opE c al lo id (.ia esz x i) e g = vIa esz (x.ev e) (i.ev e) g := rfl
theorem vIa_sl {esz cs t k} {n : Nat} {z : Int} (h0 : 0 ≤ z) (h : z < n) : vIa esz (.sl cs n t) (.i k z) g = some (.ptr (cs.drop (z.toNat * esz)), g) := if_pos ⟨h0, h⟩
theorem vIa_ms {esz b off k} {n : Nat} {z : Int} (h0 : 0 ≤ z) (h : z < n) : vIa esz (.ms b off n) (.i k z) g = some (.mp b (off + z.toNat * esz), g) := if_pos ⟨h0, h⟩
theorem o_iaa (len esz) (x i : Opd) : opE c al lo id (.iaa len esz x i) e g = vIaa len esz (x.ev e) (i.ev e) g := rfl
theorem vIaa_ptr {esz cs k} {len : Nat} {z : Int} (h0 : 0 ≤ z) (h : z < len) : vIaa len esz (.ptr cs) (.i k z) g = some (.ptr (cs.drop (z.toNat * esz)), g) := if_pos ⟨h0, h⟩
theorem vIaa_mp {esz b off k} {len : Nat} {z : Int} (h0 : 0 ≤ z) (h : z < len) : vIaa len esz (.mp b off) (.i k z) g = some (.mp b (off + z.toNat * esz), g) := if_pos ⟨h0, h⟩
theorem o_len (x : Opd) : opE c al lo id (.len x) e g = vLen (x.ev e) g := rfl
theorem vLen_sl (cs n t) : vLen (.sl cs n t) g = some (.i .i64 n, g) := rfl
theorem vLen_ms (b o n) : vLen (.ms b o n) g = some (.i .i64 n, g) := rfl
theorem o_mx (x y : Opd) : opE c al lo id (.mx x y) e g = vMx (x.ev e) (y.ev e) g := rfl
theorem o_mn (x y : Opd) : opE c al lo id (.mn x y) e g = vMn (x.ev e) (y.ev e) g := rfl
theorem vMx_i (k l a b) : vMx (.i k a) (.i l b) g = some (.i k (if b > a then b else a), g) := rfl
theorem vMn_i (k l a b) : vMn (.i k a) (.i l b) g = some (.i k (if b < a then b else a), g) := rfl
theorem o_ext (i) (x : Opd) : opE c al lo id (.ext i x) e g = vExt i (x.ev e) g := rfl
theorem vExt_tup (i cs) : vExt i (.tup cs) g = vMap g (cs[i]?) := rfl
theorem b_add (k x y) : abin .add (.i k x) (.i k y) = some (.i k (k.wrap (x + y))) := by simp [abin, ibin]
theorem b_sub (k x y) : abin .sub (.i k x) (.i k y) = some (.i k (k.wrap (x - y))) := by simp [abin, ibin]
theorem b_mul (k x y) : abin .mul (.i k x) (.i k y) = some (.i k (k.wrap (x * y))) := by simp [abin, ibin]
theorem b_rem {k x y} (h : y ≠ 0) : abin .rem (.i k x) (.i k y) = some (.i k (x.tmod y)) := by simp [abin, ibin, h]
theorem b_lss (k x y) : abin .lss (.i k x) (.i k y) = some (.b (decide (x < y))) := by simp [abin, ibin]
theorem b_leq (k x y) : abin .leq (.i k x) (.i k y) = some (.b (decide (x ≤ y))) := by simp [abin, ibin]
theorem b_gtr (k x y) : abin .gtr (.i k x) (.i k y) = some (.b (decide (x > y))) := by simp [abin, ibin]
theorem b_geq (k x y) : abin .geq (.i k x) (.i k y) = some (.b (decide (x ≥ y))) := by simp [abin, ibin]
theorem b_eql (k x y) : abin .eql (.i k x) (.i k y) = some (.b (x == y)) := by simp [abin, ibin]
theorem b_neq (k x y) : abin .neq (.i k x) (.i k y) = some (.b (x != y)) := by simp [abin, ibin]
end
def selB (x : Bool) (o : Option Blk) : Option Blk := if x then o else none
theorem selB_true (o) : selB true o = o := rfl
theorem rd_S (g : G) (al : Nat → Bool) (id : Nat) : rd g al id = selB (al id) (g.hp id) := rfl
section
variable {al : Nat → Bool} {g : G}
def ldS (agg : Option Nat) (off : Nat) (g : G) : Option Blk → Option (AV × G)
  | some (.cells cs _) => vMap g (part cs off agg)
  | _ => none
theorem ldS_ok (agg off g cs ro) : ldS agg off g (some (.cells cs ro)) = vMap g (part cs off agg) := rfl
theorem vLd_S (agg b off) : vLd al agg (.mp b off) g = ldS agg off g (selB (al b) (g.hp b)) := rfl
def stD (n b off len m : Nat) (ones : Bool) (cs vs : List AV) (g : G) : Option (AV × G) :=
  if len = n ∧ off + n ≤ m ∧ ones = true then some (.undef, ⟨upd g.hp b (some (.cells (splice cs off vs) false)), g.nx⟩) else none
theorem stD_ok {n b off len m : Nat} {cs vs g} (h : len = n ∧ off + n ≤ m) : stD n b off len m true cs vs g = some (.undef, ⟨upd g.hp b (some (.cells (splice cs off vs) false)), g.nx⟩) := if_pos ⟨h.1, h.2, rfl⟩
def stS (n b off : Nat) (vs : List AV) (g : G) : Option Blk → Option (AV × G)
  | some (.cells cs false) => stD n b off vs.length cs.length (vs.all one) cs vs g
  | _ => none
theorem stS_ok (n b off vs g cs) : stS n b off vs g (some (.cells cs false)) = stD n b off vs.length cs.length (vs.all one) cs vs g := rfl
theorem vSt_S (n b off x) : vSt al n (.mp b off) x g = stS n b off (cellsOf x) g (selB (al b) (g.hp b)) := by
  simp only [vSt]
  rw [rd_S]
  cases selB (al b) (g.hp b) with
  | none => rfl
  | some bl =>
    cases bl with
    | cells cs ro => cases ro <;> rfl
    | map es => rfl
    | tok l => rfl
def boxD (id : Nat) (cs : List AV) (g : G) (x : Bool) : Option (AV × G) := if x then some (.mp id 0, ⟨upd g.hp id (some (.cells cs false)), g.nx⟩) else none
theorem boxD_ok (id cs g) : boxD id cs g true = some (.mp id 0, ⟨upd g.hp id (some (.cells cs false)), g.nx⟩) := rfl
theorem vBox_S (id v) : vBox id v g = boxD id (cellsOf v) g ((cellsOf v).all one) := rfl
def faD (off len : Nat) (cs : List AV) (g : G) : Option (AV × G) := if off < len then some (.ptr (cs.drop off), g) else none
theorem faD_ok {off len : Nat} {cs g} (h : off < len) : faD off len cs g = some (.ptr (cs.drop off), g) := if_pos h
theorem vFa_S (off cs) : vFa off (.ptr cs) g = faD off cs.length cs g := rfl
def fillD (e : Env) (cs : List AV) (off n len m : Nat) (ones : Bool) (vs : List AV) (ps : List (Nat × Nat × Opd)) : Option (List AV) :=
  if len = n ∧ off + n ≤ m ∧ ones = true then fill e (splice cs off vs) ps else none
theorem fillD_ok {e cs off n len m vs ps} (h : len = n ∧ off + n ≤ m) : fillD e cs off n len m true vs ps = fill e (splice cs off vs) ps := if_pos ⟨h.1, h.2, rfl⟩
theorem fill_S (e : Env) (cs : List AV) (off n x ps) : fill e cs ((off, n, x) :: ps) = fillD e cs off n (cellsOf (x.ev e)).length cs.length ((cellsOf (x.ev e)).all one) (cellsOf (x.ev e)) ps := by
  simp only [fill, fillD]
theorem fill_nil (e cs) : fill e cs [] = some cs := rfl
theorem cellsOf_agg (cs) : cellsOf (.agg cs) = cs := rfl
theorem cellsOf_i (k n) : cellsOf (.i k n) = [.i k n] := rfl
theorem cellsOf_b (x) : cellsOf (.b x) = [.b x] := rfl
theorem cellsOf_s (x) : cellsOf (.s x) = [.s x] := rfl
theorem cellsOf_ptr (x) : cellsOf (.ptr x) = [.ptr x] := rfl
theorem cellsOf_nilp : cellsOf .nilp = [.nilp] := rfl
theorem cellsOf_sl (a b c) : cellsOf (.sl a b c) = [.sl a b c] := rfl
theorem cellsOf_mp (a b) : cellsOf (.mp a b) = [.mp a b] := rfl
theorem cellsOf_fn (a b c) : cellsOf (.fn a b c) = [.fn a b c] := rfl
theorem one_i (k n) : one (.i k n) = true := rfl
theorem one_b (x) : one (.b x) = true := rfl
theorem one_s (x) : one (.s x) = true := rfl
theorem one_ptr (x) : one (.ptr x) = true := rfl
theorem one_nilp : one .nilp = true := rfl
theorem one_sl (a b c) : one (.sl a b c) = true := rfl
theorem one_mp (a b) : one (.mp a b) = true := rfl
theorem one_fn (a b c) : one (.fn a b c) = true := rfl
theorem splice_1 (cs off v) : splice cs off [v] = cs.set off v := rfl
theorem splice_2 (a b x y) : splice [a, b] 0 [x, y] = [x, y] := rfl
theorem splice_3 (a b c x y z) : splice [a, b, c] 0 [x, y, z] = [x, y, z] := rfl
theorem part_0 (c cs) : part (c :: cs) 0 none = some c := rfl
theorem part_1 (c d cs) : part (c :: d :: cs) 1 none = some d := rfl
theorem part_2 (a c d cs) : part (a :: c :: d :: cs) 2 none = some d := rfl
def andLe (lo : Nat) (al : Nat → Bool) (i : Nat) : Bool := decide (lo ≤ i) && al i
theorem o_stL {c : CS} {al : Nat → Bool} {lo id : Nat} {e : Env} {g : G} (n a x) : opE c al lo id (.stL n a x) e g = vSt (andLe lo al) n (a.ev e) (x.ev e) g := rfl
theorem andLe_ok {lo : Nat} {al : Nat → Bool} {i : Nat} (h : lo ≤ i) : andLe lo al i = al i := by simp [andLe, h]
theorem allow_hd {base k id : Nat} (l : List Nat) (h : id = base + k) : allow true base (k :: l) id = true := by subst h; simp [allow]
theorem allow_h2 {base k k' id : Nat} (l : List Nat) (h : id = base + k) : allow true base (k' :: k :: l) id = true := by subst h; simp [allow]
theorem part_3 (a b c d : AV) (l : List AV) : part (a :: b :: c :: d :: l) 3 none = some d := rfl
theorem part_4 (a b c d e : AV) (l : List AV) : part (a :: b :: c :: d :: e :: l) 4 none = some e := rfl
theorem part_5 (a b c d e f : AV) (l : List AV) : part (a :: b :: c :: d :: e :: f :: l) 5 none = some f := rfl
theorem cellsOf_ms (a b c) : cellsOf (.ms a b c) = [.ms a b c] := rfl
theorem one_ms (a b c) : one (.ms a b c) = true := rfl
theorem drop_0 (l : List AV) : l.drop 0 = l := rfl
theorem g0_nx : g0.nx = 0 := rfl
theorem g0_hp : g0.hp = fun _ => none := rfl
theorem o_bsl {c : CS} {al : Nat → Bool} {lo id : Nat} {e : Env} {g : G} (imm n z ps) : opE c al lo id (.bsl imm n z ps) e g = vBsl id imm n (fill e z ps) g := rfl
theorem vBsl_t (id n cs) (g : G) : vBsl id true n (some cs) g = vMapL (fun cs => .sl cs n .rig) g (frzL (fun _ => none) depth cs) := rfl
theorem vBsl_f (id n cs) (g : G) : vBsl id false n (some cs) g = some (.ms id 0 n, ⟨upd g.hp id (some (.cells cs false)), g.nx⟩) := rfl
theorem o_app {c : CS} {al : Nat → Bool} {lo id : Nat} {e : Env} {g : G} (esz by' x y) : opE c al lo id (.app esz by' x y) e g = vApp al id esz by' (x.ev e) (y.ev e) g := rfl
def appD (n m esz bytes lc ld : Nat) (r : Option (AV × G)) : Option (AV × G) := if (n + m) * bytes ≤ 2 ^ 46 ∧ n + m ≤ 2 ^ 62 ∧ lc = n * esz ∧ ld = m * esz then r else none
theorem appD_ok {n m esz bytes lc ld r} (h : (n + m) * bytes ≤ 2 ^ 46 ∧ n + m ≤ 2 ^ 62 ∧ lc = n * esz ∧ ld = m * esz) : appD n m esz bytes lc ld r = r := if_pos h
theorem vApp_rig {id esz bytes cs n ds m t2} (h : m ≠ 0) : vApp al id esz bytes (.sl cs n .rig) (.sl ds m t2) g = appD n m esz bytes cs.length ds.length (some (.sl (cs ++ ds) (n + m) (.own id esz), ⟨upd g.hp id (some (.tok true)), g.nx⟩)) := by
  simp only [vApp, vSrc, if_neg h]; rfl
theorem vApp_rig0 {id esz bytes cs n ds t2} : vApp al id esz bytes (.sl cs n .rig) (.sl ds 0 t2) g = appD n 0 esz bytes cs.length ds.length (some (.sl cs n .rig, g)) := by
  simp only [vApp, vSrc, if_true]; rfl
def appK (id esz tk n : Nat) (cs : List AV) (g : G) : Option Blk → Option (AV × G)
  | some (.tok true) => some (.sl cs n (.own id esz), ⟨upd (upd g.hp tk (some (.tok false))) id (some (.tok true)), g.nx⟩)
  | _ => none
theorem appK_ok (id esz tk n cs g) : appK id esz tk n cs g (some (.tok true)) = some (.sl cs n (.own id esz), ⟨upd (upd g.hp tk (some (.tok false))) id (some (.tok true)), g.nx⟩) := rfl
theorem vApp_own {id esz bytes cs n tk ds m t2} : vApp al id esz bytes (.sl cs n (.own tk esz)) (.sl ds m t2) g = appD n m esz bytes cs.length ds.length (appK id esz tk (n + m) (cs ++ ds) g (selB (al tk) (g.hp tk))) := by
  simp only [vApp, vSrc, rd_S]
  unfold appD appK
  split
  · cases selB (al tk) (g.hp tk) with
    | none => rfl
    | some b =>
      cases b with
      | tok x => cases x <;> simp
      | cells _ _ => rfl
      | map _ => rfl
  · rfl
theorem o_eqn {c : CS} {al : Nat → Bool} {lo id : Nat} {e : Env} {g : G} (neg x y) : opE c al lo id (.eqn neg x y) e g = vMap g (negb neg (aeqn (x.ev e) (y.ev e))) := rfl
theorem o_eqb {c : CS} {al : Nat → Bool} {lo id : Nat} {e : Env} {g : G} (neg x y) : opE c al lo id (.eqb neg x y) e g = vMap g (negb neg (aeqb (x.ev e) (y.ev e))) := rfl
theorem o_eqa {c : CS} {al : Nat → Bool} {lo id : Nat} {e : Env} {g : G} (neg ks x y) : opE c al lo id (.eqa neg ks x y) e g = vMap g (negb neg (aeqa ks (x.ev e) (y.ev e))) := rfl
theorem aeqn_pn (cs) : aeqn (.ptr cs) .nilp = some false := rfl
theorem aeqn_np (cs) : aeqn .nilp (.ptr cs) = some false := rfl
theorem aeqn_mn (a b) : aeqn (.mp a b) .nilp = some false := rfl
theorem aeqn_nn : aeqn .nilp .nilp = some true := rfl
theorem aeqb_bb (x y) : aeqb (.b x) (.b y) = some (x == y) := rfl
theorem negb_t (x) : negb true (some x) = some (.b (!x)) := rfl
theorem negb_f (x) : negb false (some x) = some (.b x) := rfl
theorem aun_not (x) : aun .not (.b x) = some (.b !x) := rfl
end
end Go.Ab
end
section
set_option linter.unusedVariables false
namespace Go.Ab
section
variable (F : Funs)
def W (c : ACode) (e : Env) (g : G) (Q : Out → Env → G → Prop) : Prop := ∃ o e' g', codeS F c e g = some (o, e', g') ∧ Q o e' g'
def WR (d : Bool) (b j : Nat) (ops : List AOper) (e : Env) (g : G) (K : Env → G → Prop) : Prop := ∃ e' g', regE (callS F) d b j ops e g = some (e', g') ∧ K e' g'
def thenQ (b : ACode) (Q : Out → Env → G → Prop) : Out → Env → G → Prop
  | .nrm, e, g => W F b e g Q
  | o, e, g => Q o e g
def selW (t f : ACode) (e : Env) (g : G) (Q : Out → Env → G → Prop) : AV → Prop
  | .b true => W F t e g Q
  | .b false => W F f e g Q
  | _ => False
def blkQ (id : Nat) (Q : Out → Env → G → Prop) : Out → Env → G → Prop
  | .ext n, e, g => if n = id then Q .nrm e g else Q (.ext n) e g
  | o, e, g => Q o e g
def nrmQ (Q : Out → Env → G → Prop) (e : Env) (g : G) : Prop := Q .nrm e g
def bindO (d : Bool) (b j : Nat) (dst : Option Nat) (os : List AOper) (e : Env) (K : Env → G → Prop) : Option (AV × G) → Prop
  | some (v, g) => WR F d b j os (put e dst v) g K
  | none => False
def selO (d : Bool) (b j : Nat) (dst : Option Nat) (os : List AOper) (e : Env) (op : AOp) (pre : List Nat) (g : G) (K : Env → G → Prop) (w : Bool) : Prop :=
  if w then bindO F d b (j + 1) dst os e K (opE (callS F) (allow d b pre) b (b + j) op e g) else WR F d b (j + 1) os (put e dst .undef) g K
end
section
variable {F : Funs}
theorem W_skip {e g Q} : W F .skip e g Q = Q .nrm e g := by
  unfold W; rw [codeS_skip]; apply propext
  exact ⟨fun ⟨o, e', g', h, q⟩ => by cases h; exact q, fun q => ⟨_, _, _, rfl, q⟩⟩
theorem W_ext {id e g Q} : W F (.ext id) e g Q = Q (.ext id) e g := by
  unfold W; rw [codeS_ext]; apply propext
  exact ⟨fun ⟨o, e', g', h, q⟩ => by cases h; exact q, fun q => ⟨_, _, _, rfl, q⟩⟩
theorem W_ret {e g Q} : W F .ret e g Q = Q .ret e g := by
  unfold W; rw [codeS_ret]; apply propext
  exact ⟨fun ⟨o, e', g', h, q⟩ => by cases h; exact q, fun q => ⟨_, _, _, rfl, q⟩⟩
theorem W_seq {a b e g Q} : W F (.seq a b) e g Q = W F a e g (thenQ F b Q) := by
  unfold W; rw [cS_seq]; apply propext
  constructor
  · intro ⟨o, e', g', h, q⟩
    cases hc : codeS F a e g with
    | none => rw [hc] at h; cases h
    | some r =>
      obtain ⟨o1, e1, g1⟩ := r
      rw [hc] at h
      refine ⟨o1, e1, g1, rfl, ?_⟩
      cases o1 with
      | nrm => exact ⟨o, e', g', h, q⟩
      | ext n => cases h; exact q
      | ret => cases h; exact q
  · intro ⟨o, e', g', h, q⟩
    rw [h]
    cases o with
    | nrm => exact q
    | ext n => exact ⟨_, _, _, rfl, q⟩
    | ret => exact ⟨_, _, _, rfl, q⟩
theorem thenQ_nrm {b Q e g} : thenQ F b Q .nrm e g = W F b e g Q := rfl
theorem thenQ_ext {b Q n e g} : thenQ F b Q (.ext n) e g = Q (.ext n) e g := rfl
theorem thenQ_ret {b Q e g} : thenQ F b Q .ret e g = Q .ret e g := rfl
theorem W_cond {c t f e g Q} : W F (.cond c t f) e g Q = selW F t f e g Q (c.ev e) := by
  unfold W; rw [cS_cond]; apply propext
  generalize c.ev e = v
  cases v <;> simp only [selS, selW] <;> try (constructor <;> (intro h; first | exact h.elim | (obtain ⟨_, _, _, h, _⟩ := h; cases h)))
  rename_i x
  cases x <;> simp [W]
theorem selW_true {t f e g Q} : selW F t f e g Q (.b true) = W F t e g Q := rfl
theorem selW_false {t f e g Q} : selW F t f e g Q (.b false) = W F f e g Q := rfl
theorem W_scp {c e g Q} : W F (.scp c) e g Q = W F c e g Q := by unfold W; rw [codeS_scp]
theorem W_lab {e g Q} : W F .lab e g Q = Q .nrm e g := by
  unfold W; rw [codeS_lab]; apply propext
  exact ⟨fun ⟨o, e', g', h, q⟩ => by cases h; exact q, fun q => ⟨_, _, _, rfl, q⟩⟩
theorem W_blk {id c e g Q} : W F (.blk id c) e g Q = W F c e g (blkQ id Q) := by
  unfold W; rw [cS_blk]; apply propext
  constructor
  · intro ⟨o, e', g', h, q⟩
    cases hc : codeS F c e g with
    | none => rw [hc] at h; cases h
    | some r =>
      obtain ⟨o1, e1, g1⟩ := r
      rw [hc] at h
      refine ⟨o1, e1, g1, rfl, ?_⟩
      cases o1 with
      | nrm => cases h; exact q
      | ext n =>
        cases h
        show if n = id then _ else _
        split
        · rename_i hn; rw [if_pos hn] at q; exact q
        · rename_i hn; rw [if_neg hn] at q; exact q
      | ret => cases h; exact q
  · intro ⟨o, e', g', h, q⟩
    rw [h]
    cases o with
    | nrm => exact ⟨_, _, _, rfl, q⟩
    | ext n =>
      refine ⟨_, _, _, rfl, ?_⟩
      have q : if n = id then Q .nrm e' g' else Q (.ext n) e' g' := q
      split
      · rename_i hn; rw [if_pos hn] at q; exact q
      · rename_i hn; rw [if_neg hn] at q; exact q
    | ret => exact ⟨_, _, _, rfl, q⟩
theorem blkQ_nrm {id Q e g} : blkQ id Q .nrm e g = Q .nrm e g := rfl
theorem blkQ_ret {id Q e g} : blkQ id Q .ret e g = Q .ret e g := rfl
theorem blkQ_same {id Q e g} : blkQ id Q (.ext id) e g = Q .nrm e g := if_pos rfl
theorem blkQ_ne {id n Q e g} (h : n ≠ id) : blkQ id Q (.ext n) e g = Q (.ext n) e g := if_neg h
theorem W_reg {d ops e g Q} : W F (.reg d ops) e g Q = WR F d g.nx 0 ops e ⟨g.hp, g.nx + ops.length⟩ (nrmQ Q) := by
  unfold W WR; rw [cS_reg]; apply propext
  constructor
  · intro ⟨o, e', g', h, q⟩
    cases hc : regE (callS F) d g.nx 0 ops e ⟨g.hp, g.nx + ops.length⟩ with
    | none => rw [hc] at h; cases h
    | some r =>
      rw [hc] at h
      cases h
      exact ⟨_, _, rfl, q⟩
  · intro ⟨e', g', h, q⟩
    rw [h]
    exact ⟨.nrm, e', g', rfl, q⟩
theorem nrmQ_is {Q e g} : nrmQ Q e g = Q .nrm e g := rfl
theorem WR_nil {d b j e g K} : WR F d b j [] e g K = K e g := by
  unfold WR; apply propext
  simp only [regE_nil]
  exact ⟨fun ⟨e', g', h, q⟩ => by cases h; exact q, fun q => ⟨_, _, rfl, q⟩⟩
theorem WR_cons {d b j dst op grd pre os e g K} : WR F d b j ({ dst, op, grd, pre } :: os) e g K = selO F d b j dst os e op pre g K (wanted e grd) := by
  unfold WR; rw [regE_cons]
  generalize wanted e grd = w
  cases w
  · rfl
  · rw [selR_true]
    show _ = bindO _ _ _ _ _ _ _ _ _
    cases opE (callS F) (allow d b pre) b (b + j) op e g with
    | none =>
      apply propext
      constructor
      · intro ⟨_, _, h, _⟩; cases h
      · intro h; exact False.elim h
    | some r => rfl
theorem selO_true {d b j dst os e op pre g K} : selO F d b j dst os e op pre g K true = bindO F d b (j + 1) dst os e K (opE (callS F) (allow d b pre) b (b + j) op e g) := rfl
theorem selO_false {d b j dst os e op pre g K} : selO F d b j dst os e op pre g K false = WR F d b (j + 1) os (put e dst .undef) g K := rfl
theorem bindO_some {d b j dst os e K v g} : bindO F d b j dst os e K (some (v, g)) = WR F d b j os (put e dst v) g K := rfl
def loopQ (I : Nat → Env → G → Prop) (m : Nat) (Q : Out → Env → G → Prop) : Out → Env → G → Prop
  | .nrm, e, g => ∃ m', m' < m ∧ I m' e g
  | o, e, g => Q o e g
theorem loopQ_nrm {I m Q e g} : loopQ I m Q .nrm e g = ∃ m', m' < m ∧ I m' e g := rfl
theorem loopQ_ext {I m Q n e g} : loopQ I m Q (.ext n) e g = Q (.ext n) e g := rfl
theorem loopQ_ret {I m Q e g} : loopQ I m Q .ret e g = Q .ret e g := rfl
noncomputable def pureS (F : Funs) (f : Nat) (asx : List AV) : Option AV := match callS F f asx g0 with
  | some (v, g) => frz g.hp depth v
  | none => none
noncomputable def vPure (F : Funs) (al : Nat → Bool) (f : AV) (args : List AV) (g : G) : Option (AV × G) := vCall (callS F) al 0 .pure f args g
theorem o_pure {al lo id e g} (f : Opd) (asx : List Opd) : opE (callS F) al lo id (.call .pure f asx) e g = vPure F al (f.ev e) (asx.map (·.ev e)) g := rfl
theorem vPure_ok {al : Nat → Bool} {fid : Nat} {fst caps args bs : List AV} {g : G} {v : AV} (h1 : frzL (rd g al) depth (fst ++ args ++ caps) = some bs) (h2 : pureS F fid bs = some v) (h3 : (flat v || ((fst ++ args ++ caps).flatMap (vis (rd g al) depth)).isEmpty) = true) :
    vPure F al (.fn fid fst caps) args g = some (v, g) := by
  unfold pureS at h2
  split at h2
  · rename_i v0 g' hc
    have hc' : callS F fid bs ⟨fun _ => none, 0⟩ = some (v0, g') := hc
    unfold vPure vCall
    simp only [h1, hc', h2, h3, if_true]
  · cases h2
def retQ (rs : List ARes) (v : AV) : Out → Env → G → Prop
  | .ext _, _, _ => False
  | _, e, g => (match resE rs e g with | some v0 => frz g.hp depth v0 | none => none) = some v
theorem retQ_nrm {rs v e g} : retQ rs v .nrm e g = ((match resE rs e g with | some v0 => frz g.hp depth v0 | none => none) = some v) := rfl
theorem retQ_ret {rs v e g} : retQ rs v .ret e g = ((match resE rs e g with | some v0 => frz g.hp depth v0 | none => none) = some v) := rfl
theorem pure_of {f : Nat} {fn : AFun} {asx : List AV} {v : AV} (hF : F f = some fn) (h : W F fn.body (argEnv asx) g0 (retQ fn.res v)) : pureS F f asx = some v := by
  obtain ⟨o, e, g, h1, h2⟩ := h
  unfold pureS
  rw [callS_eq, hF]
  simp only [h1]
  cases o with
  | ext n => exact h2.elim
  | nrm =>
    have h2 : (match resE fn.res e g with | some v0 => frz g.hp depth v0 | none => none) = some v := h2
    cases hr : resE fn.res e g with
    | none => rw [hr] at h2; cases h2
    | some v0 => rw [hr] at h2; simp only [hr, Option.map_some]; exact h2
  | ret =>
    have h2 : (match resE fn.res e g with | some v0 => frz g.hp depth v0 | none => none) = some v := h2
    cases hr : resE fn.res e g with
    | none => rw [hr] at h2; cases h2
    | some v0 => rw [hr] at h2; simp only [hr, Option.map_some]; exact h2
end
theorem argEnv_0 (a l) : argEnv (a :: l) 0 = a := rfl
theorem argEnv_1 (a b l) : argEnv (a :: b :: l) 1 = b := rfl
theorem argEnv_2 (a b c l) : argEnv (a :: b :: c :: l) 2 = c := rfl
theorem argEnv_3 (a b c d l) : argEnv (a :: b :: c :: d :: l) 3 = d := rfl
theorem argEnv_4 (a b c d e l) : argEnv (a :: b :: c :: d :: e :: l) 4 = e := rfl
theorem argEnv_5 (a b c d e f l) : argEnv (a :: b :: c :: d :: e :: f :: l) 5 = f := rfl
theorem res_1 (n e g) : resE [.t n] e g = some (e n) := rfl
theorem res_2 (n m e g) : resE [.t n, .t m] e g = some (.tup [e n, e m]) := rfl
theorem frz_flat {hp} {d : Nat} {v : AV} (h : flat v = true) : frz hp (d + 1) v = some v := by cases v <;> first | (cases h; done) | simp only [frz]
theorem frzL_flat {hp} {d : Nat} : ∀ {cs : List AV}, cs.all flat = true → frzL hp (d + 1) cs = some cs
  | [], _ => by simp only [frzL]
  | c :: cs, h => by
    simp only [List.all_cons, Bool.and_eq_true] at h
    simp only [frzL, frz_flat h.1, frzL_flat h.2]
theorem frzL_nil (hp d) : frzL hp d [] = some [] := by simp only [frzL]
def consO (c : Option AV) (cs : Option (List AV)) : Option (List AV) := match c, cs with
  | some c, some cs => some (c :: cs)
  | _, _ => none
theorem consO_ok (c cs) : consO (some c) (some cs) = some (c :: cs) := rfl
theorem frzL_cons (hp d c cs) : frzL hp d (c :: cs) = consO (frz hp d c) (frzL hp d cs) := by
  simp only [frzL]
  cases frz hp d c <;> cases frzL hp d cs <;> rfl
theorem frz_d_i (hp k n) : frz hp depth (.i k n) = some (.i k n) := by show frz hp (8 + 1) _ = _; simp only [frz]
theorem frz_d_b (hp x) : frz hp depth (.b x) = some (.b x) := by show frz hp (8 + 1) _ = _; simp only [frz]
theorem frz_d_s (hp x) : frz hp depth (.s x) = some (.s x) := by show frz hp (8 + 1) _ = _; simp only [frz]
theorem frz_d_nilp (hp) : frz hp depth .nilp = some .nilp := by show frz hp (8 + 1) _ = _; simp only [frz]
theorem frz_d_ptr (hp cs) : frz hp depth (.ptr cs) = some (.ptr cs) := by show frz hp (8 + 1) _ = _; simp only [frz]
theorem frz_d_sl (hp cs n t) : frz hp depth (.sl cs n t) = some (.sl cs n .non) := by show frz hp (8 + 1) _ = _; simp only [frz]
theorem frz_d_fn0 (hp f) : frz hp depth (.fn f [] []) = some (.fn f [] []) := by show frz hp (8 + 1) _ = _; simp only [frz, frzL]
noncomputable def frzB (hp : Nat → Option Blk) (off : Nat) (cs : List AV) (x : Bool) : Option (List AV) := if x then some (cs.drop off) else frzL hp 8 (cs.drop off)
noncomputable def frzP (hp : Nat → Option Blk) (off : Nat) (f : List AV → AV) : Option Blk → Option AV
  | some (.cells cs _) => (frzB hp off cs (cs.all flat)).map f
  | _ => none
theorem frzB_eq (hp : Nat → Option Blk) (off : Nat) (cs : List AV) : frzB hp off cs (cs.all flat) = frzL hp 8 (cs.drop off) := by
  unfold frzB
  split
  · rename_i hf
    refine (frzL_flat ?_).symm
    rw [List.all_eq_true] at hf ⊢
    exact fun x hx => hf x (List.mem_of_mem_drop hx)
  · rfl
theorem frz_P (hp : Nat → Option Blk) (id off : Nat) : frz hp depth (.mp id off) = frzP hp off .ptr (hp id) := by
  show frz hp (8 + 1) _ = _
  simp only [frz]
  unfold frzP
  simp only [frzB_eq]
  cases hp id with
  | none => rfl
  | some b => cases b <;> rfl
theorem frz_Q (hp : Nat → Option Blk) (id off n : Nat) : frz hp depth (.ms id off n) = frzP hp off (fun cs => .sl cs n .non) (hp id) := by
  show frz hp (8 + 1) _ = _
  simp only [frz]
  unfold frzP
  simp only [frzB_eq]
  cases hp id with
  | none => rfl
  | some b => cases b <;> rfl
theorem frzP_cells (hp off f cs ro) : frzP hp off f (some (.cells cs ro)) = (frzB hp off cs (cs.all flat)).map f := rfl
theorem frzB_true (hp off cs) : frzB hp off cs true = some (cs.drop off) := rfl
theorem map_some' (f : List AV → AV) (cs : List AV) : (some cs).map f = some (f cs) := rfl
noncomputable def purD (g : G) (vs : List Nat) : Option AV → Option (AV × G)
  | some v => if flat v || vs.isEmpty then some (v, g) else none
  | none => none
def purE (g : G) (v : AV) (x : Bool) : Option (AV × G) := if x then some (v, g) else none
theorem purD_some (g vs v) : purD g vs (some v) = purE g v (flat v || vs.isEmpty) := rfl
theorem purE_true (g v) : purE g v true = some (v, g) := rfl
noncomputable def purS (F : Funs) (f : Nat) (g : G) (vs : List Nat) : Option (List AV) → Option (AV × G)
  | some bs => purD g vs (pureS F f bs)
  | none => none
theorem purS_some (F f g vs bs) : purS F f g vs (some bs) = purD g vs (pureS F f bs) := rfl
theorem vPure_S (F : Funs) (al : Nat → Bool) (fid : Nat) (fst args caps : List AV) (g : G) :
    vPure F al (.fn fid fst caps) args g = purS F fid g ((fst ++ args ++ caps).flatMap (vis (rd g al) depth)) (frzL (rd g al) depth (fst ++ args ++ caps)) := by
  unfold vPure vCall
  simp only
  cases frzL (rd g al) depth (fst ++ args ++ caps) with
  | none => rfl
  | some bs =>
    rw [purS_some]
    unfold pureS g0
    simp only
    cases callS F fid bs ⟨fun _ => none, 0⟩ with
    | none => rfl
    | some r =>
      obtain ⟨v, g'⟩ := r
      simp only
      cases frz g'.hp depth v with
      | none => rfl
      | some v' => rfl
theorem flat_i (k n) : flat (.i k n) = true := rfl
theorem flat_b (x) : flat (.b x) = true := rfl
theorem flat_s (x) : flat (.s x) = true := rfl
theorem flat_nilp : flat .nilp = true := rfl
theorem flat_ptr (x) : flat (.ptr x) = false := rfl
theorem flat_sl (a b c) : flat (.sl a b c) = false := rfl
theorem flat_agg (a) : flat (.agg a) = false := rfl
theorem flat_tup (a) : flat (.tup a) = false := rfl
theorem vis_i (hp k n) : vis hp depth (.i k n) = [] := by show vis hp (8 + 1) _ = _; simp only [vis]
theorem vis_b (hp x) : vis hp depth (.b x) = [] := by show vis hp (8 + 1) _ = _; simp only [vis]
theorem vis_s (hp x) : vis hp depth (.s x) = [] := by show vis hp (8 + 1) _ = _; simp only [vis]
theorem vis_nilp (hp) : vis hp depth .nilp = [] := by show vis hp (8 + 1) _ = _; simp only [vis]
theorem vis_ptr (hp x) : vis hp depth (.ptr x) = [] := by show vis hp (8 + 1) _ = _; simp only [vis]
theorem vis_sl (hp a b c) : vis hp depth (.sl a b c) = [] := by show vis hp (8 + 1) _ = _; simp only [vis]
theorem vis_fn0 (hp f) : vis hp depth (.fn f [] []) = [] := by show vis hp (8 + 1) _ = _; simp only [vis, List.flatMap_nil, List.append_nil]
theorem isEmpty_nil : ([] : List Nat).isEmpty = true := rfl
def midQ (M : Env → G → Prop) : Out → Env → G → Prop
  | .nrm, e, g => M e g
  | _, _, _ => False
theorem midQ_nrm {M e g} : midQ M .nrm e g = M e g := rfl
theorem frz_b_inv {hp : Nat → Option Blk} {k : Nat} {v : AV} {b : Bool} (h : frz hp (k + 1) v = some (.b b)) : v = .b b := by
  cases v with
  | b x => simp only [frz] at h; cases h; rfl
  | agg cs => simp only [frz] at h; cases hf : frzL hp k cs <;> rw [hf] at h <;> cases h
  | tup cs => simp only [frz] at h; cases hf : frzL hp k cs <;> rw [hf] at h <;> cases h
  | mp id off =>
    simp only [frz] at h
    split at h
    · cases hf : frzL hp k (List.drop off _) <;> rw [hf] at h <;> cases h
    · cases h
  | ms id off n =>
    simp only [frz] at h
    split at h
    · cases hf : frzL hp k (List.drop off _) <;> rw [hf] at h <;> cases h
    · cases h
  | fn f asx bs => simp only [frz] at h; split at h <;> cases h
  | ifc t w => simp only [frz] at h; cases hf : frz hp k w <;> rw [hf] at h <;> cases h
  | _ => simp only [frz] at h; cases h
theorem pureS_bool {F : Funs} {f : Nat} {asx : List AV} {b : Bool} (h : pureS F f asx = some (.b b)) : ∃ k g', callE F k f asx g0 = some (.b b, g') := by
  unfold pureS at h
  split at h
  · rename_i v g hc
    have := frz_b_inv (k := 8) h
    subst this
    obtain ⟨k, hk⟩ := (callS_some F).1 hc
    exact ⟨k, g, hk⟩
  · cases h
def retB (rs : List ARes) (P : Bool → Prop) : Out → Env → G → Prop
  | .ext _, _, _ => False
  | _, e, g => ∃ b, resE rs e g = some (.b b) ∧ P b
theorem retB_nrm {rs P e g} : retB rs P .nrm e g = (∃ b, resE rs e g = some (.b b) ∧ P b) := rfl
theorem retB_ret {rs P e g} : retB rs P .ret e g = (∃ b, resE rs e g = some (.b b) ∧ P b) := rfl
def midR (Q : Out → Env → G → Prop) (M : Env → G → Prop) : Out → Env → G → Prop
  | .nrm, e, g => M e g
  | .ret, e, g => Q .ret e g
  | .ext _, _, _ => False
theorem midR_nrm {Q M e g} : midR Q M .nrm e g = M e g := rfl
theorem midR_ret {Q M e g} : midR Q M .ret e g = Q .ret e g := rfl
set_option maxRecDepth 10000 in
theorem wp : type_of% (And.intro (And.intro (And.intro (And.intro (And.intro (And.intro (And.intro @W_skip (And.intro @W_ext @W_ret)) (And.intro (And.intro @W_seq @thenQ_nrm) (And.intro @thenQ_ext @thenQ_ret))) (And.intro (And.intro (And.intro @W_cond @selW_true) (And.intro @selW_false @W_blk)) (And.intro (And.intro @blkQ_nrm @blkQ_ret) (And.intro @blkQ_same @blkQ_ne)))) (And.intro (And.intro (And.intro @W_reg (And.intro @nrmQ_is @WR_nil)) (And.intro (And.intro @WR_cons @selO_true) (And.intro @selO_false @bindO_some))) (And.intro (And.intro (And.intro @loopQ_nrm @loopQ_ext) (And.intro @loopQ_ret @wanted_none)) (And.intro (And.intro @wanted_some @wantV_1) (And.intro @wantV_0 @wantV_undef))))) (And.intro (And.intro (And.intro (And.intro @ev_t (And.intro @ev_c @put_some)) (And.intro (And.intro @put_none @upd_same) (And.intro @upd_ne @List.length_cons.{0}))) (And.intro (And.intro (And.intro @List.length_nil.{0} @List.map_cons.{0, 0}) (And.intro @List.map_nil.{0, 0} @allow_no)) (And.intro (And.intro @allow_lt @argEnv_0) (And.intro @argEnv_1 @argEnv_2)))) (And.intro (And.intro (And.intro (And.intro @argEnv_3 @argEnv_4) (And.intro @argEnv_5 @res_1)) (And.intro (And.intro @res_2 @retQ_nrm) (And.intro @retQ_ret @o_mv))) (And.intro (And.intro (And.intro @o_pick @vPick_t) (And.intro @vPick_f @o_new)) (And.intro (And.intro @o_box @vBox_S) (And.intro @boxD_ok @vMap_some)))))) (And.intro (And.intro (And.intro (And.intro (And.intro @vMapL_some (And.intro @o_build @o_ld)) (And.intro (And.intro @vLd_ptr @vLd_S) (And.intro @ldS_ok @selB_true))) (And.intro (And.intro (And.intro @o_st @vSt_S) (And.intro @stS_ok @stD_ok)) (And.intro (And.intro @o_nilck @vNil_ptr) (And.intro @vNil_mp @vNil_fn)))) (And.intro (And.intro (And.intro (And.intro @o_bin @o_un) (And.intro @o_mkfn @o_fa)) (And.intro (And.intro @vFa_mp @vFa_S) (And.intro @faD_ok @o_fld))) (And.intro (And.intro (And.intro @vFld_agg @o_ia) (And.intro @vIa_sl @vIa_ms)) (And.intro (And.intro @o_iaa @vIaa_ptr) (And.intro @vIaa_mp @o_len))))) (And.intro (And.intro (And.intro (And.intro @vLen_sl (And.intro @vLen_ms @o_mx)) (And.intro (And.intro @o_mn @vMx_i) (And.intro @vMn_i @o_ext))) (And.intro (And.intro (And.intro @vExt_tup @b_add) (And.intro @b_sub @b_mul)) (And.intro (And.intro @b_lss @b_leq) (And.intro @b_gtr @b_geq)))) (And.intro (And.intro (And.intro (And.intro @b_eql @b_neq) (And.intro @o_pure @List.nil_append.{0})) (And.intro (And.intro @List.append_nil.{0} @List.cons_append.{0}) (And.intro @frz_d_i @frz_d_b))) (And.intro (And.intro (And.intro @frz_d_s @frz_d_nilp) (And.intro @frz_d_ptr @frz_d_sl)) (And.intro (And.intro @frz_d_fn0 @Bool.not_true) (And.intro @Bool.not_false @Bool.true_and))))))) (And.intro (And.intro (And.intro (And.intro (And.intro (And.intro @Bool.and_true (And.intro @Bool.false_and @Bool.and_false)) (And.intro (And.intro @decide_true @decide_false) (And.intro @beq_self_eq_true.{0} @Bool.true_eq_false))) (And.intro (And.intro (And.intro @Bool.false_eq_true @Nat.zero_add) (And.intro @Nat.add_zero @Int.toNat_natCast)) (And.intro (And.intro @ge_iff_le.{0} @gt_iff_lt.{0}) (And.intro @fill_S @fillD_ok)))) (And.intro (And.intro (And.intro (And.intro @fill_nil @cellsOf_agg) (And.intro @cellsOf_i @cellsOf_b)) (And.intro (And.intro @cellsOf_s @cellsOf_ptr) (And.intro @cellsOf_nilp @cellsOf_sl))) (And.intro (And.intro (And.intro @cellsOf_mp @cellsOf_fn) (And.intro @one_i @one_b)) (And.intro (And.intro @one_s @one_ptr) (And.intro @one_nilp @one_sl))))) (And.intro (And.intro (And.intro (And.intro @one_mp (And.intro @one_fn @List.all_cons.{0})) (And.intro (And.intro @List.all_nil.{0} @splice_1) (And.intro @splice_2 @splice_3))) (And.intro (And.intro (And.intro @part_0 @part_1) (And.intro @part_2 @drop_0)) (And.intro (And.intro @g0_nx @g0_hp) (And.intro @List.set_cons_zero.{0} @List.set_cons_succ.{0})))) (And.intro (And.intro (And.intro (And.intro @List.length_append.{0} @List.length_replicate.{0}) (And.intro @eq_self.{1} @true_and)) (And.intro (And.intro @and_true @vPure_S) (And.intro @purS_some @purD_some))) (And.intro (And.intro (And.intro @purE_true @frzL_cons) (And.intro @frzL_nil @consO_ok)) (And.intro (And.intro @flat_i @flat_b) (And.intro @flat_s @flat_nilp)))))) (And.intro (And.intro (And.intro (And.intro (And.intro @flat_ptr (And.intro @flat_sl @flat_agg)) (And.intro (And.intro @flat_tup @vis_i) (And.intro @vis_b @vis_s))) (And.intro (And.intro (And.intro @vis_nilp @vis_ptr) (And.intro @vis_sl @vis_fn0)) (And.intro (And.intro @List.flatMap_cons.{0, 0} @List.flatMap_nil.{0, 0}) (And.intro @isEmpty_nil @Bool.true_or)))) (And.intro (And.intro (And.intro (And.intro @Bool.false_or @Bool.or_true) (And.intro @Bool.or_false @frz_P)) (And.intro (And.intro @frz_Q @frzP_cells) (And.intro @frzB_true @map_some'))) (And.intro (And.intro (And.intro @rd_S @o_bsl) (And.intro @vBsl_t @vBsl_f)) (And.intro (And.intro @o_app @appD_ok) (And.intro @vApp_rig @vApp_rig0))))) (And.intro (And.intro (And.intro (And.intro @appK_ok (And.intro @vApp_own @o_eqn)) (And.intro (And.intro @o_eqb @o_eqa) (And.intro @aeqn_pn @aeqn_np))) (And.intro (And.intro (And.intro @aeqn_mn @aeqn_nn) (And.intro @aeqb_bb @negb_t)) (And.intro (And.intro @negb_f @aun_not) (And.intro @midQ_nrm @part_3)))) (And.intro (And.intro (And.intro (And.intro @part_4 @part_5) (And.intro @cellsOf_ms @one_ms)) (And.intro (And.intro @Int.toNat_zero @Nat.zero_mul) (And.intro @o_stL @andLe_ok))) (And.intro (And.intro (And.intro @allow_hd @allow_h2) (And.intro @retB_nrm @retB_ret)) (And.intro (And.intro @midR_nrm @midR_ret) (And.intro @W_scp @W_lab)))))))) := (And.intro (And.intro (And.intro (And.intro (And.intro (And.intro (And.intro @W_skip (And.intro @W_ext @W_ret)) (And.intro (And.intro @W_seq @thenQ_nrm) (And.intro @thenQ_ext @thenQ_ret))) (And.intro (And.intro (And.intro @W_cond @selW_true) (And.intro @selW_false @W_blk)) (And.intro (And.intro @blkQ_nrm @blkQ_ret) (And.intro @blkQ_same @blkQ_ne)))) (And.intro (And.intro (And.intro @W_reg (And.intro @nrmQ_is @WR_nil)) (And.intro (And.intro @WR_cons @selO_true) (And.intro @selO_false @bindO_some))) (And.intro (And.intro (And.intro @loopQ_nrm @loopQ_ext) (And.intro @loopQ_ret @wanted_none)) (And.intro (And.intro @wanted_some @wantV_1) (And.intro @wantV_0 @wantV_undef))))) (And.intro (And.intro (And.intro (And.intro @ev_t (And.intro @ev_c @put_some)) (And.intro (And.intro @put_none @upd_same) (And.intro @upd_ne @List.length_cons.{0}))) (And.intro (And.intro (And.intro @List.length_nil.{0} @List.map_cons.{0, 0}) (And.intro @List.map_nil.{0, 0} @allow_no)) (And.intro (And.intro @allow_lt @argEnv_0) (And.intro @argEnv_1 @argEnv_2)))) (And.intro (And.intro (And.intro (And.intro @argEnv_3 @argEnv_4) (And.intro @argEnv_5 @res_1)) (And.intro (And.intro @res_2 @retQ_nrm) (And.intro @retQ_ret @o_mv))) (And.intro (And.intro (And.intro @o_pick @vPick_t) (And.intro @vPick_f @o_new)) (And.intro (And.intro @o_box @vBox_S) (And.intro @boxD_ok @vMap_some)))))) (And.intro (And.intro (And.intro (And.intro (And.intro @vMapL_some (And.intro @o_build @o_ld)) (And.intro (And.intro @vLd_ptr @vLd_S) (And.intro @ldS_ok @selB_true))) (And.intro (And.intro (And.intro @o_st @vSt_S) (And.intro @stS_ok @stD_ok)) (And.intro (And.intro @o_nilck @vNil_ptr) (And.intro @vNil_mp @vNil_fn)))) (And.intro (And.intro (And.intro (And.intro @o_bin @o_un) (And.intro @o_mkfn @o_fa)) (And.intro (And.intro @vFa_mp @vFa_S) (And.intro @faD_ok @o_fld))) (And.intro (And.intro (And.intro @vFld_agg @o_ia) (And.intro @vIa_sl @vIa_ms)) (And.intro (And.intro @o_iaa @vIaa_ptr) (And.intro @vIaa_mp @o_len))))) (And.intro (And.intro (And.intro (And.intro @vLen_sl (And.intro @vLen_ms @o_mx)) (And.intro (And.intro @o_mn @vMx_i) (And.intro @vMn_i @o_ext))) (And.intro (And.intro (And.intro @vExt_tup @b_add) (And.intro @b_sub @b_mul)) (And.intro (And.intro @b_lss @b_leq) (And.intro @b_gtr @b_geq)))) (And.intro (And.intro (And.intro (And.intro @b_eql @b_neq) (And.intro @o_pure @List.nil_append.{0})) (And.intro (And.intro @List.append_nil.{0} @List.cons_append.{0}) (And.intro @frz_d_i @frz_d_b))) (And.intro (And.intro (And.intro @frz_d_s @frz_d_nilp) (And.intro @frz_d_ptr @frz_d_sl)) (And.intro (And.intro @frz_d_fn0 @Bool.not_true) (And.intro @Bool.not_false @Bool.true_and))))))) (And.intro (And.intro (And.intro (And.intro (And.intro (And.intro @Bool.and_true (And.intro @Bool.false_and @Bool.and_false)) (And.intro (And.intro @decide_true @decide_false) (And.intro @beq_self_eq_true.{0} @Bool.true_eq_false))) (And.intro (And.intro (And.intro @Bool.false_eq_true @Nat.zero_add) (And.intro @Nat.add_zero @Int.toNat_natCast)) (And.intro (And.intro @ge_iff_le.{0} @gt_iff_lt.{0}) (And.intro @fill_S @fillD_ok)))) (And.intro (And.intro (And.intro (And.intro @fill_nil @cellsOf_agg) (And.intro @cellsOf_i @cellsOf_b)) (And.intro (And.intro @cellsOf_s @cellsOf_ptr) (And.intro @cellsOf_nilp @cellsOf_sl))) (And.intro (And.intro (And.intro @cellsOf_mp @cellsOf_fn) (And.intro @one_i @one_b)) (And.intro (And.intro @one_s @one_ptr) (And.intro @one_nilp @one_sl))))) (And.intro (And.intro (And.intro (And.intro @one_mp (And.intro @one_fn @List.all_cons.{0})) (And.intro (And.intro @List.all_nil.{0} @splice_1) (And.intro @splice_2 @splice_3))) (And.intro (And.intro (And.intro @part_0 @part_1) (And.intro @part_2 @drop_0)) (And.intro (And.intro @g0_nx @g0_hp) (And.intro @List.set_cons_zero.{0} @List.set_cons_succ.{0})))) (And.intro (And.intro (And.intro (And.intro @List.length_append.{0} @List.length_replicate.{0}) (And.intro @eq_self.{1} @true_and)) (And.intro (And.intro @and_true @vPure_S) (And.intro @purS_some @purD_some))) (And.intro (And.intro (And.intro @purE_true @frzL_cons) (And.intro @frzL_nil @consO_ok)) (And.intro (And.intro @flat_i @flat_b) (And.intro @flat_s @flat_nilp)))))) (And.intro (And.intro (And.intro (And.intro (And.intro @flat_ptr (And.intro @flat_sl @flat_agg)) (And.intro (And.intro @flat_tup @vis_i) (And.intro @vis_b @vis_s))) (And.intro (And.intro (And.intro @vis_nilp @vis_ptr) (And.intro @vis_sl @vis_fn0)) (And.intro (And.intro @List.flatMap_cons.{0, 0} @List.flatMap_nil.{0, 0}) (And.intro @isEmpty_nil @Bool.true_or)))) (And.intro (And.intro (And.intro (And.intro @Bool.false_or @Bool.or_true) (And.intro @Bool.or_false @frz_P)) (And.intro (And.intro @frz_Q @frzP_cells) (And.intro @frzB_true @map_some'))) (And.intro (And.intro (And.intro @rd_S @o_bsl) (And.intro @vBsl_t @vBsl_f)) (And.intro (And.intro @o_app @appD_ok) (And.intro @vApp_rig @vApp_rig0))))) (And.intro (And.intro (And.intro (And.intro @appK_ok (And.intro @vApp_own @o_eqn)) (And.intro (And.intro @o_eqb @o_eqa) (And.intro @aeqn_pn @aeqn_np))) (And.intro (And.intro (And.intro @aeqn_mn @aeqn_nn) (And.intro @aeqb_bb @negb_t)) (And.intro (And.intro @negb_f @aun_not) (And.intro @midQ_nrm @part_3)))) (And.intro (And.intro (And.intro (And.intro @part_4 @part_5) (And.intro @cellsOf_ms @one_ms)) (And.intro (And.intro @Int.toNat_zero @Nat.zero_mul) (And.intro @o_stL @andLe_ok))) (And.intro (And.intro (And.intro @allow_hd @allow_h2) (And.intro @retB_nrm @retB_ret)) (And.intro (And.intro @midR_nrm @midR_ret) (And.intro @W_scp @W_lab))))))))
end Go.Ab
end
section
set_option linter.unusedVariables false
set_option linter.unusedSimpArgs false
namespace Go.Ab
noncomputable def vRaw (F : Funs) (al : Nat → Bool) (id : Nat) (f : AV) (args : List AV) (g : G) : Option (AV × G) := vCall (callS F) al id .raw f args g
theorem o_raw {F : Funs} {al lo id e g} (f : Opd) (asx : List Opd) : opE (callS F) al lo id (.call .raw f asx) e g = vRaw F al id (f.ev e) (asx.map (·.ev e)) g := rfl
theorem vRaw_fn {F : Funs} {al id fid fst caps args g} : vRaw F al id (.fn fid fst caps) args g = callS F fid (fst ++ args ++ caps) g := rfl
def retP (rs : List ARes) (P : AV → G → Prop) : Out → Env → G → Prop
  | .ext _, _, _ => False
  | _, e, g => ∃ v, resE rs e g = some v ∧ P v g
theorem retP_nrm {rs P e g} : retP rs P .nrm e g = (∃ v, resE rs e g = some v ∧ P v g) := rfl
theorem retP_ret {rs P e g} : retP rs P .ret e g = (∃ v, resE rs e g = some v ∧ P v g) := rfl
theorem res_0 (e g) : resE [] e g = some (.tup []) := rfl
def mgS (k : ByteArray) (g : G) : Option Blk → Option (AV × G)
  | some (.map es) => vMap g (mlook es k)
  | _ => none
theorem o_mget {c : CS} {al : Nat → Bool} {lo id : Nat} {e : Env} {g : G} (m k) : opE c al lo id (.mget m k) e g = vMget al (m.ev e) (k.ev e) g := rfl
theorem vMget_S {al : Nat → Bool} {g : G} (b k) : vMget al (.mm b) (.s k) g = mgS k g (selB (al b) (g.hp b)) := by
  simp only [vMget, rd_S]
  cases selB (al b) (g.hp b) with
  | none => rfl
  | some bl => cases bl <;> rfl
theorem mgS_map (k g es) : mgS k g (some (.map es)) = vMap g (mlook es k) := rfl
theorem o_mkmap {c : CS} {al : Nat → Bool} {lo id : Nat} {e : Env} {g : G} : opE c al lo id .mkmap e g = some (.mm id, ⟨upd g.hp id (some (.map [])), g.nx⟩) := rfl
theorem o_mput {c : CS} {al : Nat → Bool} {lo id : Nat} {e : Env} {g : G} (m k v) : opE c al lo id (.mput m k v) e g = vMput al (m.ev e) (k.ev e) (v.ev e) g := rfl
def mpO (b : Nat) (k : ByteArray) (v : AV) (es : List (AV × AV)) (g : G) (x : Bool) : Option AV → Option (AV × G)
  | none => if x then some (.undef, ⟨upd g.hp b (some (.map (es ++ [(.s k, v)]))), g.nx⟩) else none
  | some _ => none
def mpS (b : Nat) (k : ByteArray) (v : AV) (g : G) (x : Bool) : Option Blk → Option (AV × G)
  | some (.map es) => mpO b k v es g x (mlook es k)
  | _ => none
theorem vMput_S {al : Nat → Bool} {g : G} (b k v) : vMput al (.mm b) (.s k) v g = mpS b k v g (one v) (selB (al b) (g.hp b)) := by
  simp only [vMput, rd_S]
  cases selB (al b) (g.hp b) with
  | none => rfl
  | some bl =>
    cases bl with
    | map es => simp only [mpS]; cases mlook es k <;> rfl
    | cells _ _ => rfl
    | tok _ => rfl
theorem mpS_map (b k v g x es) : mpS b k v g x (some (.map es)) = mpO b k v es g x (mlook es k) := rfl
theorem mpO_none (b k v es g) : mpO b k v es g true none = some (.undef, ⟨upd g.hp b (some (.map (es ++ [(.s k, v)]))), g.nx⟩) := rfl
theorem frz_d_agg {hp cs ds} (h : frzL hp 8 cs = some ds) : frz hp depth (.agg cs) = some (.agg ds) := by
  show frz hp (8 + 1) _ = _
  simp only [frz, h, Option.map_some]
end Go.Ab
end
section
set_option linter.unusedVariables false
set_option linter.unusedSimpArgs false
namespace Go.Ab
inductive ET where
  | leaf
  | node (v : Option AV) (l r : ET)
noncomputable def ET.get (t : ET) : Nat → Option AV :=
  ET.rec (motive := fun _ => Nat → Option AV) (fun _ => none) (fun v _ _ gl gr n => Nat.rec (motive := fun _ => Option AV) v (fun m _ => Bool.rec (motive := fun _ => Option AV) (gr (Nat.div m 2)) (gl (Nat.div m 2)) (Nat.beq (Nat.mod m 2) 0)) n) t
theorem ET.get_succ (v l r) (m : Nat) : (ET.node v l r).get (m + 1) = if m % 2 = 0 then l.get (m / 2) else r.get (m / 2) := by
  show Bool.rec (motive := fun _ => Option AV) (r.get (m / 2)) (l.get (m / 2)) (Nat.beq (m % 2) 0) = _
  cases h : Nat.beq (m % 2) 0 with
  | true => rw [if_pos (Nat.eq_of_beq_eq_true h)]
  | false => rw [if_neg (Nat.ne_of_beq_eq_false h)]
section
variable {α : Type}
noncomputable def ET.putK (v : AV) (fuel : Nat) : ET → Nat → (ET → α) → α :=
  Nat.rec (motive := fun _ => ET → Nat → (ET → α) → α) (fun t _ k => k t)
    (fun _ ih t n k => ET.rec (motive := fun _ => α)
      (Nat.rec (motive := fun _ => α) (k (.node (some v) .leaf .leaf)) (fun m _ => Bool.rec (motive := fun _ => α) (ih .leaf (Nat.div m 2) fun r' => k (.node none .leaf r')) (ih .leaf (Nat.div m 2) fun l' => k (.node none l' .leaf)) (Nat.beq (Nat.mod m 2) 0)) n)
      (fun w l r _ _ => Nat.rec (motive := fun _ => α) (k (.node (some v) l r)) (fun m _ => Bool.rec (motive := fun _ => α) (ih r (Nat.div m 2) fun r' => k (.node w l r')) (ih l (Nat.div m 2) fun l' => k (.node w l' r)) (Nat.beq (Nat.mod m 2) 0)) n) t) fuel
theorem ET.putK_ok (v : AV) : ∀ (fuel : Nat) (t : ET) (n : Nat) (k : ET → α), n < fuel → ∃ t', ET.putK v fuel t n k = k t' ∧ ∀ j, t'.get j = if j = n then some v else t.get j
  | 0, _, _, _, h => absurd h (Nat.not_lt_zero _)
  | f + 1, t, 0, k, _ => by
    cases t with
    | leaf =>
      refine ⟨.node (some v) .leaf .leaf, rfl, fun j => ?_⟩
      cases j with
      | zero => rfl
      | succ j => rw [ET.get_succ, if_neg (Nat.succ_ne_zero j)]; split <;> rfl
    | node w l r =>
      refine ⟨.node (some v) l r, rfl, fun j => ?_⟩
      cases j with
      | zero => rfl
      | succ j => rw [ET.get_succ, if_neg (Nat.succ_ne_zero j), ET.get_succ]
  | f + 1, t, m + 1, k, h => by
    have hd : m / 2 < f := by omega
    cases t with
    | leaf =>
      cases hb : Nat.beq (m % 2) 0 with
      | true =>
        have hm := Nat.eq_of_beq_eq_true hb
        obtain ⟨t', h1, h2⟩ := ET.putK_ok v f .leaf (m / 2) (fun l' => k (.node none l' .leaf)) hd
        refine ⟨.node none t' .leaf, ?_, fun j => ?_⟩
        · show Bool.rec (motive := fun _ => α) _ (ET.putK v f .leaf (m / 2) fun l' => k (.node none l' .leaf)) (Nat.beq (m % 2) 0) = _
          rw [hb]; exact h1
        · cases j with
          | zero => rw [if_neg (by omega)]; rfl
          | succ j =>
            rw [ET.get_succ]
            by_cases hj : j % 2 = 0
            · rw [if_pos hj, h2]
              by_cases e : j / 2 = m / 2
              · rw [if_pos e, if_pos (by omega)]
              · rw [if_neg e, if_neg (by omega)]; rfl
            · rw [if_neg hj, if_neg (by omega)]; rfl
      | false =>
        have hm := Nat.ne_of_beq_eq_false hb
        obtain ⟨t', h1, h2⟩ := ET.putK_ok v f .leaf (m / 2) (fun r' => k (.node none .leaf r')) hd
        refine ⟨.node none .leaf t', ?_, fun j => ?_⟩
        · show Bool.rec (motive := fun _ => α) (ET.putK v f .leaf (m / 2) fun r' => k (.node none .leaf r')) _ (Nat.beq (m % 2) 0) = _
          rw [hb]; exact h1
        · cases j with
          | zero => rw [if_neg (by omega)]; rfl
          | succ j =>
            rw [ET.get_succ]
            by_cases hj : j % 2 = 0
            · rw [if_pos hj, if_neg (by omega)]; rfl
            · rw [if_neg hj, h2]
              by_cases e : j / 2 = m / 2
              · rw [if_pos e, if_pos (by omega)]
              · rw [if_neg e, if_neg (by omega)]; rfl
    | node w l r =>
      cases hb : Nat.beq (m % 2) 0 with
      | true =>
        have hm := Nat.eq_of_beq_eq_true hb
        obtain ⟨t', h1, h2⟩ := ET.putK_ok v f l (m / 2) (fun l' => k (.node w l' r)) hd
        refine ⟨.node w t' r, ?_, fun j => ?_⟩
        · show Bool.rec (motive := fun _ => α) _ (ET.putK v f l (m / 2) fun l' => k (.node w l' r)) (Nat.beq (m % 2) 0) = _
          rw [hb]; exact h1
        · cases j with
          | zero => rw [if_neg (by omega)]; rfl
          | succ j =>
            rw [ET.get_succ, ET.get_succ]
            by_cases hj : j % 2 = 0
            · rw [if_pos hj, if_pos hj, h2]
              by_cases e : j / 2 = m / 2
              · rw [if_pos e, if_pos (by omega)]
              · rw [if_neg e, if_neg (by omega)]
            · rw [if_neg hj, if_neg hj, if_neg (by omega)]
      | false =>
        have hm := Nat.ne_of_beq_eq_false hb
        obtain ⟨t', h1, h2⟩ := ET.putK_ok v f r (m / 2) (fun r' => k (.node w l r')) hd
        refine ⟨.node w l t', ?_, fun j => ?_⟩
        · show Bool.rec (motive := fun _ => α) (ET.putK v f r (m / 2) fun r' => k (.node w l r')) _ (Nat.beq (m % 2) 0) = _
          rw [hb]; exact h1
        · cases j with
          | zero => rw [if_neg (by omega)]; rfl
          | succ j =>
            rw [ET.get_succ, ET.get_succ]
            by_cases hj : j % 2 = 0
            · rw [if_pos hj, if_pos hj, if_neg (by omega)]
            · rw [if_neg hj, if_neg hj, h2]
              by_cases e : j / 2 = m / 2
              · rw [if_pos e, if_pos (by omega)]
              · rw [if_neg e, if_neg (by omega)]
noncomputable def frcN (n : Nat) (k : Nat → α) : α := Nat.rec (motive := fun _ => α) (k 0) (fun m _ => k (Nat.add m 1)) n
theorem frcN_ok (n : Nat) (k : Nat → α) : frcN n k = k n := by cases n <;> rfl
noncomputable def frcI (n : Int) (k : Int → α) : α := Int.rec (motive := fun _ => α) (fun m => frcN m fun m => k (.ofNat m)) (fun m => frcN m fun m => k (.negSucc m)) n
theorem frcI_ok (n : Int) (k : Int → α) : frcI n k = k n := by
  cases n with
  | ofNat m => exact frcN_ok m fun m => k (.ofNat m)
  | negSucc m => exact frcN_ok m fun m => k (.negSucc m)
noncomputable def frcB (x : Bool) (k : Bool → α) : α := Bool.rec (motive := fun _ => α) (k false) (k true) x
theorem frcB_ok (x : Bool) (k : Bool → α) : frcB x k = k x := by cases x <;> rfl
noncomputable def frc1 (v : AV) (k : AV → α) : α := match v with
  | .i s n => frcI n fun n => k (.i s n)
  | .b x => frcB x fun x => k (.b x)
  | v => k v
theorem frc1_ok (v : AV) (k : AV → α) : frc1 v k = k v := by
  cases v with
  | i s n => exact frcI_ok n fun n => k (.i s n)
  | b x => exact frcB_ok x fun x => k (.b x)
  | _ => rfl
noncomputable def frcL (cs : List AV) : (List AV → α) → α := List.rec (motive := fun _ => (List AV → α) → α) (fun k => k []) (fun c _ ih k => frc1 c fun c => ih fun cs => k (c :: cs)) cs
theorem frcL_ok : ∀ (cs : List AV) (k : List AV → α), frcL cs k = k cs
  | [], _ => rfl
  | c :: cs, k => by
    show frc1 c (fun c => frcL cs fun cs => k (c :: cs)) = _
    rw [frc1_ok, frcL_ok cs]
noncomputable def frcV (v : AV) (k : AV → α) : α := match v with
  | .i s n => frcI n fun n => k (.i s n)
  | .b x => frcB x fun x => k (.b x)
  | .sl cs n t => frcL cs fun cs => frcN n fun n => k (.sl cs n t)
  | .agg cs => frcL cs fun cs => k (.agg cs)
  | .ptr cs => frcL cs fun cs => k (.ptr cs)
  | .mp a o => frcN a fun a => frcN o fun o => k (.mp a o)
  | .ms a o n => frcN a fun a => frcN o fun o => frcN n fun n => k (.ms a o n)
  | v => k v
theorem frcV_ok (v : AV) (k : AV → α) : frcV v k = k v := by
  cases v with
  | i s n => exact frcI_ok n fun n => k (.i s n)
  | b x => exact frcB_ok x fun x => k (.b x)
  | sl cs n t =>
    show frcL cs (fun cs => frcN n fun n => k (.sl cs n t)) = _
    rw [frcL_ok, frcN_ok]
  | agg cs => exact frcL_ok cs fun cs => k (.agg cs)
  | ptr cs => exact frcL_ok cs fun cs => k (.ptr cs)
  | mp a o =>
    show frcN a (fun a => frcN o fun o => k (.mp a o)) = _
    rw [frcN_ok, frcN_ok]
  | ms a o n =>
    show frcN a (fun a => frcN o fun o => frcN n fun n => k (.ms a o n)) = _
    rw [frcN_ok, frcN_ok, frcN_ok]
  | _ => rfl
end
noncomputable def mapO (f : AV → Option AV) (cs : List AV) : Option (List AV) := List.rec (motive := fun _ => Option (List AV)) (some []) (fun c _ ih => match f c with
  | some c => (match ih with | some cs => some (c :: cs) | none => none)
  | none => none) cs
noncomputable def frzK (hp : Nat → Option Blk) (k : Nat) : AV → Option AV := Nat.rec (motive := fun _ => AV → Option AV) (fun _ => none) (fun _ ih v => match v with
  | .agg cs => (match mapO ih cs with | some cs => some (.agg cs) | none => none)
  | .tup cs => (match mapO ih cs with | some cs => some (.tup cs) | none => none)
  | .sl cs n _ => some (.sl cs n .non)
  | .mp id off => (match hp id with
    | some (.cells cs _) => (match mapO ih (cs.drop off) with | some cs => some (.ptr cs) | none => none)
    | _ => none)
  | .ms id off n => (match hp id with
    | some (.cells cs _) => (match mapO ih (cs.drop off) with | some cs => some (.sl cs n .non) | none => none)
    | _ => none)
  | .fn f a b => (match mapO ih a with
    | some a => (match mapO ih b with | some b => some (.fn f a b) | none => none)
    | none => none)
  | .ifc t v => (match ih v with | some v => some (.ifc t v) | none => none)
  | .mm _ => none
  | v => some v) k
noncomputable def frzLK (hp : Nat → Option Blk) (k : Nat) (cs : List AV) : Option (List AV) := mapO (frzK hp k) cs
theorem mapO_cons (f c cs) : mapO f (c :: cs) = (match f c with
  | some c => (match mapO f cs with | some cs => some (c :: cs) | none => none)
  | none => none) := rfl
theorem mapO_frz (hp : Nat → Option Blk) (k : Nat) (h : ∀ v, frzK hp k v = frz hp k v) : ∀ cs, mapO (frzK hp k) cs = frzL hp k cs
  | [] => by simp only [frzL]; rfl
  | c :: cs => by
    rw [mapO_cons, mapO_frz hp k h cs, h c]
    simp only [frzL]
    cases frz hp k c <;> cases frzL hp k cs <;> rfl
theorem frzK_ok (hp : Nat → Option Blk) : ∀ (k : Nat) (v : AV), frzK hp k v = frz hp k v
  | 0, v => by simp only [frz]; rfl
  | k + 1, v => by
    have hl := mapO_frz hp k (frzK_ok hp k)
    have e : frzK hp (k + 1) v = (match v with
      | .agg cs => (match mapO (frzK hp k) cs with | some cs => some (.agg cs) | none => none)
      | .tup cs => (match mapO (frzK hp k) cs with | some cs => some (.tup cs) | none => none)
      | .sl cs n _ => some (.sl cs n .non)
      | .mp id off => (match hp id with
        | some (.cells cs _) => (match mapO (frzK hp k) (cs.drop off) with | some cs => some (.ptr cs) | none => none)
        | _ => none)
      | .ms id off n => (match hp id with
        | some (.cells cs _) => (match mapO (frzK hp k) (cs.drop off) with | some cs => some (.sl cs n .non) | none => none)
        | _ => none)
      | .fn f a b => (match mapO (frzK hp k) a with
        | some a => (match mapO (frzK hp k) b with | some b => some (.fn f a b) | none => none)
        | none => none)
      | .ifc t v => (match frzK hp k v with | some v => some (.ifc t v) | none => none)
      | .mm _ => none
      | v => some v) := rfl
    rw [e]
    simp only [hl, frzK_ok hp k]
    cases v with
    | agg cs => simp only [frz]; cases frzL hp k cs <;> rfl
    | tup cs => simp only [frz]; cases frzL hp k cs <;> rfl
    | mp id off =>
      simp only [frz]
      cases hp id with
      | none => rfl
      | some b =>
        cases b with
        | cells cs ro => simp only; cases frzL hp k (cs.drop off) <;> rfl
        | _ => rfl
    | ms id off n =>
      simp only [frz]
      cases hp id with
      | none => rfl
      | some b =>
        cases b with
        | cells cs ro => simp only; cases frzL hp k (cs.drop off) <;> rfl
        | _ => rfl
    | fn f a b =>
      simp only [frz]
      cases frzL hp k a <;> cases frzL hp k b <;> rfl
    | ifc t v => simp only [frz]; cases frz hp k v <;> rfl
    | _ => simp only [frz]
theorem frzLK_ok (hp : Nat → Option Blk) (k : Nat) (cs : List AV) : frzLK hp k cs = frzL hp k cs := mapO_frz hp k (frzK_ok hp k) cs
noncomputable def kBoxI (v : AV) (g : G) : Option (AV × G) :=
  if (cellsOf v).all one then vMapL .ptr g (frzLK (fun _ => none) depth (cellsOf v)) else none
noncomputable def kBsl (id : Nat) (imm : Bool) (n : Nat) (cs : Option (List AV)) (g : G) : Option (AV × G) := match cs with
  | none => none
  | some cs =>
    if imm then vMapL (fun cs => .sl cs n .rig) g (frzLK (fun _ => none) depth cs)
    else some (.ms id 0 n, ⟨upd g.hp id (some (.cells cs false)), g.nx⟩)
noncomputable def kSrc (al : Nat → Bool) (esz : Nat) (y : AV) (g : G) : Option (List AV × Nat) := match y with
  | .sl ds m _ => some (ds, m)
  | .ms b off m => match rd g al b with
    | some (.cells ds _) => match frzLK (fun _ => none) depth ((ds.drop off).take (m * esz)) with
      | some ds => some (ds, m)
      | none => none
    | _ => none
  | _ => none
noncomputable def kApp (al : Nat → Bool) (id esz bytes : Nat) (x y : AV) (g : G) : Option (AV × G) := match x with
  | .sl cs n t => match kSrc al esz y g with
    | none => none
    | some (ds, m) =>
      if (n + m) * bytes ≤ 2 ^ 46 ∧ n + m ≤ 2 ^ 62 ∧ cs.length = n * esz ∧ ds.length = m * esz then
        match t with
        | .non => none
        | .rig => if m = 0 then some (.sl cs n .rig, g) else some (.sl (cs ++ ds) (n + m) (.own id esz), ⟨upd g.hp id (some (.tok true)), g.nx⟩)
        | .own tk e => match rd g al tk with
          | some (.tok true) => if e = esz then some (.sl (cs ++ ds) (n + m) (.own id esz), ⟨upd (upd g.hp tk (some (.tok false))) id (some (.tok true)), g.nx⟩) else none
          | _ => none
      else none
  | _ => none
theorem kSrc_ok (al esz y g) : kSrc al esz y g = vSrc al esz y g := by unfold kSrc vSrc; simp only [frzLK_ok]; rfl
theorem kApp_ok (al id esz bytes x y g) : kApp al id esz bytes x y g = vApp al id esz bytes x y g := by
  unfold kApp vApp
  simp only [kSrc_ok]
  rfl
theorem kBsl_ok (id imm n cs g) : kBsl id imm n cs g = vBsl id imm n cs g := by unfold kBsl vBsl; simp only [frzLK_ok]; first | done | rfl
theorem kBoxI_ok (v g) : kBoxI v g = vBoxI v g := by unfold kBoxI vBoxI; simp only [frzLK_ok]; first | done | rfl
noncomputable def kCall (call : CS) (al : Nat → Bool) (id : Nat) (m : Mode) (f : AV) (args : List AV) (g : G) : Option (AV × G) := match f with
  | .fn fid fst caps => match m with
    | .raw => call fid (fst ++ args ++ caps) g
    | .pure => match frzLK (rd g al) depth (fst ++ args ++ caps) with
      | none => none
      | some bs => match call fid bs ⟨fun _ => none, 0⟩ with
        | none => none
        | some (v, g') => match frzK g'.hp depth v with
          | none => none
          | some v => if flat v || ((fst ++ args ++ caps).flatMap (vis (rd g al) depth)).isEmpty then some (v, g) else none
    | .lock => match frzLK (rd g al) depth (fst ++ args ++ caps) with
      | none => none
      | some bs => match call fid bs ⟨fun _ => none, 0⟩ with
        | none => none
        | some (v, g') => match frzK g'.hp depth v with
          | none => none
          | some v => some (v, ⟨lock g.hp ((fst ++ args ++ caps).flatMap (vis (rd g al) depth)), g.nx⟩)
    | .thaw => match frzLK (rd g al) depth (fst ++ args ++ caps) with
      | none => none
      | some bs => match call fid bs ⟨fun _ => none, 0⟩ with
        | some (.mp b 0, g') => match g'.hp b with
          | some (.cells cs false) => match frzLK g'.hp depth cs with
            | some cs' =>
              if ((fst ++ args ++ caps).flatMap (vis (rd g al) depth)).isEmpty && !(cs.flatMap (vis g'.hp depth)).contains b then some (.mp id 0, ⟨upd g.hp id (some (.cells cs' false)), g.nx⟩) else none
            | none => none
          | _ => none
        | _ => none
    | .melt => match frzLK (rd g al) depth (fst ++ args ++ caps) with
      | none => none
      | some bs => match call fid bs ⟨fun _ => none, 0⟩ with
        | some (.ms b 0 n, g') => match g'.hp b with
          | some (.cells cs false) => match frzLK g'.hp depth cs with
            | some cs' =>
              if ((fst ++ args ++ caps).flatMap (vis (rd g al) depth)).isEmpty && !(cs.flatMap (vis g'.hp depth)).contains b then some (.ms id 0 n, ⟨upd g.hp id (some (.cells cs' false)), g.nx⟩) else none
            | none => none
          | _ => none
        | _ => none
  | _ => none
theorem kCall_ok (call al id m f args g) : kCall call al id m f args g = vCall call al id m f args g := by
  unfold kCall vCall
  simp only [frzLK_ok, frzK_ok]
  rfl
abbrev Orc := Nat → List AV → Option AV
noncomputable def kev (b : Env) (t : ET) : Env := fun n => match t.get n with | some v => v | none => b n
noncomputable def putO {α : Type} (d : Option Nat) (v : AV) (t : ET) (k : ET → α) : α := match d with
  | some d => ET.putK v (d + 1) t d k
  | none => k t
theorem putO_ok {α : Type} (b : Env) (d : Option Nat) (v : AV) (t : ET) (k : ET → α) : ∃ t', putO d v t k = k t' ∧ kev b t' = put (kev b t) d v := by
  cases d with
  | none => exact ⟨t, rfl, rfl⟩
  | some d =>
    obtain ⟨t', h1, h2⟩ := ET.putK_ok v (d + 1) t d k (by omega)
    refine ⟨t', h1, ?_⟩
    funext j
    simp only [kev, put, upd, h2]
    by_cases e : j = d
    · simp only [if_pos e]
    · simp only [if_neg e]
noncomputable def ltI (a b : Int) : Bool := Int.rec (motive := fun _ => Bool) (fun m => Int.rec (motive := fun _ => Bool) (fun n => Nat.ble (Nat.add m 1) n) (fun _ => false) b) (fun m => Int.rec (motive := fun _ => Bool) (fun _ => true) (fun n => Nat.ble (Nat.add n 1) m) b) a
theorem ble_dec (m n : Nat) : Nat.ble m n = decide (m ≤ n) := by
  cases h : Nat.ble m n with
  | true => exact (decide_eq_true (Nat.le_of_ble_eq_true h)).symm
  | false => exact (decide_eq_false (fun hh => by rw [Nat.ble_eq_true_of_le hh] at h; cases h)).symm
theorem ltI_ok (a b : Int) : ltI a b = decide (a < b) := by
  cases a with
  | ofNat m =>
    cases b with
    | ofNat n =>
      show Nat.ble (m + 1) n = _
      rw [ble_dec, decide_eq_decide]
      show m + 1 ≤ n ↔ (m : Int) < (n : Int)
      omega
    | negSucc n =>
      show false = _
      refine (decide_eq_false ?_).symm
      show ¬ (m : Int) < Int.negSucc n
      omega
  | negSucc m =>
    cases b with
    | ofNat n =>
      show true = _
      refine (decide_eq_true ?_).symm
      show Int.negSucc m < (n : Int)
      omega
    | negSucc n =>
      show Nat.ble (n + 1) m = _
      rw [ble_dec, decide_eq_decide]
      omega
noncomputable def eqI (a b : Int) : Bool := Int.rec (motive := fun _ => Bool) (fun m => Int.rec (motive := fun _ => Bool) (fun n => Nat.beq m n) (fun _ => false) b) (fun m => Int.rec (motive := fun _ => Bool) (fun _ => false) (fun n => Nat.beq m n) b) a
theorem beq_dec (m n : Nat) : Nat.beq m n = decide (m = n) := by
  cases h : Nat.beq m n with
  | true => exact (decide_eq_true (Nat.eq_of_beq_eq_true h)).symm
  | false => exact (decide_eq_false (Nat.ne_of_beq_eq_false h)).symm
theorem eqI_ok (a b : Int) : eqI a b = (a == b) := by
  have e : (a == b) = decide (a = b) := by rw [Bool.eq_iff_iff]; simp
  rw [e]
  cases a with
  | ofNat m =>
    cases b with
    | ofNat n =>
      show Nat.beq m n = _
      rw [beq_dec, decide_eq_decide]
      show m = n ↔ (m : Int) = (n : Int)
      omega
    | negSucc n => exact (decide_eq_false (fun h => by cases h)).symm
  | negSucc m =>
    cases b with
    | ofNat n => exact (decide_eq_false (fun h => by cases h)).symm
    | negSucc n =>
      show Nat.beq m n = _
      rw [beq_dec, decide_eq_decide]
      omega
noncomputable def wrI (n : Int) : Int := Int.rec (motive := fun _ => Int) (fun m => Bool.rec (motive := fun _ => Int) (IntKind.i64.wrap (.ofNat m)) (.ofNat m) (Nat.ble m 9223372036854775807)) (fun m => Bool.rec (motive := fun _ => Int) (IntKind.i64.wrap (.negSucc m)) (.negSucc m) (Nat.ble m 9223372036854775807)) n
theorem wrI_in {x : Int} (h : -9223372036854775808 ≤ x) (h2 : x ≤ 9223372036854775807) : IntKind.i64.wrap x = x := by
  simp [IntKind.wrap, IntKind.bits, IntKind.signed]
  omega
theorem wrI_ok (n : Int) : wrI n = IntKind.i64.wrap n := by
  cases n with
  | ofNat m =>
    show Bool.rec (motive := fun _ => Int) (IntKind.i64.wrap (.ofNat m)) (.ofNat m) (Nat.ble m 9223372036854775807) = _
    rw [ble_dec]
    by_cases h : m ≤ 9223372036854775807
    · rw [decide_eq_true h]
      exact (wrI_in (x := (m : Int)) (by omega) (by omega)).symm
    · rw [decide_eq_false h]
  | negSucc m =>
    show Bool.rec (motive := fun _ => Int) (IntKind.i64.wrap (.negSucc m)) (.negSucc m) (Nat.ble m 9223372036854775807) = _
    rw [ble_dec]
    by_cases h : m ≤ 9223372036854775807
    · rw [decide_eq_true h]
      exact (wrI_in (x := Int.negSucc m) (by omega) (by omega)).symm
    · rw [decide_eq_false h]
noncomputable def addI (a b : Int) : Int := Int.rec (motive := fun _ => Int) (fun m => Int.rec (motive := fun _ => Int) (fun n => .ofNat (Nat.add m n)) (fun n => Int.add (.ofNat m) (.negSucc n)) b) (fun m => Int.add (.negSucc m) b) a
theorem addI_ok (a b : Int) : addI a b = a + b := by cases a <;> cases b <;> rfl
noncomputable def kII (op : BinOp) : Int → Int → Option AV := BinOp.casesOn (motive := fun _ => Int → Int → Option AV) op
  (fun a b => some (.i .i64 (wrI (addI a b)))) (fun a b => some (.i .i64 (wrI (Int.sub a b)))) (ibin .mul .i64) (ibin .quo .i64) (ibin .rem .i64) (ibin .and .i64) (ibin .or .i64) (ibin .xor .i64)
  (ishift .shl .i64) (ishift .shr .i64) (ibin .andNot .i64) (fun a b => some (.b (eqI a b))) (fun a b => some (.b (!eqI a b))) (fun a b => some (.b (ltI a b))) (fun a b => some (.b (!ltI b a))) (fun a b => some (.b (ltI b a))) (fun a b => some (.b (!ltI a b)))
theorem kII_ok (op : BinOp) (a b : Int) : kII op a b = abin op (.i .i64 a) (.i .i64 b) := by
  cases op
  · show some (AV.i .i64 (wrI (addI a b))) = _
    rw [wrI_ok, addI_ok]; simp [abin, ibin]
  · show some (AV.i .i64 (wrI (a - b))) = _
    rw [wrI_ok]; simp [abin, ibin]
  · show ibin .mul .i64 a b = _; simp [abin]
  · show ibin .quo .i64 a b = _; simp [abin]
  · show ibin .rem .i64 a b = _; simp [abin]
  · show ibin .and .i64 a b = _; simp [abin]
  · show ibin .or .i64 a b = _; simp [abin]
  · show ibin .xor .i64 a b = _; simp [abin]
  · show ishift .shl .i64 a b = _; simp [abin]
  · show ishift .shr .i64 a b = _; simp [abin]
  · show ibin .andNot .i64 a b = _; simp [abin]
  · show some (AV.b (eqI a b)) = _
    rw [eqI_ok]; simp [abin, ibin]
  · show some (AV.b (!eqI a b)) = _
    rw [eqI_ok]; simp only [abin, ibin, if_true]; rfl
  · show some (AV.b (ltI a b)) = _
    rw [ltI_ok]; simp [abin, ibin]
  · show some (AV.b (!ltI b a)) = _
    rw [ltI_ok]; simp [abin, ibin]
    rw [← decide_not, decide_eq_decide]; omega
  · show some (AV.b (ltI b a)) = _
    rw [ltI_ok]; simp [abin, ibin]
  · show some (AV.b (!ltI a b)) = _
    rw [ltI_ok]; simp [abin, ibin]
    rw [← decide_not, decide_eq_decide]; omega
noncomputable def kBin (op : BinOp) (x y : AV) : Option AV := match x with
  | .i k a => (match k with
    | .i64 => (match y with
      | .i k' b => (match k' with
        | .i64 => kII op a b
        | k' => abin op (.i .i64 a) (.i k' b))
      | y => abin op (.i .i64 a) y)
    | k => abin op (.i k a) y)
  | x => abin op x y
theorem kBin_ok (op : BinOp) (x y : AV) : kBin op x y = abin op x y := by
  cases x with
  | i k a =>
    cases k <;> first
      | rfl
      | (cases y with
        | i k' b => cases k' <;> first | rfl | exact kII_ok op a b
        | _ => rfl)
  | _ => rfl
noncomputable def frcR (r : Option (AV × G)) : Option (AV × G) := match r with
  | some (v, g) => frcV v fun v => some (v, g)
  | none => none
theorem frcR_ok (r : Option (AV × G)) : frcR r = r := by
  cases r with
  | none => rfl
  | some p =>
    obtain ⟨v, g⟩ := p
    show frcV v (fun v => some (v, g)) = _
    rw [frcV_ok]
abbrev KO := Orc → CS → (Nat → Bool) → Nat → Nat → Env → G → Option (AV × G)
noncomputable def ko_mv (x : Opd) : KO := fun _ _ _ _ _ e g => some (x.ev e, g)
noncomputable def ko_pick (c a b : Opd) : KO := fun _ _ _ _ _ e g => vPick (c.ev e) (a.ev e) (b.ev e) g
noncomputable def ko_new (zero : List AV) : KO := fun _ _ _ _ id _ g => some (.mp id 0, ⟨upd g.hp id (some (.cells zero false)), g.nx⟩)
noncomputable def ko_box (x : Opd) : KO := fun _ _ _ _ id e g => vBox id (x.ev e) g
noncomputable def ko_boxI (x : Opd) : KO := fun _ _ _ _ _ e g => kBoxI (x.ev e) g
noncomputable def ko_build (zero : List AV) (parts : List (Nat × Nat × Opd)) : KO := fun _ _ _ _ _ e g => frcR (vMapL .agg g (fill e zero parts))
noncomputable def ko_bsl (imm : Bool) (n : Nat) (zero : List AV) (parts : List (Nat × Nat × Opd)) : KO := fun _ _ _ _ id e g => frcR (kBsl id imm n (fill e zero parts) g)
noncomputable def ko_ld (agg : Option Nat) (x : Opd) : KO := fun _ _ al _ _ e g => vLd al agg (x.ev e) g
noncomputable def ko_st (n : Nat) (a x : Opd) : KO := fun _ _ al _ _ e g => vSt al n (a.ev e) (x.ev e) g
noncomputable def ko_stL (n : Nat) (a x : Opd) : KO := fun _ _ al lo _ e g => vSt (fun i => decide (lo ≤ i) && al i) n (a.ev e) (x.ev e) g
noncomputable def ko_ldF (agg : Option Nat) (x : Opd) : KO := fun _ _ al _ _ e g => vLdF al agg (x.ev e) g
noncomputable def ko_stW (n : Nat) (a x : Opd) : KO := fun _ _ al _ _ e g => vSt al n (a.ev e) (x.ev e) g
noncomputable def ko_ldQ (agg : Option Nat) (x : Opd) (t : Nat) : KO := fun _ _ al _ _ e g => vLdQ al agg (x.ev e) (e t) g
noncomputable def ko_stN (n : Nat) (a x : Opd) (ts : List Nat) : KO := fun _ _ al _ _ e g => vStN al n (a.ev e) (x.ev e) (ts.map e) g
noncomputable def ko_nilck (x : Opd) : KO := fun _ _ _ _ _ e g => vNil (x.ev e) g
noncomputable def ko_bin (op : BinOp) (x y : Opd) : KO := fun _ _ _ _ _ e g => frcR (vMap g (kBin op (x.ev e) (y.ev e)))
noncomputable def ko_eqb (neg : Bool) (x y : Opd) : KO := fun _ _ _ _ _ e g => frcR (vMap g (negb neg (aeqb (x.ev e) (y.ev e))))
noncomputable def ko_eqs (neg : Bool) (x : Opd) : KO := fun _ _ _ _ _ e g => frcR (vMap g (negb neg (aeqs (x.ev e))))
noncomputable def ko_eqn (neg : Bool) (x y : Opd) : KO := fun _ _ _ _ _ e g => frcR (vMap g (negb neg (aeqn (x.ev e) (y.ev e))))
noncomputable def ko_eqa (neg : Bool) (ks : List Nat) (x y : Opd) : KO := fun _ _ _ _ _ e g => frcR (vMap g (negb neg (aeqa ks (x.ev e) (y.ev e))))
noncomputable def ko_un (op : UnOp) (x : Opd) : KO := fun _ _ _ _ _ e g => frcR (vMap g (aun op (x.ev e)))
noncomputable def ko_conv (k : IntKind) (x : Opd) : KO := fun _ _ _ _ _ e g => frcR (vConv k (x.ev e) g)
noncomputable def ko_mkfn (f : Nat) (fst caps : List Opd) : KO := fun _ _ _ _ _ e g => some (.fn f (fst.map (·.ev e)) (caps.map (·.ev e)), g)
noncomputable def ko_mkmap : KO := fun _ _ _ _ id _ g => some (.mm id, ⟨upd g.hp id (some (.map [])), g.nx⟩)
noncomputable def ko_mput (m k v : Opd) : KO := fun _ _ al _ _ e g => vMput al (m.ev e) (k.ev e) (v.ev e) g
noncomputable def ko_mget (m k : Opd) : KO := fun _ _ al _ _ e g => vMget al (m.ev e) (k.ev e) g
noncomputable def ko_mksl (zero : List AV) (esz bytes : Nat) (len cap : Opd) : KO := fun _ _ _ _ id e g => frcR (vMksl id zero esz bytes (len.ev e) (cap.ev e) g)
noncomputable def ko_slice (esz : Nat) (x : Opd) (lo hi mx : Option Opd) : KO := fun _ _ _ _ _ e g => frcR (vSlice esz (x.ev e) (evo e lo) (evo e hi) (evo e mx) g)
noncomputable def ko_fa (off : Nat) (x : Opd) : KO := fun _ _ _ _ _ e g => vFa off (x.ev e) g
noncomputable def ko_fld (off : Nat) (agg : Option Nat) (x : Opd) : KO := fun _ _ _ _ _ e g => vFld off agg (x.ev e) g
noncomputable def ko_ia (esz : Nat) (x i : Opd) : KO := fun _ _ _ _ _ e g => vIa esz (x.ev e) (i.ev e) g
noncomputable def ko_iaa (len esz : Nat) (x i : Opd) : KO := fun _ _ _ _ _ e g => vIaa len esz (x.ev e) (i.ev e) g
noncomputable def ko_idx (len esz : Nat) (agg : Option Nat) (x i : Opd) : KO := fun _ _ _ _ _ e g => vIdx len esz agg (x.ev e) (i.ev e) g
noncomputable def ko_sidx (x i : Opd) : KO := fun _ _ _ _ _ e g => frcR (vSidx (x.ev e) (i.ev e) g)
noncomputable def ko_ext (i : Nat) (x : Opd) : KO := fun _ _ _ _ _ e g => vExt i (x.ev e) g
noncomputable def ko_len (x : Opd) : KO := fun _ _ _ _ _ e g => vLen (x.ev e) g
noncomputable def ko_slen (x : Opd) : KO := fun _ _ _ _ _ e g => frcR (vSlen (x.ev e) g)
noncomputable def ko_sslice (x : Opd) (lo hi : Option Opd) : KO := fun _ _ _ _ _ e g => frcR (vSslice (x.ev e) (evo e lo) (evo e hi) g)
noncomputable def ko_mx (x y : Opd) : KO := fun _ _ _ _ _ e g => frcR (vMx (x.ev e) (y.ev e) g)
noncomputable def ko_mn (x y : Opd) : KO := fun _ _ _ _ _ e g => frcR (vMn (x.ev e) (y.ev e) g)
noncomputable def ko_app (esz bytes : Nat) (x y : Opd) : KO := fun _ _ al _ id e g => frcR (kApp al id esz bytes (x.ev e) (y.ev e) g)
noncomputable def ko_appM (esz bytes : Nat) (x y : Opd) : KO := fun _ _ al _ id e g => frcR (vAppM al id esz bytes (x.ev e) (y.ev e) g)
noncomputable def ko_clr (esz : Nat) (zero : List AV) (x : Opd) : KO := fun _ _ al _ _ e g => frcR (vClr al esz zero (x.ev e) g)
noncomputable def ko_cutM (esz : Nat) (x hi : Opd) : KO := fun _ _ al _ id e g => frcR (vCutM al id esz (x.ev e) (hi.ev e) g)
noncomputable def ko_bad : KO := fun _ _ _ _ _ _ _ => none
noncomputable def ko_pure (f : Opd) (args : List Opd) : KO := fun orc call al _ id e g => match f.ev e with
  | .fn fid fst caps => (match frzLK (rd g al) depth (fst ++ args.map (·.ev e) ++ caps) with
    | some bs => (match orc fid bs with
      | some v => frcV v fun v => if flat v || ((fst ++ args.map (·.ev e) ++ caps).flatMap (vis (rd g al) depth)).isEmpty then some (v, g) else none
      | none => frcR (kCall call al id .pure (f.ev e) (args.map (·.ev e)) g))
    | none => none)
  | _ => none
noncomputable def ko_call (m : Mode) (f : Opd) (args : List Opd) : KO := Mode.casesOn (motive := fun _ => KO) m (ko_pure f args)
  (fun _ call al _ id e g => frcR (kCall call al id .lock (f.ev e) (args.map (·.ev e)) g))
  (fun _ call al _ id e g => frcR (kCall call al id .thaw (f.ev e) (args.map (·.ev e)) g))
  (fun _ call al _ id e g => frcR (kCall call al id .raw (f.ev e) (args.map (·.ev e)) g))
  (fun _ call al _ id e g => frcR (kCall call al id .melt (f.ev e) (args.map (·.ev e)) g))
section
variable (orc : Orc)
noncomputable def opK (call : CS) (al : Nat → Bool) (lo id : Nat) (op : AOp) (e : Env) (g : G) : Option (AV × G) :=
  AOp.casesOn (motive := fun _ => KO) op ko_mv ko_pick ko_new ko_box ko_boxI ko_build ko_bsl ko_ld ko_ldF ko_ldQ ko_st ko_stL ko_stW ko_stN ko_nilck ko_bin ko_eqb ko_eqn ko_eqs ko_eqa ko_un ko_conv ko_mkfn ko_mkmap ko_mput ko_mget ko_mksl ko_slice ko_fa ko_fld ko_ia ko_iaa ko_idx ko_sidx ko_ext ko_len ko_slen ko_sslice ko_mx ko_mn ko_app ko_appM ko_cutM ko_clr ko_bad ko_call orc call al lo id e g
noncomputable def regK (call : CS) (b : Env) (draw : Bool) (base : Nat) (ops : List AOper) : Nat → ET → G → Option (ET × G) :=
  List.rec (motive := fun _ => Nat → ET → G → Option (ET × G)) (fun _ t g => some (t, g)) (fun o _ ih j t g =>
    match wanted (kev b t) o.grd with
    | true => match opK orc call (allow draw base o.pre) base (base + j) o.op (kev b t) g with
      | some (v, g) => putO o.dst v t fun t => ih (j + 1) t g
      | none => none
    | false => putO o.dst .undef t fun t => ih (j + 1) t g) ops
noncomputable def iterK (f : ET → G → Option (Out × ET × G)) (k : Nat) : ET → G → Option (Out × ET × G) :=
  Nat.rec (motive := fun _ => ET → G → Option (Out × ET × G)) (fun _ _ => none) (fun _ ih t g => match f t g with
    | some (.nrm, t, g) => ih t g
    | r => r) k
noncomputable def codeK (call : CS) (b : Env) (k : Nat) (c : ACode) : ET → G → Option (Out × ET × G) :=
  ACode.rec (motive := fun _ => ET → G → Option (Out × ET × G))
    (fun t g => some (.nrm, t, g))
    (fun draw ops t g => frcN g.nx fun base => frcN (base + ops.length) fun nx => match regK orc call b draw base ops 0 t ⟨g.hp, nx⟩ with
      | some (t, g) => some (.nrm, t, g)
      | none => none)
    (fun _ _ fa fb t g => match fa t g with
      | some (.nrm, t, g) => fb t g
      | r => r)
    (fun c _ _ ft ff t g => match c.ev (kev b t) with
      | .b x => Bool.rec (motive := fun _ => Option (Out × ET × G)) (ff t g) (ft t g) x
      | _ => none)
    (fun id _ fc t g => match fc t g with
      | some (.ext n, t, g) => some (Bool.rec (motive := fun _ => Out) (.ext n) .nrm (Nat.beq n id), t, g)
      | r => r)
    (fun n _ fc t g => fc t ⟨lock g.hp (vis g.hp depth (kev b t n)), g.nx⟩)
    (fun n _ fc t g => fc t ⟨lock g.hp (ids1 (kev b t n)), g.nx⟩)
    (fun n _ fc t g => match frzK g.hp depth (kev b t n) with
      | some v => ET.putK v (n + 1) t n fun t' => fc t' ⟨lock g.hp (vis g.hp depth (kev b t n)), g.nx⟩
      | none => none)
    (fun _ _ _ _ => none)
    (fun _ fc t g => fc t g)
    (fun t g => some (.nrm, t, g))
    (fun _ fc t g => iterK fc k t g)
    (fun id t g => some (.ext id, t, g))
    (fun t g => some (.ret, t, g)) c
variable (F : Funs)
noncomputable def callK (k : Nat) : CS :=
  Nat.rec (motive := fun _ => CS) (fun _ _ _ => none) (fun k ih f args g => match F f with
    | none => none
    | some fn => match codeK orc ih (argEnv args) k fn.body .leaf g with
      | some (.nrm, t, g) => (resE fn.res (kev (argEnv args) t) g).map (·, g)
      | some (.ret, t, g) => (resE fn.res (kev (argEnv args) t) g).map (·, g)
      | _ => none) k
end
def OrcOk (F : Funs) (orc : Orc) : Prop := ∀ f bs v, orc f bs = some v → pureS F f bs = some v
section
variable {F : Funs} {orc : Orc} (ho : OrcOk F orc)
include ho
theorem opK_ok {call : CS} (hc : CLe call (callS F)) {al lo id op e g r} (h : opK orc call al lo id op e g = some r) : opE (callS F) al lo id op e g = some r := by
  cases op with
  | boxI x =>
    have h : kBoxI (x.ev e) g = some r := h
    rw [kBoxI_ok] at h; exact h
  | build z ps =>
    have h : frcR (vMapL .agg g (fill e z ps)) = some r := h
    rw [frcR_ok] at h; exact h
  | bsl imm n z ps =>
    have h : frcR (kBsl id imm n (fill e z ps) g) = some r := h
    rw [frcR_ok, kBsl_ok] at h; exact h
  | bin o x y =>
    have h : frcR (vMap g (kBin o (x.ev e) (y.ev e))) = some r := h
    rw [frcR_ok, kBin_ok] at h; exact h
  | eqb neg x y =>
    have h : frcR (vMap g (negb neg (aeqb (x.ev e) (y.ev e)))) = some r := h
    rw [frcR_ok] at h; exact h
  | eqn neg x y =>
    have h : frcR (vMap g (negb neg (aeqn (x.ev e) (y.ev e)))) = some r := h
    rw [frcR_ok] at h; exact h
  | eqs neg x =>
    have h : frcR (vMap g (negb neg (aeqs (x.ev e)))) = some r := h
    rw [frcR_ok] at h; exact h
  | eqa neg ks x y =>
    have h : frcR (vMap g (negb neg (aeqa ks (x.ev e) (y.ev e)))) = some r := h
    rw [frcR_ok] at h; exact h
  | un o x =>
    have h : frcR (vMap g (aun o (x.ev e))) = some r := h
    rw [frcR_ok] at h; exact h
  | conv k x =>
    have h : frcR (vConv k (x.ev e) g) = some r := h
    rw [frcR_ok] at h; exact h
  | mksl z esz bytes len cap =>
    have h : frcR (vMksl id z esz bytes (len.ev e) (cap.ev e) g) = some r := h
    rw [frcR_ok] at h; exact h
  | slice esz x lo' hi mx =>
    have h : frcR (vSlice esz (x.ev e) (evo e lo') (evo e hi) (evo e mx) g) = some r := h
    rw [frcR_ok] at h; exact h
  | sidx x i =>
    have h : frcR (vSidx (x.ev e) (i.ev e) g) = some r := h
    rw [frcR_ok] at h; exact h
  | slen x =>
    have h : frcR (vSlen (x.ev e) g) = some r := h
    rw [frcR_ok] at h; exact h
  | sslice x lo' hi =>
    have h : frcR (vSslice (x.ev e) (evo e lo') (evo e hi) g) = some r := h
    rw [frcR_ok] at h; exact h
  | mx x y =>
    have h : frcR (vMx (x.ev e) (y.ev e) g) = some r := h
    rw [frcR_ok] at h; exact h
  | mn x y =>
    have h : frcR (vMn (x.ev e) (y.ev e) g) = some r := h
    rw [frcR_ok] at h; exact h
  | app esz bytes x y =>
    have h : frcR (kApp al id esz bytes (x.ev e) (y.ev e) g) = some r := h
    rw [frcR_ok, kApp_ok] at h; exact h
  | appM esz bytes x y =>
    have h : frcR (vAppM al id esz bytes (x.ev e) (y.ev e) g) = some r := h
    rw [frcR_ok] at h; exact h
  | clr esz z x =>
    have h : frcR (vClr al esz z (x.ev e) g) = some r := h
    rw [frcR_ok] at h; exact h
  | cutM esz x hi =>
    have h : frcR (vCutM al id esz (x.ev e) (hi.ev e) g) = some r := h
    rw [frcR_ok] at h; exact h
  | bad => cases h
  | call m f args =>
    cases m with
    | raw =>
      have h : frcR (kCall call al id .raw (f.ev e) (args.map (·.ev e)) g) = some r := h
      rw [frcR_ok, kCall_ok] at h
      exact opE_mono (op := .call .raw f args) hc h
    | lock =>
      have h : frcR (kCall call al id .lock (f.ev e) (args.map (·.ev e)) g) = some r := h
      rw [frcR_ok, kCall_ok] at h
      exact opE_mono (op := .call .lock f args) hc h
    | thaw =>
      have h : frcR (kCall call al id .thaw (f.ev e) (args.map (·.ev e)) g) = some r := h
      rw [frcR_ok, kCall_ok] at h
      exact opE_mono (op := .call .thaw f args) hc h
    | melt =>
      have h : frcR (kCall call al id .melt (f.ev e) (args.map (·.ev e)) g) = some r := h
      rw [frcR_ok, kCall_ok] at h
      exact opE_mono (op := .call .melt f args) hc h
    | pure =>
      have h : ko_pure f args orc call al lo id e g = some r := h
      unfold ko_pure at h
      split at h
      · rename_i fid fst caps hf
        split at h
        · rename_i bs hb
          split at h
          · rename_i v hv
            rw [frcV_ok] at h
            split at h
            · rename_i hfl
              cases h
              show vPure F al (f.ev e) (args.map (·.ev e)) g = _
              rw [hf]
              rw [frzLK_ok] at hb
              exact vPure_ok hb (ho _ _ _ hv) hfl
            · cases h
          · rw [frcR_ok, kCall_ok] at h
            exact opE_mono (op := .call .pure f args) hc h
        · cases h
      · cases h
  | _ => exact h
theorem regK_ok {call : CS} (hc : CLe call (callS F)) {b : Env} {draw : Bool} {base : Nat} : ∀ {ops : List AOper} {j : Nat} {t : ET} {g : G} {t' g'}, regK orc call b draw base ops j t g = some (t', g') → regE (callS F) draw base j ops (kev b t) g = some (kev b t', g')
  | [], j, t, g, t', g', h => by cases h; rfl
  | o :: os, j, t, g, t', g', h => by
    have h : (match wanted (kev b t) o.grd with
      | true => match opK orc call (allow draw base o.pre) base (base + j) o.op (kev b t) g with
        | some (v, g) => putO o.dst v t fun t => regK orc call b draw base os (j + 1) t g
        | none => none
      | false => putO o.dst .undef t fun t => regK orc call b draw base os (j + 1) t g) = some (t', g') := h
    simp only [regE]
    cases hw : wanted (kev b t) o.grd with
    | true =>
      rw [hw] at h
      simp only [if_true]
      cases hop : opK orc call (allow draw base o.pre) base (base + j) o.op (kev b t) g with
      | none => rw [hop] at h; cases h
      | some r =>
        obtain ⟨v, g1⟩ := r
        rw [hop] at h
        simp only at h
        rw [opK_ok ho hc hop]
        obtain ⟨t1, e1, e2⟩ := putO_ok b o.dst v t fun t => regK orc call b draw base os (j + 1) t g1
        rw [e1] at h
        simp only
        rw [← e2]
        exact regK_ok hc h
    | false =>
      rw [hw] at h
      simp only [Bool.false_eq_true, if_false]
      obtain ⟨t1, e1, e2⟩ := putO_ok b o.dst .undef t fun t => regK orc call b draw base os (j + 1) t g
      simp only [e1] at h
      rw [← e2]
      exact regK_ok hc h
theorem codeK_ok {call : CS} (hc : CLe call (callS F)) {b : Env} {k : Nat} : ∀ {c : ACode} {t : ET} {g : G} {o t' g'}, codeK orc call b k c t g = some (o, t', g') → codeS F c (kev b t) g = some (o, kev b t', g') := by
  intro c
  induction c with
  | skip => intro t g o t' g' h; cases h; exact codeS_skip F _ _
  | lab => intro t g o t' g' h; cases h; exact codeS_lab F _ _
  | ext id => intro t g o t' g' h; cases h; exact codeS_ext F _ _ _
  | ret => intro t g o t' g' h; cases h; exact codeS_ret F _ _
  | scp c ih => intro t g o t' g' h; rw [codeS_scp]; exact ih h
  | lck n c ih => intro t g o t' g' h; rw [codeS_lck]; exact ih h
  | lckS n c ih => intro t g o t' g' h; rw [codeS_lckS]; exact ih h
  | tmp c ih =>
    intro t g o t' g' h
    have h : (none : Option (Out × ET × G)) = some (o, t', g') := h
    cases h
  | imm n c ih =>
    intro t g o t' g' h
    have h : (match frzK g.hp depth (kev b t n) with
      | some v => ET.putK v (n + 1) t n fun t' => codeK orc call b k c t' ⟨lock g.hp (vis g.hp depth (kev b t n)), g.nx⟩
      | none => none) = some (o, t', g') := h
    rw [frzK_ok] at h
    rw [codeS_imm]
    cases hf : frz g.hp depth (kev b t n) with
    | none => rw [hf] at h; cases h
    | some v =>
      rw [hf] at h
      obtain ⟨t1, e1, e2⟩ := putO_ok b (some n) v t fun t' => codeK orc call b k c t' ⟨lock g.hp (vis g.hp depth (kev b t n)), g.nx⟩
      have e1' : ET.putK v (n + 1) t n (fun t' => codeK orc call b k c t' ⟨lock g.hp (vis g.hp depth (kev b t n)), g.nx⟩) = _ := e1
      simp only [e1'] at h
      have e3 : upd (kev b t) n v = kev b t1 := e2.symm
      simp only [e3]
      exact ih h
  | reg draw ops =>
    intro t g o t' g' h
    have h : (frcN g.nx fun base => frcN (base + ops.length) fun nx => match regK orc call b draw base ops 0 t ⟨g.hp, nx⟩ with
      | some (t, g) => some (Out.nrm, t, g)
      | none => none) = some (o, t', g') := h
    simp only [frcN_ok] at h
    rw [codeS_reg]
    cases hr : regK orc call b draw g.nx ops 0 t ⟨g.hp, g.nx + ops.length⟩ with
    | none => rw [hr] at h; cases h
    | some r =>
      obtain ⟨t1, g1⟩ := r
      rw [hr] at h
      cases h
      rw [regK_ok ho hc hr]
  | seq x y ihx ihy =>
    intro t g o t' g' h
    have h : (match codeK orc call b k x t g with
      | some (.nrm, t, g) => codeK orc call b k y t g
      | r => r) = some (o, t', g') := h
    rw [codeS_seq]
    cases hx : codeK orc call b k x t g with
    | none => rw [hx] at h; cases h
    | some r =>
      obtain ⟨o1, t1, g1⟩ := r
      rw [hx] at h
      rw [ihx hx]
      cases o1 with
      | nrm => exact ihy h
      | ext n => cases h; rfl
      | ret => cases h; rfl
  | cond x y z ihy ihz =>
    intro t g o t' g' h
    have h : (match x.ev (kev b t) with
      | .b w => Bool.rec (motive := fun _ => Option (Out × ET × G)) (codeK orc call b k z t g) (codeK orc call b k y t g) w
      | _ => none) = some (o, t', g') := h
    rw [codeS_cond]
    generalize x.ev (kev b t) = v at h ⊢
    cases v with
    | b w =>
      cases w with
      | true => exact ihy h
      | false => exact ihz h
    | _ => cases h
  | blk id c ih =>
    intro t g o t' g' h
    have h : (match codeK orc call b k c t g with
      | some (.ext n, t, g) => some (Bool.rec (motive := fun _ => Out) (.ext n) .nrm (Nat.beq n id), t, g)
      | r => r) = some (o, t', g') := h
    rw [codeS_blk]
    cases hx : codeK orc call b k c t g with
    | none => rw [hx] at h; cases h
    | some r =>
      obtain ⟨o1, t1, g1⟩ := r
      rw [hx] at h
      rw [ih hx]
      cases o1 with
      | nrm => cases h; rfl
      | ret => cases h; rfl
      | ext n =>
        simp only at h ⊢
        cases hb : Nat.beq n id with
        | true => rw [hb] at h; cases h; rw [if_pos (Nat.eq_of_beq_eq_true hb)]
        | false => rw [hb] at h; cases h; rw [if_neg (Nat.ne_of_beq_eq_false hb)]
  | loop c ih =>
    intro t g o t' g' h
    have key : ∀ (j : Nat) (t : ET) (g : G), iterK (codeK orc call b k c) j t g = some (o, t', g') → codeS F (.loop c) (kev b t) g = some (o, kev b t', g') := by
      intro j
      induction j with
      | zero => intro t g h; cases h
      | succ j ihj =>
        intro t g h
        have h : (match codeK orc call b k c t g with
          | some (.nrm, t, g) => iterK (codeK orc call b k c) j t g
          | r => r) = some (o, t', g') := h
        rw [codeS_loop]
        cases hx : codeK orc call b k c t g with
        | none => rw [hx] at h; cases h
        | some r =>
          obtain ⟨o1, t1, g1⟩ := r
          rw [hx] at h
          rw [ih hx]
          cases o1 with
          | nrm => exact ihj _ _ h
          | ext n => cases h; rfl
          | ret => cases h; rfl
    exact key k t g h
theorem callK_ok : ∀ (k : Nat), CLe (callK orc F k) (callS F)
  | 0 => fun _ _ _ _ h => by cases h
  | k + 1 => fun f asx g r h => by
    have h : (match F f with
      | none => none
      | some fn => match codeK orc (callK orc F k) (argEnv asx) k fn.body .leaf g with
        | some (.nrm, t, g) => (resE fn.res (kev (argEnv asx) t) g).map (·, g)
        | some (.ret, t, g) => (resE fn.res (kev (argEnv asx) t) g).map (·, g)
        | _ => none) = some r := h
    rw [callS_eq]
    cases hF : F f with
    | none => rw [hF] at h; cases h
    | some fn =>
      rw [hF] at h
      simp only at h ⊢
      have e0 : kev (argEnv asx) .leaf = argEnv asx := rfl
      cases hx : codeK orc (callK orc F k) (argEnv asx) k fn.body .leaf g with
      | none => rw [hx] at h; cases h
      | some q =>
        obtain ⟨o1, t1, g1⟩ := q
        rw [hx] at h
        have := codeK_ok ho (callK_ok k) hx
        rw [e0] at this
        rw [this]
        cases o1 with
        | nrm => exact h
        | ext n => cases h
        | ret => exact h
noncomputable def evK (orc : Orc) (F : Funs) (k : Nat) (rs : List ARes) (c : ACode) (e : Env) (g : G) : Bool :=
  match codeK orc (callK orc F k) e k c .leaf g with
  | some (.nrm, t, g) => (match resE rs (kev e t) g with | some v => (match frzK g.hp depth v with | some (.b x) => x | _ => false) | none => false)
  | some (.ret, t, g) => (match resE rs (kev e t) g with | some v => (match frzK g.hp depth v with | some (.b x) => x | _ => false) | none => false)
  | _ => false
theorem W_eval (k : Nat) {rs : List ARes} {c : ACode} {e : Env} {g : G} (h : evK orc F k rs c e g = true) : W F c e g (retQ rs (.b true)) := by
  unfold evK at h
  have fin : ∀ (t : ET) (g : G), (match resE rs (kev e t) g with | some v => (match frzK g.hp depth v with | some (.b x) => x | _ => false) | none => false) = true → (match resE rs (kev e t) g with | some v0 => frz g.hp depth v0 | none => none) = some (.b true) := by
    intro t g h
    cases hr : resE rs (kev e t) g with
    | none => rw [hr] at h; cases h
    | some v =>
      rw [hr] at h
      simp only [frzK_ok] at h ⊢
      cases hf : frz g.hp depth v with
      | none => rw [hf] at h; cases h
      | some w =>
        rw [hf] at h
        cases w <;> first | (cases h; done) | (simp only at h; subst h; rfl)
  split at h
  · rename_i t g1 hx
    exact ⟨_, _, _, codeK_ok ho (callK_ok ho k) hx, fin t g1 h⟩
  · rename_i t g1 hx
    exact ⟨_, _, _, codeK_ok ho (callK_ok ho k) hx, fin t g1 h⟩
  · cases h
theorem pure_eval (k : Nat) {f : Nat} {fn : AFun} {asx : List AV} (hF : F f = some fn) (h : evK orc F k fn.res fn.body (argEnv asx) g0 = true) : pureS F f asx = some (.b true) :=
  pure_of hF (W_eval ho k h)
end
def orc0 : Orc := fun _ _ => none
theorem orc0_ok (F : Funs) : OrcOk F orc0 := fun _ _ _ h => by cases h
end Go.Ab
end
section
set_option linter.unusedVariables false
set_option linter.unusedSimpArgs false
namespace Go.Ab
open Go.RowKit
def c0 (num : Nat → Nat) (w : World) : Cx := ⟨num, w.heap.size, fun _ => True, w, fun _ => (0, 0), fun _ => none⟩
theorem row_calls {P : Program} {num : Nat → Nat} {F : Funs} (hT : Table P num F) (hm : P.follows .mixedOrders = true) {f : Nat} {asx : List AV} {b : Bool} (h : pureS F f asx = some (.b b)) {w : World} {vargs : List Value} (hr : Reps (c0 num w) true asx vargs) :
    Calls P (num f) vargs.toArray w (fun e w' => e = .returned (.bool b) ∧ Below w.heap.size w w') := by
  obtain ⟨k, g', hk⟩ := pureS_bool h
  have K : Ok (c0 num w) 0 := {
    basele := Nat.le_refl _
    cells := fun _ _ _ h => by cases h
    maps := fun _ _ h => by cases h
    toks := fun _ h => by cases h
    inj := fun _ _ _ h => by obtain ⟨_, h, _⟩ := h; cases h
    fresh := fun _ _ => rfl }
  have := ((callE_ok hT hm k).2 f asx g0 _ _ hk).2 (c0 num w) vargs rfl rfl K hr
  refine Calls.mono this.1 fun e w' ⟨val, c', h1, h2, E, _, _, hrep⟩ => ?_
  cases hrep
  exact ⟨h1, h2 ▸ E.below⟩
def intsC (l : List Int) : List AV := l.map fun v => .i .i64 v
def pairsC (l : List (Int × Int)) : List AV := l.flatMap fun p => [.i .i64 p.1, .i .i64 p.2]
end Go.Ab
end
section
set_option linter.unusedVariables false
set_option linter.unusedSimpArgs false
namespace Go.Ab
abbrev Rw := Nat → BitVec 64
def U (x : BitVec 64) : AV := .i .u64 (x.toNat : Int)
def rowsC (R : Rw) : List AV := (List.range 40).map fun a => U (R a)
def relC (n : Nat) (R : Rw) : List AV := .i .i64 n :: rowsC R
theorem rowsC_len (R : Rw) : (rowsC R).length = 40 := by simp [rowsC]
theorem rowsC_get {R : Rw} {a : Nat} (h : a < 40) : (rowsC R)[a]? = some (U (R a)) := by
  simp [rowsC, h]
end Go.Ab
end
section
set_option linter.unusedVariables false
set_option linter.unusedSimpArgs false
namespace Go.Ab
variable {F : Funs}
def has (n : Nat) (R : Rw) (a b : Int) : Bool := decide (0 ≤ a ∧ a < n ∧ 0 ≤ b ∧ b < n) && (R a.toNat).getLsbD b.toNat
end Go.Ab
end
section
set_option linter.unusedVariables false
set_option linter.unusedSimpArgs false
namespace Go.Ab
variable {F : Funs}
theorem i64_wrap {x : Int} (h : -9223372036854775808 ≤ x) (h2 : x ≤ 9223372036854775807) : IntKind.i64.wrap x = x := by
  simp [IntKind.wrap, IntKind.bits, IntKind.signed, IntKind.min, IntKind.max]
  omega
end Go.Ab
end
section
set_option linter.unusedVariables false
set_option linter.unusedSimpArgs false
namespace Go.Ab
variable {F : Funs}
def Live (g : G) (esz : Nat) (t : Tok) : Prop := t = .rig ∨ ∃ τ, t = .own τ esz ∧ g.hp τ = some (.tok true) ∧ τ < g.nx
end Go.Ab
end
section
set_option linter.unusedVariables false
set_option linter.unusedSimpArgs false
namespace Go.Ab
def hb (R : Rw) (a b : Nat) : Bool := (R a).getLsbD b
inductive Thru (r : Nat → Nat → Prop) (k : Nat) : Nat → Nat → Prop
  | one {a b} : r a b → Thru r k a b
  | join {a c b} : c < k → Thru r k a c → Thru r k c b → Thru r k a b
theorem Thru.mono {r : Nat → Nat → Prop} {k k' : Nat} (h : k ≤ k') {a b : Nat} (t : Thru r k a b) : Thru r k' a b := by
  induction t with
  | one h => exact .one h
  | join hc _ _ ih1 ih2 => exact .join (by omega) ih1 ih2
inductive Steps' (r : Nat → Nat → Prop) : Nat → Nat → Prop
  | one {a b} : r a b → Steps' r a b
  | join {a c b} : Steps' r a c → Steps' r c b → Steps' r a b
end Go.Ab
end
section
set_option linter.unusedVariables false
set_option linter.unusedSimpArgs false
namespace Go.Ab
variable {F : Funs}
theorem t1_neg (u n : Int) (e1 : u % n + n * (u / n) = u) : -u = (n - u % n) + n * (-(u / n) - 1) := by
  have e2 : n * (-(u / n) - 1) = -(n * (u / n)) - n := by rw [Int.mul_sub, Int.mul_neg, Int.mul_one]
  rw [e2]
  generalize n * (u / n) = c at *
  generalize u % n = b at *
  omega
theorem tmod_cases {v n : Int} (hn : 0 < n) : (if v.tmod n < 0 then v.tmod n + n else v.tmod n) = v % n := by
  have h2 := Int.emod_nonneg v (by omega : n ≠ 0)
  have h3 := Int.emod_lt_of_pos v hn
  by_cases hv : 0 ≤ v
  · rw [Int.tmod_eq_emod_of_nonneg hv, if_neg (by omega)]
  · obtain ⟨u, rfl⟩ : ∃ u, v = -u := ⟨-v, by omega⟩
    rw [Int.neg_tmod, Int.tmod_eq_emod_of_nonneg (by omega : 0 ≤ u)]
    have h4 := Int.emod_nonneg u (by omega : n ≠ 0)
    have h5 := Int.emod_lt_of_pos u hn
    have e1 := Int.emod_add_mul_ediv u n
    by_cases h6 : u % n = 0
    · rw [h6, Int.neg_zero, if_neg (by omega)]
      exact (Int.emod_eq_zero_of_dvd (Int.dvd_neg.2 (Int.dvd_of_emod_eq_zero h6))).symm
    · rw [if_pos (by omega)]
      have e3 : (-u) % n = n - u % n := by
        rw [t1_neg u n e1, Int.add_mul_emod_self_left, Int.emod_eq_of_lt (by omega) (by omega)]
      rw [e3]
      omega
theorem tmod_bound {v n : Int} (hn : 0 < n) : -n ≤ v.tmod n ∧ v.tmod n < n := by
  refine ⟨?_, Int.tmod_lt_of_pos v hn⟩
  have h1 := tmod_cases (v := v) hn
  have h2 := Int.emod_nonneg v (by omega : n ≠ 0)
  split at h1 <;> omega
def place (v n : Int) : Int := v % n
theorem place_lt {v n : Int} (hn : 0 < n) : 0 ≤ place v n ∧ place v n < n := ⟨Int.emod_nonneg v (by omega), Int.emod_lt_of_pos v hn⟩
theorem sp_place (h10 : F 10 = some A_xlaw00_Place) {v n : Int} (hn : 0 < n) (hb : n ≤ 4611686018427387904) : pureS F 10 [.i .i64 v, .i .i64 n] = some (.i .i64 (place v n)) := by
  refine pure_of h10 ?_
  have h1 := tmod_cases (v := v) hn
  obtain ⟨h2, h3⟩ := tmod_bound (v := v) hn
  unfold place
  by_cases h : v.tmod n < 0
  · have hw : IntKind.i64.wrap (v.tmod n + n) = v.tmod n + n := i64_wrap (by omega) (by omega)
    rw [if_pos h] at h1
    simp (disch := omega) only [A_xlaw00_Place, wp, Nat.reduceAdd, Nat.reduceMul, Nat.reduceSub, b_rem, h, hw]
    rw [h1]
  · rw [if_neg h] at h1
    simp (disch := omega) only [A_xlaw00_Place, wp, Nat.reduceAdd, Nat.reduceMul, Nat.reduceSub, b_rem, h]
    rw [h1]
end Go.Ab
end
section
set_option linter.unusedVariables false
set_option linter.unusedSimpArgs false
namespace Go.Ab
variable {F : Funs}
theorem Steps'.mono {r s : Nat → Nat → Prop} (h : ∀ a b, r a b → s a b) {a b : Nat} (t : Steps' r a b) : Steps' s a b := by
  induction t with
  | one h' => exact .one (h _ _ h')
  | join _ _ i1 i2 => exact .join i1 i2
theorem Steps'.first {r : Nat → Nat → Prop} {a b : Nat} (t : Steps' r a b) : r a b ∨ ∃ c, r a c ∧ Steps' r c b := by
  induction t with
  | one h => exact .inl h
  | @join a c b t1 t2 i1 i2 =>
    rcases i1 with h | ⟨d, h1, h2⟩
    · exact .inr ⟨c, h, t2⟩
    · exact .inr ⟨d, h1, .join h2 t2⟩
end Go.Ab
end
section
set_option linter.unusedVariables false
set_option linter.unusedSimpArgs false
namespace Go.Ab
structure Ev where
  th : Int
  kd : Int
  md : Int
  lc : Int
  vl : Int
  ex : Bool
structure Gr where
  locs : Int
  evs : List Ev
  rf : List Int
  co : List (List Int)
  rmw : List (Int × Int)
  data : List (Int × Int)
  ctrl : List (Int × Int)
  ctrli : List (Int × Int)
def evC (e : Ev) : List AV := [.i .i64 e.th, .i .i64 e.kd, .i .i64 e.md, .i .i64 e.lc, .i .i64 e.vl, .b e.ex]
def evsC (l : List Ev) : List AV := l.flatMap evC
def coC (l : List (List Int)) : List AV := l.map fun c => .sl (intsC c) c.length .non
def grC (g : Gr) : List AV := [.i .i64 g.locs, .sl (evsC g.evs) g.evs.length .non, .sl (intsC g.rf) g.rf.length .non, .sl (coC g.co) g.co.length .non,
  .sl (pairsC g.rmw) g.rmw.length .non, .sl (pairsC g.data) g.data.length .non, .sl (pairsC g.ctrl) g.ctrl.length .non, .sl (pairsC g.ctrli) g.ctrli.length .non]
theorem evsC_len (l : List Ev) : (evsC l).length = l.length * 6 := by
  induction l with
  | nil => rfl
  | cons p l ih => simp only [evsC, List.flatMap_cons, List.length_append, List.length_cons, evC, List.length_nil] at ih ⊢; omega
theorem coC_len (l : List (List Int)) : (coC l).length = l.length := by simp [coC]
theorem splice_ev (e : Ev) : splice (List.replicate 5 (AV.i .i64 0) ++ [.b false]) 0 (evC e) = evC e := rfl
theorem part_22 (a b : AV) : part [a, b] 0 (some 2) = some (.agg [a, b]) := rfl
theorem evC_len (e : Ev) : (evC e).length = 6 := rfl
theorem evC_one (e : Ev) : (evC e).all one = true := rfl
theorem evC_flat (e : Ev) : (evC e).all flat = true := rfl
theorem evC_all (e : Ev) : part (evC e) 0 (some 6) = some (.agg (evC e)) := rfl
theorem ev_th (e : Ev) : part (evC e) 0 none = some (.i .i64 e.th) := rfl
theorem ev_kd (e : Ev) : part (evC e) 1 none = some (.i .i64 e.kd) := rfl
theorem ev_md (e : Ev) : part (evC e) 2 none = some (.i .i64 e.md) := rfl
theorem ev_lc (e : Ev) : part (evC e) 3 none = some (.i .i64 e.lc) := rfl
theorem ev_vl (e : Ev) : part (evC e) 4 none = some (.i .i64 e.vl) := rfl
theorem ev_ex (e : Ev) : part (evC e) 5 none = some (.b e.ex) := rfl
theorem grC_len (g : Gr) : (grC g).length = 8 := rfl
theorem grC_one (g : Gr) : (grC g).all one = true := rfl
theorem grC_all (g : Gr) : part (grC g) 0 (some 8) = some (.agg (grC g)) := rfl
theorem gr_locs (g : Gr) : part (grC g) 0 none = some (.i .i64 g.locs) := rfl
theorem gr_evs (g : Gr) : part (grC g) 1 none = some (.sl (evsC g.evs) g.evs.length .non) := rfl
theorem gr_rf (g : Gr) : part (grC g) 2 none = some (.sl (intsC g.rf) g.rf.length .non) := rfl
theorem gr_co (g : Gr) : part (grC g) 3 none = some (.sl (coC g.co) g.co.length .non) := rfl
theorem gr_rmw (g : Gr) : part (grC g) 4 none = some (.sl (pairsC g.rmw) g.rmw.length .non) := rfl
theorem gr_data (g : Gr) : part (grC g) 5 none = some (.sl (pairsC g.data) g.data.length .non) := rfl
theorem gr_ctrl (g : Gr) : part (grC g) 6 none = some (.sl (pairsC g.ctrl) g.ctrl.length .non) := rfl
theorem gr_ctrli (g : Gr) : part (grC g) 7 none = some (.sl (pairsC g.ctrli) g.ctrli.length .non) := rfl
theorem frz_gr (hp) (g : Gr) : frz hp depth (.agg (grC g)) = some (.agg (grC g)) := by
  refine frz_d_agg ?_
  show frzL hp (7 + 1) _ = _
  simp only [grC, frzL, frz]
theorem frz_ev (hp) (e : Ev) : frz hp depth (.agg (evC e)) = some (.agg (evC e)) := frz_d_agg (frzL_flat (d := 7) (evC_flat e))
theorem vis_gr (hp) (g : Gr) : vis hp depth (.agg (grC g)) = [] := by
  show vis hp (8 + 1) _ = _
  simp only [vis, grC, List.flatMap_cons, List.flatMap_nil, List.nil_append, List.append_nil]
theorem vis_ev (hp) (e : Ev) : vis hp depth (.agg (evC e)) = [] := by
  show vis hp (8 + 1) _ = _
  simp only [vis, evC, List.flatMap_cons, List.flatMap_nil, List.nil_append, List.append_nil]
set_option maxRecDepth 10000 in
theorem gl : type_of% (And.intro (And.intro (And.intro (And.intro (And.intro @evC_len @evC_one) (And.intro @evC_flat (And.intro @evC_all @ev_th))) (And.intro (And.intro @ev_kd @ev_md) (And.intro @ev_lc (And.intro @ev_vl @ev_ex)))) (And.intro (And.intro (And.intro @grC_len @grC_one) (And.intro @grC_all (And.intro @gr_locs @gr_evs))) (And.intro (And.intro @gr_rf (And.intro @gr_co @gr_rmw)) (And.intro @gr_data (And.intro @gr_ctrl @gr_ctrli))))) (And.intro (And.intro (And.intro (And.intro @frz_gr @frz_ev) (And.intro @vis_gr (And.intro @vis_ev @splice_ev))) (And.intro (And.intro @evsC_len @coC_len) (And.intro @o_raw (And.intro @vRaw_fn @res_0)))) (And.intro (And.intro (And.intro @retP_nrm @retP_ret) (And.intro @o_mget (And.intro @vMget_S @mgS_map))) (And.intro (And.intro @o_mkmap (And.intro @o_mput @vMput_S)) (And.intro @mpS_map (And.intro @mpO_none @part_22)))))) := (And.intro (And.intro (And.intro (And.intro (And.intro @evC_len @evC_one) (And.intro @evC_flat (And.intro @evC_all @ev_th))) (And.intro (And.intro @ev_kd @ev_md) (And.intro @ev_lc (And.intro @ev_vl @ev_ex)))) (And.intro (And.intro (And.intro @grC_len @grC_one) (And.intro @grC_all (And.intro @gr_locs @gr_evs))) (And.intro (And.intro @gr_rf (And.intro @gr_co @gr_rmw)) (And.intro @gr_data (And.intro @gr_ctrl @gr_ctrli))))) (And.intro (And.intro (And.intro (And.intro @frz_gr @frz_ev) (And.intro @vis_gr (And.intro @vis_ev @splice_ev))) (And.intro (And.intro @evsC_len @coC_len) (And.intro @o_raw (And.intro @vRaw_fn @res_0)))) (And.intro (And.intro (And.intro @retP_nrm @retP_ret) (And.intro @o_mget (And.intro @vMget_S @mgS_map))) (And.intro (And.intro @o_mkmap (And.intro @o_mput @vMput_S)) (And.intro @mpS_map (And.intro @mpO_none @part_22))))))
end Go.Ab
end
section
set_option linter.unusedVariables false
set_option linter.unusedSimpArgs false
namespace Go.Ab
variable {F : Funs}
structure EcoSt (X : Gr) (l : List (Int × Int)) (g : G) : Prop where
  gr : g.hp 0 = some (.cells (grC X) false)
  put : ∃ t, g.hp 2 = some (.cells [.sl (pairsC l) l.length t] false) ∧ Live g 2 t
  f4 : g.hp 4 = some (.cells [.fn 92 [] [.mp 2 0]] false)
  f7 : g.hp 7 = some (.cells [.fn 93 [] [.mp 0 0, .mp 4 0]] false)
  m9 : g.hp 9 = some (.map [(.s ⟨#[114, 102]⟩, .fn 94 [] [.mp 4 0]), (.s ⟨#[99, 111]⟩, .fn 95 [] [.mp 7 0]), (.s ⟨#[102, 114]⟩, .fn 96 [] [.mp 7 0])])
  nx : 9 < g.nx
def Kept (g g' : G) : Prop := g.nx ≤ g'.nx ∧ ∀ i, 9 < i → i < g.nx → CM (g.hp i) → g'.hp i = g.hp i
theorem Kept.refl (g : G) : Kept g g := ⟨Nat.le_refl _, fun _ _ _ _ => rfl⟩
theorem Kept.trans {g g1 g2 : G} (h : Kept g g1) (k : Kept g1 g2) : Kept g g2 := ⟨Nat.le_trans h.1 k.1, fun i h1 h2 h3 => by
  have e := h.2 i h1 h2 h3
  rw [← e]
  exact k.2 i h1 (Nat.lt_of_lt_of_le h2 h.1) (by rw [e]; exact h3)⟩
theorem EcoSt.same {X : Gr} {l : List (Int × Int)} {g g' : G} (h : EcoSt X l g) (k : Kept g g') (h9 : ∀ i, i ≤ 9 → g'.hp i = g.hp i) (ht : ∀ i b, g.hp i = some (.tok b) → g'.hp i = g.hp i) : EcoSt X l g' := by
  obtain ⟨t, h1, h2⟩ := h.put
  refine ⟨by rw [h9 0 (by omega)]; exact h.gr, ⟨t, by rw [h9 2 (by omega)]; exact h1, ?_⟩, by rw [h9 4 (by omega)]; exact h.f4, by rw [h9 7 (by omega)]; exact h.f7, by rw [h9 9 (by omega)]; exact h.m9, Nat.lt_of_lt_of_le h.nx k.1⟩
  rcases h2 with rfl | ⟨τ, rfl, hτ, hlt⟩
  · exact .inl rfl
  · exact .inr ⟨τ, rfl, by rw [ht τ _ hτ]; exact hτ, Nat.lt_of_lt_of_le hlt k.1⟩
end Go.Ab
end
section
set_option linter.unusedVariables false
set_option linter.unusedSimpArgs false
namespace Go.Ab
variable {F : Funs}
theorem EcoSt.on {X : Gr} {l : List (Int × Int)} {g : G} (h : EcoSt X l g) {n : Nat} (hn : g.nx ≤ n) : EcoSt X l ⟨g.hp, n⟩ :=
  h.same ⟨hn, fun _ _ _ _ => rfl⟩ (fun _ _ => rfl) (fun _ _ _ => rfl)
theorem Kept.on {g g' : G} (h : Kept g g') {n : Nat} (hn : g'.nx ≤ n) : Kept g ⟨g'.hp, n⟩ := ⟨Nat.le_trans h.1 hn, h.2⟩
theorem Kept.from {g g' : G} {n : Nat} (hn : g.nx ≤ n) (h : Kept ⟨g.hp, n⟩ g') : Kept g g' := ⟨Nat.le_trans hn h.1, fun i h1 h2 h3 => h.2 i h1 (Nat.lt_of_lt_of_le h2 hn) h3⟩
end Go.Ab
end
section
set_option linter.unusedVariables false
set_option linter.unusedSimpArgs false
namespace Go.Ab
variable {F : Funs}
theorem EcoSt.grow {X : Gr} {l : List (Int × Int)} {g g' : G} (h : EcoSt X l g) (hn : g.nx ≤ g'.nx) (ho : ∀ i, i < g.nx → g'.hp i = g.hp i) : EcoSt X l g' ∧ Kept g g' := by
  have h9 := h.nx
  obtain ⟨t, h1, h2⟩ := h.put
  refine ⟨⟨by rw [ho 0 (by omega)]; exact h.gr, ⟨t, by rw [ho 2 (by omega)]; exact h1, ?_⟩, by rw [ho 4 (by omega)]; exact h.f4, by rw [ho 7 (by omega)]; exact h.f7, by rw [ho 9 (by omega)]; exact h.m9, by omega⟩, hn, fun i _ hi _ => ho i hi⟩
  rcases h2 with rfl | ⟨τ, rfl, hτ, hlt⟩
  · exact .inl rfl
  · exact .inr ⟨τ, rfl, by rw [ho τ hlt]; exact hτ, by omega⟩
end Go.Ab
end
section
set_option linter.unusedVariables false
set_option linter.unusedSimpArgs false
namespace Go.Ab
variable {F : Funs}
def yesOrc (f0 : Nat) : Orc := fun f bs => if f = f0 then (match bs with | [] => some (.b true) | _ => none) else none
theorem yesOrc_ok {f0 : Nat} (h : pureS F f0 [] = some (.b true)) : OrcOk F (yesOrc f0) := by
  intro f bs v hv
  unfold yesOrc at hv
  split at hv
  · rename_i hf
    subst hf
    split at hv
    · cases hv; exact h
    · cases hv
  · cases hv
end Go.Ab
end
section
set_option linter.unusedVariables false
set_option linter.unusedSimpArgs false
namespace Go.Ab
variable {F : Funs}
def Lst (R : Rw) (zs : List Nat) : Prop := zs.length = 40 ∧ ∀ a, a < 40 → (R a).toNat = zs.getD a 0
theorem Lst.cells {n : Nat} {R : Rw} {zs : List Nat} (h : Lst R zs) : relC n R = .i .i64 n :: zs.map fun (x : Nat) => .i .u64 (x : Int) := by
  show AV.i .i64 (n : Int) :: rowsC R = _
  congr 1
  refine List.ext_getElem? fun i => ?_
  by_cases hi : i < 40
  · rw [rowsC_get hi, List.getElem?_map, List.getElem?_eq_getElem (by rw [h.1]; exact hi)]
    simp only [Option.map_some, U]
    rw [h.2 i hi, List.getD_eq_getElem?_getD, List.getElem?_eq_getElem (by rw [h.1]; exact hi), Option.getD_some]
  · rw [List.getElem?_eq_none (by rw [rowsC_len]; omega), List.getElem?_eq_none (by rw [List.length_map, h.1]; omega)]
noncomputable def newRow (n a : Nat) (l : List (Int × Int)) : Nat := List.rec (motive := fun _ => Nat) 0 (fun p _ ih => match p with
  | (.ofNat x, .ofNat y) => Bool.rec (motive := fun _ => Nat) ih (Bool.rec (motive := fun _ => Nat) ih (Nat.lor (Nat.shiftLeft 1 y) ih) (Nat.ble (Nat.add y 1) n)) (Nat.beq x a)
  | _ => ih) l
end Go.Ab
end
section
set_option linter.unusedVariables false
set_option linter.unusedSimpArgs false
namespace Go.Ab
variable {F : Funs}
structure FewG (X : Gr) : Prop where
  evs : X.evs.length ≤ 50
  rf : X.rf.length ≤ 60
  co : X.co.length ≤ 6
  cos : ∀ c ∈ X.co, c.length ≤ 50
  rmw : X.rmw.length ≤ 50
  data : X.data.length ≤ 300
  ctrl : X.ctrl.length ≤ 300
  ctrli : X.ctrli.length ≤ 300
end Go.Ab
end
section
set_option linter.unusedVariables false
set_option linter.unusedSimpArgs false
namespace Go.Ab
variable {F : Funs}
structure LenG (X : Gr) : Prop where
  fl : X.co.flatten.length ≤ 1000
  col : X.co.length ≤ 1000
  cos : ∀ k, (X.co.getD k []).length ≤ 1000
  rmw : X.rmw.length ≤ 1000
  data : X.data.length ≤ 1000
  ctrl : X.ctrl.length ≤ 1000
  ctrli : X.ctrli.length ≤ 1000
theorem flat_le : ∀ {l : List (List Int)} {m : Nat}, (∀ c ∈ l, c.length ≤ m) → l.flatten.length ≤ l.length * m
  | [], _, _ => by simp
  | c :: l, m, h => by
    have h1 := flat_le (l := l) (m := m) fun c hc => h c (List.mem_cons_of_mem _ hc)
    have h2 := h c (List.mem_cons_self ..)
    rw [List.flatten_cons, List.length_append, List.length_cons, Nat.succ_mul]
    omega
theorem FewG.len {X : Gr} (h : FewG X) : LenG X := by
  have h1 := flat_le h.cos
  have h2 := h.co
  have h3 : X.co.length * 50 ≤ 6 * 50 := Nat.mul_le_mul_right _ h2
  refine ⟨by omega, by omega, fun k => ?_, by have := h.rmw; omega, by have := h.data; omega, by have := h.ctrl; omega, by have := h.ctrli; omega⟩
  by_cases hk : k < X.co.length
  · have hm : X.co.getD k [] ∈ X.co := by
      rw [List.getD_eq_getElem?_getD, List.getElem?_eq_getElem hk]; exact List.getElem_mem hk
    have := h.cos _ hm; omega
  · rw [List.getD_eq_getElem?_getD, List.getElem?_eq_none (by omega)]; simp
end Go.Ab
end
section
set_option linter.unusedVariables false
set_option linter.unusedSimpArgs false
namespace Go.Ab
def sL : ACode → ACode
  | .seq a _ => a
  | c => c
def sR : ACode → ACode
  | .seq _ b => b
  | c => c
end Go.Ab
end
section
set_option linter.unusedVariables false
set_option linter.unusedSimpArgs false
set_option maxRecDepth 100000
namespace Go.Proofs.Ytkbggcmlmlnepaa
open Go.Ab
theorem ru_awake : pureS funs 289 [] = some (.b true) := pure_eval (orc0_ok funs) 1000 (fn := A_xlaw24_awake) rfl (by kernel_rfl)
def ruO : Orc := yesOrc 289
theorem ruO_ok : OrcOk funs ruO := yesOrc_ok ru_awake
end Go.Proofs.Ytkbggcmlmlnepaa
end
section
set_option linter.unusedVariables false
set_option linter.unusedSimpArgs false
set_option maxRecDepth 100000
namespace Go.Proofs.Ytkbggcmlmlnepaa
open Go.Ab
theorem rm_cut : A_xlaw24_RulesModes.body = .seq (sL A_xlaw24_RulesModes.body) (.seq (sL (sR A_xlaw24_RulesModes.body)) (sR (sR A_xlaw24_RulesModes.body))) := rfl
theorem rm_0 (a b : Int) (hx : place a 4 = 0) : pureS funs 275 [.i .i64 a, .i .i64 b] = some (.b true) := by
  refine pure_of (fn := A_xlaw24_RulesModes) rfl ?_
  have hp1 := sp_place (F := funs) rfl (v := a) (n := 4) (by omega) (by omega)
  have hp2 := sp_place (F := funs) rfl (v := b) (n := 4) (by omega) (by omega)
  obtain ⟨r0, r1⟩ := place_lt (v := b) (n := 4) (by omega)
  rw [hx] at hp1
  generalize place b 4 = y at hp2 r0 r1
  rw [rm_cut]
  generalize hr : sR (sR A_xlaw24_RulesModes.body) = rest
  simp (disch := omega) only [A_xlaw24_RulesModes, sL, sR, wp, Nat.reduceAdd, Nat.reduceMul, Nat.reduceSub, hp1, hp2]
  subst hr
  have hy : y = 0 ∨ y = 1 ∨ y = 2 ∨ y = 3 := by omega
  rcases hy with rfl | rfl | rfl | rfl <;> exact W_eval ruO_ok 1000 (by kernel_rfl)
theorem rm_1 (a b : Int) (hx : place a 4 = 1) : pureS funs 275 [.i .i64 a, .i .i64 b] = some (.b true) := by
  refine pure_of (fn := A_xlaw24_RulesModes) rfl ?_
  have hp1 := sp_place (F := funs) rfl (v := a) (n := 4) (by omega) (by omega)
  have hp2 := sp_place (F := funs) rfl (v := b) (n := 4) (by omega) (by omega)
  obtain ⟨r0, r1⟩ := place_lt (v := b) (n := 4) (by omega)
  rw [hx] at hp1
  generalize place b 4 = y at hp2 r0 r1
  rw [rm_cut]
  generalize hr : sR (sR A_xlaw24_RulesModes.body) = rest
  simp (disch := omega) only [A_xlaw24_RulesModes, sL, sR, wp, Nat.reduceAdd, Nat.reduceMul, Nat.reduceSub, hp1, hp2]
  subst hr
  have hy : y = 0 ∨ y = 1 ∨ y = 2 ∨ y = 3 := by omega
  rcases hy with rfl | rfl | rfl | rfl <;> exact W_eval ruO_ok 1000 (by kernel_rfl)
theorem rm_2 (a b : Int) (hx : place a 4 = 2) : pureS funs 275 [.i .i64 a, .i .i64 b] = some (.b true) := by
  refine pure_of (fn := A_xlaw24_RulesModes) rfl ?_
  have hp1 := sp_place (F := funs) rfl (v := a) (n := 4) (by omega) (by omega)
  have hp2 := sp_place (F := funs) rfl (v := b) (n := 4) (by omega) (by omega)
  obtain ⟨r0, r1⟩ := place_lt (v := b) (n := 4) (by omega)
  rw [hx] at hp1
  generalize place b 4 = y at hp2 r0 r1
  rw [rm_cut]
  generalize hr : sR (sR A_xlaw24_RulesModes.body) = rest
  simp (disch := omega) only [A_xlaw24_RulesModes, sL, sR, wp, Nat.reduceAdd, Nat.reduceMul, Nat.reduceSub, hp1, hp2]
  subst hr
  have hy : y = 0 ∨ y = 1 ∨ y = 2 ∨ y = 3 := by omega
  rcases hy with rfl | rfl | rfl | rfl <;> exact W_eval ruO_ok 1000 (by kernel_rfl)
theorem rm_3 (a b : Int) (hx : place a 4 = 3) : pureS funs 275 [.i .i64 a, .i .i64 b] = some (.b true) := by
  refine pure_of (fn := A_xlaw24_RulesModes) rfl ?_
  have hp1 := sp_place (F := funs) rfl (v := a) (n := 4) (by omega) (by omega)
  have hp2 := sp_place (F := funs) rfl (v := b) (n := 4) (by omega) (by omega)
  obtain ⟨r0, r1⟩ := place_lt (v := b) (n := 4) (by omega)
  rw [hx] at hp1
  generalize place b 4 = y at hp2 r0 r1
  rw [rm_cut]
  generalize hr : sR (sR A_xlaw24_RulesModes.body) = rest
  simp (disch := omega) only [A_xlaw24_RulesModes, sL, sR, wp, Nat.reduceAdd, Nat.reduceMul, Nat.reduceSub, hp1, hp2]
  subst hr
  have hy : y = 0 ∨ y = 1 ∨ y = 2 ∨ y = 3 := by omega
  rcases hy with rfl | rfl | rfl | rfl <;> exact W_eval ruO_ok 1000 (by kernel_rfl)
theorem rulesModes_law (a b : Int) : pureS funs 275 [.i .i64 a, .i .i64 b] = some (.b true) := by
  obtain ⟨q0, q1⟩ := place_lt (v := a) (n := 4) (by omega)
  have hx : place a 4 = 0 ∨ place a 4 = 1 ∨ place a 4 = 2 ∨ place a 4 = 3 := by omega
  rcases hx with hx | hx | hx | hx
  · exact rm_0 a b hx
  · exact rm_1 a b hx
  · exact rm_2 a b hx
  · exact rm_3 a b hx
end Go.Proofs.Ytkbggcmlmlnepaa
end
