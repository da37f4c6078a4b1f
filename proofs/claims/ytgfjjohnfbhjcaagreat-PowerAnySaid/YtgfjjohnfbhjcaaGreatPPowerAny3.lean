/- What PowerAny rests on, part 3: lemmas, no claim of its own. -/
import Derived.Test.YtgfjjohnfbhjcaaGreatChecked
import Derived.KernelRfl
import Derived.OpenShut
import Derived.ChangeArms
import Derived.Laws.Rows
import Derived.Test.YtgfjjohnfbhjcaaGreatPPowerAny2
section
namespace Go.Ab
def A_graph_Po : AFun := { res := [.t 2], body := (.seq (.reg false [{ dst := some 1, op := .box (.t 0) },
  { dst := some 2, op := .mv (.c (.nilp)) }])
 (.seq (.reg false [{ dst := some 3, op := .mv (.c (.sl [] 0 .rig)) }])
 (.seq (.seq (.reg false [{ dst := some 8, op := .fa 1 (.t 1) },
  { dst := some 9, op := .ld none (.t 8) },
  { dst := some 10, op := .len (.t 9) },
  { dst := some 11, op := .mv (.c (.i .i64 0)) }])
 (.blk 0 (.loop (.seq (.reg false [{ dst := some 12, op := .bin .lss (.t 11) (.t 10) }])
 (.seq (.cond (.t 12) .skip
 (.ext 0))
 (.seq (.blk 1 (.seq (.reg false [{ dst := some 13, op := .mv (.t 11) },
  { dst := some 14, op := .ia 6 (.t 9) (.t 11) },
  { dst := some 15, op := .ld (some 6) (.t 14) },
  { dst := some 5, op := .new (List.replicate 5 (.i .i64 0) ++ [.b false]) },
  { dst := some 4, op := .mv (.t 13) },
  { dst := none, op := .st 6 (.t 5) (.t 15) }])
 (.seq (.reg false [{ dst := some 16, op := .fa 1 (.t 1) },
  { dst := some 17, op := .ld none (.t 16) },
  { dst := some 18, op := .len (.t 17) },
  { dst := some 19, op := .mv (.c (.i .i64 0)) }])
 (.blk 2 (.loop (.seq (.reg false [{ dst := some 20, op := .bin .lss (.t 19) (.t 18) }])
 (.seq (.cond (.t 20) .skip
 (.ext 2))
 (.seq (.blk 3 (.seq (.reg false [{ dst := some 21, op := .mv (.t 19) },
  { dst := some 22, op := .ia 6 (.t 17) (.t 19) },
  { dst := some 23, op := .ld (some 6) (.t 22) },
  { dst := some 7, op := .new (List.replicate 5 (.i .i64 0) ++ [.b false]) },
  { dst := some 6, op := .mv (.t 21) },
  { dst := none, op := .st 6 (.t 7) (.t 23) }])
 (.seq (.reg false [{ dst := some 24, op := .fa 0 (.t 5) },
  { dst := some 25, op := .ld none (.t 24) },
  { dst := some 26, op := .bin .eql (.t 25) (.c (.i .i64 0)) },
  { dst := some 27, op := .mv (.t 26) },
  { dst := some 28, op := .fa 0 (.t 7), grd := some (27, true) },
  { dst := some 29, op := .ld none (.t 28), grd := some (27, true) },
  { dst := some 30, op := .bin .neq (.t 29) (.c (.i .i64 0)), grd := some (27, true) },
  { dst := some 31, op := .pick (.t 27) (.t 30) (.c (.b false)) },
  { dst := some 32, op := .mv (.t 31) },
  { dst := some 33, op := .fa 0 (.t 5), grd := some (32, false) },
  { dst := some 34, op := .ld none (.t 33), grd := some (32, false) },
  { dst := some 35, op := .fa 0 (.t 7), grd := some (32, false) },
  { dst := some 36, op := .ld none (.t 35), grd := some (32, false) },
  { dst := some 37, op := .bin .eql (.t 34) (.t 36), grd := some (32, false) },
  { dst := some 38, op := .mv (.t 37), grd := some (32, false) },
  { dst := some 39, op := .fa 0 (.t 5), grd := some (38, true) },
  { dst := some 40, op := .ld none (.t 39), grd := some (38, true) },
  { dst := some 41, op := .bin .neq (.t 40) (.c (.i .i64 0)), grd := some (38, true) },
  { dst := some 42, op := .pick (.t 38) (.t 41) (.c (.b false)), grd := some (32, false) },
  { dst := some 43, op := .mv (.t 42), grd := some (32, false) },
  { dst := some 44, op := .mv (.t 4), grd := some (43, true) },
  { dst := some 45, op := .mv (.t 6), grd := some (43, true) },
  { dst := some 46, op := .bin .lss (.t 44) (.t 45), grd := some (43, true) },
  { dst := some 47, op := .pick (.t 43) (.t 46) (.c (.b false)), grd := some (32, false) },
  { dst := some 48, op := .pick (.t 32) (.c (.b true)) (.t 47) }])
 (.cond (.t 48) (.reg false [{ dst := some 49, op := .mv (.t 3) },
  { dst := some 50, op := .mv (.t 4) },
  { dst := some 51, op := .mv (.t 6) },
  { dst := some 52, op := .build ([.i .i64 0, .i .i64 0]) [(0, 1, .t 50), (1, 1, .t 51)] },
  { dst := some 53, op := .bsl true 1 ([.i .i64 0, .i .i64 0]) [(0, 2, .t 52)] },
  { dst := some 54, op := .app 2 16 (.t 49) (.t 53) },
  { dst := some 3, op := .mv (.t 54) }])
 .skip))))
 (.reg false [{ dst := some 55, op := .bin .add (.t 19) (.c (.i .i64 1)) },
  { dst := some 19, op := .mv (.t 55) }])))))))))
 (.reg false [{ dst := some 56, op := .bin .add (.t 11) (.c (.i .i64 1)) },
  { dst := some 11, op := .mv (.t 56) }])))))))
 (.seq (.reg false [{ dst := some 57, op := .ld (some 8) (.t 1) },
  { dst := some 58, op := .mv (.t 3) },
  { dst := some 59, op := .call .pure (.c (.fn 81 [] [])) [.t 57, .t 58] },
  { dst := some 2, op := .mv (.t 59) }])
 .ret)))) }
def A_graph_Of : AFun := { res := [.t 4], body := (.seq (.reg false [{ dst := some 2, op := .box (.t 0) },
  { dst := some 4, op := .mv (.c (.nilp)) }])
 (.seq (.reg false [{ dst := some 5, op := .fa 1 (.t 2) },
  { dst := some 6, op := .ld none (.t 5) },
  { dst := some 7, op := .len (.t 6) },
  { dst := some 8, op := .mv (.t 1) },
  { dst := some 9, op := .call .pure (.c (.fn 11 [] [])) [.t 7, .t 8] },
  { dst := some 4, op := .mv (.t 9) }])
 .ret)) }
def A_graph_Check : AFun := { res := [.t 2], body := (.seq (.reg false [{ dst := some 1, op := .box (.t 0) },
  { dst := some 2, op := .mv (.c (.b false)) }])
 (.seq (.seq (.reg false [{ dst := some 4, op := .fa 0 (.t 1) },
  { dst := some 5, op := .ld none (.t 4) },
  { dst := some 6, op := .bin .lss (.t 5) (.c (.i .i64 1)) },
  { dst := some 7, op := .mv (.t 6) },
  { dst := some 8, op := .fa 0 (.t 1), grd := some (7, false) },
  { dst := some 9, op := .ld none (.t 8), grd := some (7, false) },
  { dst := some 10, op := .bin .gtr (.t 9) (.c (.i .i64 4)), grd := some (7, false) },
  { dst := some 11, op := .pick (.t 7) (.c (.b true)) (.t 10) },
  { dst := some 12, op := .mv (.t 11) },
  { dst := some 13, op := .fa 1 (.t 1), grd := some (12, false) },
  { dst := some 14, op := .ld none (.t 13), grd := some (12, false) },
  { dst := some 15, op := .len (.t 14), grd := some (12, false) },
  { dst := some 16, op := .bin .gtr (.t 15) (.c (.i .i64 40)), grd := some (12, false) },
  { dst := some 17, op := .pick (.t 12) (.c (.b true)) (.t 16) },
  { dst := some 18, op := .mv (.t 17) },
  { dst := some 19, op := .fa 1 (.t 1), grd := some (18, false) },
  { dst := some 20, op := .ld none (.t 19), grd := some (18, false) },
  { dst := some 21, op := .len (.t 20), grd := some (18, false) },
  { dst := some 22, op := .fa 0 (.t 1), grd := some (18, false) },
  { dst := some 23, op := .ld none (.t 22), grd := some (18, false) },
  { dst := some 24, op := .bin .lss (.t 21) (.t 23), grd := some (18, false) },
  { dst := some 25, op := .pick (.t 18) (.c (.b true)) (.t 24) },
  { dst := some 26, op := .mv (.t 25) },
  { dst := some 27, op := .ld (some 8) (.t 1), grd := some (26, false) },
  { dst := some 28, op := .call .pure (.c (.fn 186 [] [])) [.t 27], grd := some (26, false) },
  { dst := some 29, op := .un .not (.t 28), grd := some (26, false) },
  { dst := some 30, op := .pick (.t 26) (.c (.b true)) (.t 29) },
  { dst := some 31, op := .mv (.t 30) },
  { dst := some 32, op := .ld (some 8) (.t 1), grd := some (31, false) },
  { dst := some 33, op := .call .pure (.c (.fn 187 [] [])) [.t 32], grd := some (31, false) },
  { dst := some 34, op := .un .not (.t 33), grd := some (31, false) },
  { dst := some 35, op := .pick (.t 31) (.c (.b true)) (.t 34) },
  { dst := some 36, op := .mv (.t 35) },
  { dst := some 37, op := .ld (some 8) (.t 1), grd := some (36, false) },
  { dst := some 38, op := .call .pure (.c (.fn 188 [] [])) [.t 37], grd := some (36, false) },
  { dst := some 39, op := .un .not (.t 38), grd := some (36, false) },
  { dst := some 40, op := .pick (.t 36) (.c (.b true)) (.t 39) },
  { dst := some 41, op := .mv (.t 40) },
  { dst := some 42, op := .ld (some 8) (.t 1), grd := some (41, false) },
  { dst := some 43, op := .call .pure (.c (.fn 189 [] [])) [.t 42], grd := some (41, false) },
  { dst := some 44, op := .un .not (.t 43), grd := some (41, false) },
  { dst := some 45, op := .pick (.t 41) (.c (.b true)) (.t 44) },
  { dst := some 46, op := .mv (.t 45) },
  { dst := some 47, op := .ld (some 8) (.t 1), grd := some (46, false) },
  { dst := some 48, op := .call .pure (.c (.fn 190 [] [])) [.t 47], grd := some (46, false) },
  { dst := some 49, op := .un .not (.t 48), grd := some (46, false) },
  { dst := some 50, op := .pick (.t 46) (.c (.b true)) (.t 49) }])
 (.cond (.t 50) (.seq (.reg false [{ dst := some 2, op := .mv (.c (.b false)) }])
 .ret)
 .skip))
 (.seq (.reg false [{ dst := some 3, op := .mv (.c (.fn 191 [] [])) }])
 (.seq (.reg false [{ dst := some 51, op := .ld (some 8) (.t 1) },
  { dst := some 52, op := .fa 5 (.t 1) },
  { dst := some 53, op := .ld none (.t 52) },
  { dst := some 54, op := .mv (.t 3) },
  { dst := some 55, op := .call .pure (.c (.fn 192 [] [])) [.t 51, .t 53, .t 54] },
  { dst := some 56, op := .mv (.t 55) },
  { dst := some 57, op := .ld (some 8) (.t 1), grd := some (56, true) },
  { dst := some 58, op := .fa 6 (.t 1), grd := some (56, true) },
  { dst := some 59, op := .ld none (.t 58), grd := some (56, true) },
  { dst := some 60, op := .mv (.t 3), grd := some (56, true) },
  { dst := some 61, op := .call .pure (.c (.fn 192 [] [])) [.t 57, .t 59, .t 60], grd := some (56, true) },
  { dst := some 62, op := .pick (.t 56) (.t 61) (.c (.b false)) },
  { dst := some 63, op := .mv (.t 62) },
  { dst := some 64, op := .ld (some 8) (.t 1), grd := some (63, true) },
  { dst := some 65, op := .fa 7 (.t 1), grd := some (63, true) },
  { dst := some 66, op := .ld none (.t 65), grd := some (63, true) },
  { dst := some 67, op := .mv (.t 3), grd := some (63, true) },
  { dst := some 68, op := .call .pure (.c (.fn 192 [] [])) [.t 64, .t 66, .t 67], grd := some (63, true) },
  { dst := some 69, op := .pick (.t 63) (.t 68) (.c (.b false)) },
  { dst := some 2, op := .mv (.t 69) }])
 .ret)))) }
def A_graph_Set : AFun := { res := [.t 4], body := (.seq (.reg false [{ dst := some 2, op := .box (.t 0) },
  { dst := some 4, op := .mv (.c (.nilp)) }])
 (.seq (.reg false [{ dst := some 5, op := .mv (.c (.sl [] 0 .rig)) }])
 (.seq (.reg false [{ dst := some 9, op := .mv (.t 1) },
  { dst := some 10, op := .build ([.nilf]) [(0, 1, .t 9)] },
  { dst := some 6, op := .new ([.nilf]) },
  { dst := none, op := .st 1 (.t 6) (.t 10) }])
 (.seq (.seq (.reg false [{ dst := some 11, op := .fa 1 (.t 2) },
  { dst := some 12, op := .ld none (.t 11) },
  { dst := some 13, op := .len (.t 12) },
  { dst := some 14, op := .mv (.c (.i .i64 0)) }])
 (.blk 0 (.loop (.seq (.reg false [{ dst := some 15, op := .bin .lss (.t 14) (.t 13) }])
 (.seq (.cond (.t 15) .skip
 (.ext 0))
 (.seq (.blk 1 (.seq (.reg false [{ dst := some 16, op := .mv (.t 14) },
  { dst := some 17, op := .ia 6 (.t 12) (.t 14) },
  { dst := some 18, op := .ld (some 6) (.t 17) },
  { dst := some 8, op := .new (List.replicate 5 (.i .i64 0) ++ [.b false]) },
  { dst := some 7, op := .mv (.t 16) },
  { dst := none, op := .st 6 (.t 8) (.t 18) }])
 (.seq (.reg false [{ dst := some 19, op := .fa 0 (.t 6) },
  { dst := some 20, op := .ld none (.t 19) },
  { dst := some 21, op := .ld (some 6) (.t 8) },
  { dst := some 22, op := .call .pure (.t 20) [.t 21] }])
 (.cond (.t 22) (.reg false [{ dst := some 23, op := .mv (.t 5) },
  { dst := some 24, op := .mv (.t 7) },
  { dst := some 25, op := .mv (.t 7) },
  { dst := some 26, op := .build ([.i .i64 0, .i .i64 0]) [(0, 1, .t 24), (1, 1, .t 25)] },
  { dst := some 27, op := .bsl true 1 ([.i .i64 0, .i .i64 0]) [(0, 2, .t 26)] },
  { dst := some 28, op := .app 2 16 (.t 23) (.t 27) },
  { dst := some 5, op := .mv (.t 28) }])
 .skip))))
 (.reg false [{ dst := some 29, op := .bin .add (.t 14) (.c (.i .i64 1)) },
  { dst := some 14, op := .mv (.t 29) }])))))))
 (.seq (.reg false [{ dst := some 30, op := .ld (some 8) (.t 2) },
  { dst := some 31, op := .mv (.t 5) },
  { dst := some 32, op := .call .pure (.c (.fn 81 [] [])) [.t 30, .t 31] },
  { dst := some 4, op := .mv (.t 32) }])
 .ret))))) }
def A_graph_first : AFun := { res := [.t 2], body := (.seq (.reg false [{ dst := some 1, op := .box (.t 0) },
  { dst := some 2, op := .mv (.c (.b false)) }])
 (.seq (.seq (.reg false [{ dst := some 4, op := .fa 0 (.t 1) },
  { dst := some 5, op := .ld none (.t 4) },
  { dst := some 6, op := .mv (.c (.i .i64 0)) }])
 (.blk 0 (.loop (.seq (.reg false [{ dst := some 7, op := .bin .lss (.t 6) (.t 5) }])
 (.seq (.cond (.t 7) .skip
 (.ext 0))
 (.seq (.blk 1 (.seq (.reg false [{ dst := some 8, op := .mv (.t 6) },
  { dst := some 3, op := .mv (.t 8) }])
 (.seq (.reg false [{ dst := some 9, op := .fa 1 (.t 1) },
  { dst := some 10, op := .ld none (.t 9) },
  { dst := some 11, op := .mv (.t 3) },
  { dst := some 12, op := .ia 6 (.t 10) (.t 11) },
  { dst := some 13, op := .ld (some 6) (.t 12) },
  { dst := some 14, op := .mv (.t 3) },
  { dst := some 15, op := .build (List.replicate 5 (.i .i64 0) ++ [.b false]) [(1, 1, .c (.i .i64 2)), (3, 1, .t 14)] },
  { dst := some 16, op := .eqa true [0, 0, 0, 0, 0, 1] (.t 13) (.t 15) }])
 (.cond (.t 16) (.seq (.reg false [{ dst := some 2, op := .mv (.c (.b false)) }])
 .ret)
 .skip))))
 (.reg false [{ dst := some 17, op := .bin .add (.t 6) (.c (.i .i64 1)) },
  { dst := some 6, op := .mv (.t 17) }])))))))
 (.seq (.reg false [{ dst := some 2, op := .mv (.c (.b true)) }])
 .ret))) }
def A_graph_threads : AFun := { res := [.t 2], body := (.seq (.reg false [{ dst := some 1, op := .box (.t 0) },
  { dst := some 2, op := .mv (.c (.b false)) }])
 (.seq (.reg false [{ dst := some 3, op := .mv (.c (.i .i64 1)) }])
 (.seq (.seq (.reg false [{ dst := some 6, op := .fa 1 (.t 1) },
  { dst := some 7, op := .ld none (.t 6) },
  { dst := some 8, op := .fa 0 (.t 1) },
  { dst := some 9, op := .ld none (.t 8) },
  { dst := some 10, op := .slice 6 (.t 7) (some (.t 9)) none none },
  { dst := some 11, op := .len (.t 10) },
  { dst := some 12, op := .mv (.c (.i .i64 0)) }])
 (.blk 0 (.loop (.seq (.reg false [{ dst := some 13, op := .bin .lss (.t 12) (.t 11) }])
 (.seq (.cond (.t 13) .skip
 (.ext 0))
 (.seq (.blk 1 (.seq (.reg false [{ dst := some 14, op := .ia 6 (.t 10) (.t 12) },
  { dst := some 15, op := .ld (some 6) (.t 14) },
  { dst := some 5, op := .new (List.replicate 5 (.i .i64 0) ++ [.b false]) },
  { dst := none, op := .st 6 (.t 5) (.t 15) }])
 (.seq (.seq (.reg false [{ dst := some 16, op := .fa 0 (.t 5) },
  { dst := some 17, op := .ld none (.t 16) },
  { dst := some 18, op := .mv (.t 3) },
  { dst := some 19, op := .bin .lss (.t 17) (.t 18) },
  { dst := some 20, op := .mv (.t 19) },
  { dst := some 21, op := .fa 0 (.t 5), grd := some (20, false) },
  { dst := some 22, op := .ld none (.t 21), grd := some (20, false) },
  { dst := some 23, op := .bin .gtr (.t 22) (.c (.i .i64 4)), grd := some (20, false) },
  { dst := some 24, op := .pick (.t 20) (.c (.b true)) (.t 23) },
  { dst := some 25, op := .mv (.t 24) },
  { dst := some 26, op := .ld (some 6) (.t 5), grd := some (25, false) },
  { dst := some 27, op := .fa 0 (.t 1), grd := some (25, false) },
  { dst := some 28, op := .ld none (.t 27), grd := some (25, false) },
  { dst := some 29, op := .call .pure (.c (.fn 236 [] [])) [.t 26, .t 28], grd := some (25, false) },
  { dst := some 30, op := .un .not (.t 29), grd := some (25, false) },
  { dst := some 31, op := .pick (.t 25) (.c (.b true)) (.t 30) }])
 (.cond (.t 31) (.seq (.reg false [{ dst := some 2, op := .mv (.c (.b false)) }])
 .ret)
 .skip))
 (.reg false [{ dst := some 32, op := .fa 0 (.t 5) },
  { dst := some 33, op := .ld none (.t 32) },
  { dst := some 3, op := .mv (.t 33) }]))))
 (.reg false [{ dst := some 34, op := .bin .add (.t 12) (.c (.i .i64 1)) },
  { dst := some 12, op := .mv (.t 34) }])))))))
 (.seq (.reg false [{ dst := some 2, op := .mv (.c (.b true)) }])
 .ret)))) }
def A_graph_rf : AFun := { res := [.t 2], body := (.seq (.reg false [{ dst := some 1, op := .box (.t 0) },
  { dst := some 2, op := .mv (.c (.b false)) }])
 (.seq (.seq (.reg false [{ dst := some 6, op := .fa 2 (.t 1) },
  { dst := some 7, op := .ld none (.t 6) },
  { dst := some 8, op := .len (.t 7) },
  { dst := some 9, op := .fa 1 (.t 1) },
  { dst := some 10, op := .ld none (.t 9) },
  { dst := some 11, op := .len (.t 10) },
  { dst := some 12, op := .bin .neq (.t 8) (.t 11) }])
 (.cond (.t 12) (.seq (.reg false [{ dst := some 2, op := .mv (.c (.b false)) }])
 .ret)
 .skip))
 (.seq (.seq (.reg false [{ dst := some 13, op := .fa 1 (.t 1) },
  { dst := some 14, op := .ld none (.t 13) },
  { dst := some 15, op := .len (.t 14) },
  { dst := some 16, op := .mv (.c (.i .i64 0)) }])
 (.blk 0 (.loop (.seq (.reg false [{ dst := some 17, op := .bin .lss (.t 16) (.t 15) }])
 (.seq (.cond (.t 17) .skip
 (.ext 0))
 (.seq (.blk 1 (.seq (.reg false [{ dst := some 18, op := .mv (.t 16) },
  { dst := some 19, op := .ia 6 (.t 14) (.t 16) },
  { dst := some 20, op := .ld (some 6) (.t 19) },
  { dst := some 4, op := .new (List.replicate 5 (.i .i64 0) ++ [.b false]) },
  { dst := some 3, op := .mv (.t 18) },
  { dst := none, op := .st 6 (.t 4) (.t 20) }])
 (.seq (.reg false [{ dst := some 21, op := .fa 2 (.t 1) },
  { dst := some 22, op := .ld none (.t 21) },
  { dst := some 23, op := .mv (.t 3) },
  { dst := some 24, op := .ia 1 (.t 22) (.t 23) },
  { dst := some 25, op := .ld none (.t 24) },
  { dst := some 5, op := .mv (.t 25) }])
 (.blk 2 (.seq (.reg false [{ dst := some 27, op := .fa 1 (.t 4) },
  { dst := some 28, op := .ld none (.t 27) },
  { dst := some 29, op := .bin .neq (.t 28) (.c (.i .i64 1)) },
  { dst := some 30, op := .mv (.t 29) },
  { dst := some 31, op := .mv (.t 5), grd := some (30, true) },
  { dst := some 32, op := .bin .neq (.t 31) (.c (.i .i64 (-1))), grd := some (30, true) },
  { dst := some 33, op := .pick (.t 30) (.t 32) (.c (.b false)) },
  { dst := some 26, op := .mv (.t 33) }])
 (.cond (.t 26) (.seq (.reg false [{ dst := some 2, op := .mv (.c (.b false)) }])
 .ret)
 (.seq (.reg true [{ dst := some 35, op := .fa 1 (.t 4) },
  { dst := some 36, op := .ld none (.t 35), pre := [] },
  { dst := some 37, op := .bin .eql (.t 36) (.c (.i .i64 1)) },
  { dst := some 38, op := .mv (.t 37) },
  { dst := some 39, op := .ld (some 8) (.t 1), grd := some (38, true), pre := [] },
  { dst := some 40, op := .mv (.t 5), grd := some (38, true) },
  { dst := some 41, op := .fa 3 (.t 4), grd := some (38, true) },
  { dst := some 42, op := .ld none (.t 41), grd := some (38, true), pre := [] },
  { dst := some 43, op := .call .pure (.c (.fn 237 [] [])) [.t 39, .t 40, .t 42], grd := some (38, true), pre := [] },
  { dst := some 44, op := .un .not (.t 43), grd := some (38, true) },
  { dst := some 45, op := .mv (.t 44), grd := some (38, true) },
  { dst := some 46, op := .fa 1 (.t 1), grd := some (45, false) },
  { dst := some 47, op := .ld none (.t 46), grd := some (45, false), pre := [] },
  { dst := some 48, op := .mv (.t 5), grd := some (45, false) },
  { dst := some 49, op := .ia 6 (.t 47) (.t 48), grd := some (45, false) },
  { dst := some 50, op := .fa 4 (.t 49), grd := some (45, false) },
  { dst := some 51, op := .ld none (.t 50), grd := some (45, false), pre := [] },
  { dst := some 52, op := .fa 4 (.t 4), grd := some (45, false) },
  { dst := some 53, op := .ld none (.t 52), grd := some (45, false), pre := [] },
  { dst := some 54, op := .bin .neq (.t 51) (.t 53), grd := some (45, false) },
  { dst := some 55, op := .pick (.t 45) (.c (.b true)) (.t 54), grd := some (38, true) },
  { dst := some 56, op := .pick (.t 38) (.t 55) (.c (.b false)) },
  { dst := some 34, op := .mv (.t 56) }])
 (.cond (.t 34) (.seq (.reg false [{ dst := some 2, op := .mv (.c (.b false)) }])
 .ret)
 .skip))))))))
 (.reg false [{ dst := some 57, op := .bin .add (.t 16) (.c (.i .i64 1)) },
  { dst := some 16, op := .mv (.t 57) }])))))))
 (.seq (.reg false [{ dst := some 2, op := .mv (.c (.b true)) }])
 .ret)))) }
def A_graph_co : AFun := { res := [.t 2], body := (.seq (.reg false [{ dst := some 1, op := .box (.t 0) },
  { dst := some 2, op := .mv (.c (.b false)) }])
 (.seq (.seq (.reg false [{ dst := some 11, op := .fa 3 (.t 1) },
  { dst := some 12, op := .ld none (.t 11) },
  { dst := some 13, op := .len (.t 12) },
  { dst := some 14, op := .fa 0 (.t 1) },
  { dst := some 15, op := .ld none (.t 14) },
  { dst := some 16, op := .bin .neq (.t 13) (.t 15) }])
 (.cond (.t 16) (.seq (.reg false [{ dst := some 2, op := .mv (.c (.b false)) }])
 .ret)
 .skip))
 (.seq (.reg false [{ dst := some 3, op := .mv (.c (.i .i64 0)) }])
 (.seq (.reg false [{ dst := some 4, op := .new (List.replicate 40 (.b false)) }])
 (.seq (.seq (.reg false [{ dst := some 17, op := .fa 3 (.t 1) },
  { dst := some 18, op := .ld none (.t 17) },
  { dst := some 19, op := .len (.t 18) },
  { dst := some 20, op := .mv (.c (.i .i64 0)) }])
 (.blk 0 (.loop (.seq (.reg false [{ dst := some 21, op := .bin .lss (.t 20) (.t 19) }])
 (.seq (.cond (.t 21) .skip
 (.ext 0))
 (.seq (.blk 1 (.seq (.reg false [{ dst := some 22, op := .mv (.t 20) },
  { dst := some 23, op := .ia 1 (.t 18) (.t 20) },
  { dst := some 24, op := .ld none (.t 23) },
  { dst := some 5, op := .mv (.t 22) },
  { dst := some 6, op := .mv (.t 24) }])
 (.seq (.seq (.reg false [{ dst := some 25, op := .mv (.t 6) },
  { dst := some 26, op := .len (.t 25) },
  { dst := some 27, op := .bin .eql (.t 26) (.c (.i .i64 0)) },
  { dst := some 28, op := .mv (.t 27) },
  { dst := some 29, op := .mv (.t 6), grd := some (28, false) },
  { dst := some 30, op := .ia 1 (.t 29) (.c (.i .i64 0)), grd := some (28, false) },
  { dst := some 31, op := .ld none (.t 30), grd := some (28, false) },
  { dst := some 32, op := .mv (.t 5), grd := some (28, false) },
  { dst := some 33, op := .bin .neq (.t 31) (.t 32), grd := some (28, false) },
  { dst := some 34, op := .pick (.t 28) (.c (.b true)) (.t 33) }])
 (.cond (.t 34) (.seq (.reg false [{ dst := some 2, op := .mv (.c (.b false)) }])
 .ret)
 .skip))
 (.seq (.reg false [{ dst := some 35, op := .mv (.t 6) },
  { dst := some 36, op := .len (.t 35) },
  { dst := some 37, op := .mv (.c (.i .i64 0)) }])
 (.blk 2 (.loop (.seq (.reg false [{ dst := some 38, op := .bin .lss (.t 37) (.t 36) }])
 (.seq (.cond (.t 38) .skip
 (.ext 2))
 (.seq (.blk 3 (.seq (.reg false [{ dst := some 39, op := .ia 1 (.t 35) (.t 37) },
  { dst := some 40, op := .ld none (.t 39) },
  { dst := some 8, op := .mv (.t 40) }])
 (.seq (.seq (.reg false [{ dst := some 41, op := .ld (some 8) (.t 1) },
  { dst := some 42, op := .mv (.t 8) },
  { dst := some 43, op := .mv (.t 5) },
  { dst := some 44, op := .call .pure (.c (.fn 237 [] [])) [.t 41, .t 42, .t 43] },
  { dst := some 45, op := .un .not (.t 44) },
  { dst := some 46, op := .mv (.t 45) },
  { dst := some 47, op := .mv (.t 8), grd := some (46, false) },
  { dst := some 48, op := .iaa 40 1 (.t 4) (.t 47), grd := some (46, false) },
  { dst := some 49, op := .ld none (.t 48), grd := some (46, false) },
  { dst := some 50, op := .pick (.t 46) (.c (.b true)) (.t 49) }])
 (.cond (.t 50) (.seq (.reg false [{ dst := some 2, op := .mv (.c (.b false)) }])
 .ret)
 .skip))
 (.seq (.reg false [{ dst := some 51, op := .mv (.t 8) },
  { dst := some 52, op := .iaa 40 1 (.t 4) (.t 51) },
  { dst := none, op := .st 1 (.t 52) (.c (.b true)) }])
 (.reg false [{ dst := some 53, op := .mv (.t 3) },
  { dst := some 54, op := .bin .add (.t 53) (.c (.i .i64 1)) },
  { dst := some 3, op := .mv (.t 54) }])))))
 (.reg false [{ dst := some 55, op := .bin .add (.t 37) (.c (.i .i64 1)) },
  { dst := some 37, op := .mv (.t 55) }]))))))))))
 (.reg false [{ dst := some 56, op := .bin .add (.t 20) (.c (.i .i64 1)) },
  { dst := some 20, op := .mv (.t 56) }])))))))
 (.seq (.seq (.reg false [{ dst := some 57, op := .fa 1 (.t 1) },
  { dst := some 58, op := .ld none (.t 57) },
  { dst := some 59, op := .len (.t 58) },
  { dst := some 60, op := .mv (.c (.i .i64 0)) }])
 (.blk 4 (.loop (.seq (.reg false [{ dst := some 61, op := .bin .lss (.t 60) (.t 59) }])
 (.seq (.cond (.t 61) .skip
 (.ext 4))
 (.seq (.blk 5 (.seq (.reg false [{ dst := some 62, op := .ia 6 (.t 58) (.t 60) },
  { dst := some 63, op := .ld (some 6) (.t 62) },
  { dst := some 10, op := .new (List.replicate 5 (.i .i64 0) ++ [.b false]) },
  { dst := none, op := .st 6 (.t 10) (.t 63) }])
 (.seq (.reg false [{ dst := some 64, op := .fa 1 (.t 10) },
  { dst := some 65, op := .ld none (.t 64) },
  { dst := some 66, op := .bin .eql (.t 65) (.c (.i .i64 2)) }])
 (.cond (.t 66) (.reg false [{ dst := some 67, op := .mv (.t 3) },
  { dst := some 68, op := .bin .sub (.t 67) (.c (.i .i64 1)) },
  { dst := some 3, op := .mv (.t 68) }])
 .skip))))
 (.reg false [{ dst := some 69, op := .bin .add (.t 60) (.c (.i .i64 1)) },
  { dst := some 60, op := .mv (.t 69) }])))))))
 (.seq (.reg false [{ dst := some 70, op := .mv (.t 3) },
  { dst := some 71, op := .bin .eql (.t 70) (.c (.i .i64 0)) },
  { dst := some 2, op := .mv (.t 71) }])
 .ret))))))) }
def A_graph_rmw : AFun := { res := [.t 2], body := (.seq (.reg false [{ dst := some 1, op := .box (.t 0) },
  { dst := some 2, op := .mv (.c (.b false)) }])
 (.seq (.reg false [{ dst := some 3, op := .mv (.c (.fn 238 [] [])) }])
 (.seq (.seq (.reg false [{ dst := some 10, op := .ld (some 8) (.t 1) },
  { dst := some 11, op := .fa 4 (.t 1) },
  { dst := some 12, op := .ld none (.t 11) },
  { dst := some 13, op := .mv (.t 3) },
  { dst := some 14, op := .call .pure (.c (.fn 192 [] [])) [.t 10, .t 12, .t 13] },
  { dst := some 15, op := .un .not (.t 14) }])
 (.cond (.t 15) (.seq (.reg false [{ dst := some 2, op := .mv (.c (.b false)) }])
 .ret)
 .skip))
 (.seq (.reg false [{ dst := some 4, op := .mv (.c (.i .i64 0)) }])
 (.seq (.seq (.reg false [{ dst := some 16, op := .fa 1 (.t 1) },
  { dst := some 17, op := .ld none (.t 16) },
  { dst := some 18, op := .len (.t 17) },
  { dst := some 19, op := .mv (.c (.i .i64 0)) }])
 (.blk 0 (.loop (.seq (.reg false [{ dst := some 20, op := .bin .lss (.t 19) (.t 18) }])
 (.seq (.cond (.t 20) .skip
 (.ext 0))
 (.seq (.blk 1 (.seq (.reg false [{ dst := some 21, op := .ia 6 (.t 17) (.t 19) },
  { dst := some 22, op := .ld (some 6) (.t 21) },
  { dst := some 6, op := .new (List.replicate 5 (.i .i64 0) ++ [.b false]) },
  { dst := none, op := .st 6 (.t 6) (.t 22) }])
 (.seq (.reg false [{ dst := some 23, op := .fa 5 (.t 6) },
  { dst := some 24, op := .ld none (.t 23) }])
 (.cond (.t 24) (.reg false [{ dst := some 25, op := .mv (.t 4) },
  { dst := some 26, op := .bin .add (.t 25) (.c (.i .i64 1)) },
  { dst := some 4, op := .mv (.t 26) }])
 .skip))))
 (.reg false [{ dst := some 27, op := .bin .add (.t 19) (.c (.i .i64 1)) },
  { dst := some 19, op := .mv (.t 27) }])))))))
 (.seq (.reg false [{ dst := some 7, op := .mv (.c (.i .i64 (-1))) }])
 (.seq (.seq (.reg false [{ dst := some 28, op := .fa 4 (.t 1) },
  { dst := some 29, op := .ld none (.t 28) },
  { dst := some 30, op := .len (.t 29) },
  { dst := some 31, op := .mv (.c (.i .i64 0)) }])
 (.blk 2 (.loop (.seq (.reg false [{ dst := some 32, op := .bin .lss (.t 31) (.t 30) }])
 (.seq (.cond (.t 32) .skip
 (.ext 2))
 (.seq (.blk 3 (.seq (.reg false [{ dst := some 33, op := .ia 2 (.t 29) (.t 31) },
  { dst := some 34, op := .ld (some 2) (.t 33) },
  { dst := some 9, op := .new ([.i .i64 0, .i .i64 0]) },
  { dst := none, op := .st 2 (.t 9) (.t 34) }])
 (.seq (.seq (.reg false [{ dst := some 35, op := .fa 1 (.t 9) },
  { dst := some 36, op := .ld none (.t 35) },
  { dst := some 37, op := .fa 0 (.t 9) },
  { dst := some 38, op := .ld none (.t 37) },
  { dst := some 39, op := .bin .add (.t 38) (.c (.i .i64 1)) },
  { dst := some 40, op := .bin .neq (.t 36) (.t 39) },
  { dst := some 41, op := .mv (.t 40) },
  { dst := some 42, op := .fa 0 (.t 9), grd := some (41, false) },
  { dst := some 43, op := .ld none (.t 42), grd := some (41, false) },
  { dst := some 44, op := .mv (.t 7), grd := some (41, false) },
  { dst := some 45, op := .bin .leq (.t 43) (.t 44), grd := some (41, false) },
  { dst := some 46, op := .pick (.t 41) (.c (.b true)) (.t 45) }])
 (.cond (.t 46) (.seq (.reg false [{ dst := some 2, op := .mv (.c (.b false)) }])
 .ret)
 .skip))
 (.reg false [{ dst := some 47, op := .fa 1 (.t 9) },
  { dst := some 48, op := .ld none (.t 47) },
  { dst := some 7, op := .mv (.t 48) }]))))
 (.reg false [{ dst := some 49, op := .bin .add (.t 31) (.c (.i .i64 1)) },
  { dst := some 31, op := .mv (.t 49) }])))))))
 (.seq (.reg false [{ dst := some 50, op := .mv (.t 4) },
  { dst := some 51, op := .fa 4 (.t 1) },
  { dst := some 52, op := .ld none (.t 51) },
  { dst := some 53, op := .len (.t 52) },
  { dst := some 54, op := .bin .mul (.c (.i .i64 2)) (.t 53) },
  { dst := some 55, op := .bin .eql (.t 50) (.t 54) },
  { dst := some 2, op := .mv (.t 55) }])
 .ret)))))))) }
def A_graph_Check_1 : AFun := { res := [.t 4], body := (.seq (.reg false [{ dst := some 2, op := .box (.t 0) },
  { dst := some 3, op := .box (.t 1) },
  { dst := some 4, op := .mv (.c (.b false)) }])
 (.seq (.reg false [{ dst := some 5, op := .fa 1 (.t 2) },
  { dst := some 6, op := .ld none (.t 5) },
  { dst := some 7, op := .bin .eql (.t 6) (.c (.i .i64 1)) },
  { dst := some 8, op := .mv (.t 7) },
  { dst := some 9, op := .fa 0 (.t 2), grd := some (8, true) },
  { dst := some 10, op := .ld none (.t 9), grd := some (8, true) },
  { dst := some 11, op := .fa 0 (.t 3), grd := some (8, true) },
  { dst := some 12, op := .ld none (.t 11), grd := some (8, true) },
  { dst := some 13, op := .bin .eql (.t 10) (.t 12), grd := some (8, true) },
  { dst := some 14, op := .pick (.t 8) (.t 13) (.c (.b false)) },
  { dst := some 4, op := .mv (.t 14) }])
 .ret)) }
def A_graph_list : AFun := { res := [.t 6], body := (.seq (.reg false [{ dst := some 3, op := .box (.t 0) },
  { dst := some 6, op := .mv (.c (.b false)) }])
 (.seq (.seq (.reg false [{ dst := some 9, op := .mv (.t 1) },
  { dst := some 10, op := .len (.t 9) },
  { dst := some 11, op := .mv (.c (.i .i64 0)) }])
 (.blk 0 (.loop (.seq (.reg false [{ dst := some 12, op := .bin .lss (.t 11) (.t 10) }])
 (.seq (.cond (.t 12) .skip
 (.ext 0))
 (.seq (.blk 1 (.seq (.reg false [{ dst := some 13, op := .mv (.t 11) },
  { dst := some 14, op := .ia 2 (.t 9) (.t 11) },
  { dst := some 15, op := .ld (some 2) (.t 14) },
  { dst := some 8, op := .new ([.i .i64 0, .i .i64 0]) },
  { dst := some 7, op := .mv (.t 13) },
  { dst := none, op := .st 2 (.t 8) (.t 15) }])
 (.seq (.reg true [{ dst := some 16, op := .fa 0 (.t 8) },
  { dst := some 17, op := .ld none (.t 16), pre := [] },
  { dst := some 18, op := .bin .lss (.t 17) (.c (.i .i64 0)) },
  { dst := some 19, op := .mv (.t 18) },
  { dst := some 20, op := .fa 1 (.t 8), grd := some (19, false) },
  { dst := some 21, op := .ld none (.t 20), grd := some (19, false), pre := [] },
  { dst := some 22, op := .fa 1 (.t 3), grd := some (19, false) },
  { dst := some 23, op := .ld none (.t 22), grd := some (19, false), pre := [] },
  { dst := some 24, op := .len (.t 23), grd := some (19, false) },
  { dst := some 25, op := .bin .geq (.t 21) (.t 24), grd := some (19, false) },
  { dst := some 26, op := .pick (.t 19) (.c (.b true)) (.t 25) },
  { dst := some 27, op := .mv (.t 26) },
  { dst := some 28, op := .fa 0 (.t 8), grd := some (27, false) },
  { dst := some 29, op := .ld none (.t 28), grd := some (27, false), pre := [] },
  { dst := some 30, op := .fa 1 (.t 8), grd := some (27, false) },
  { dst := some 31, op := .ld none (.t 30), grd := some (27, false), pre := [] },
  { dst := some 32, op := .bin .geq (.t 29) (.t 31), grd := some (27, false) },
  { dst := some 33, op := .pick (.t 27) (.c (.b true)) (.t 32) },
  { dst := some 34, op := .mv (.t 33) },
  { dst := some 35, op := .mv (.t 7), grd := some (34, false) },
  { dst := some 36, op := .bin .gtr (.t 35) (.c (.i .i64 0)), grd := some (34, false) },
  { dst := some 37, op := .mv (.t 36), grd := some (34, false) },
  { dst := some 38, op := .mv (.t 1), grd := some (37, true) },
  { dst := some 39, op := .mv (.t 7), grd := some (37, true) },
  { dst := some 40, op := .bin .sub (.t 39) (.c (.i .i64 1)), grd := some (37, true) },
  { dst := some 41, op := .ia 2 (.t 38) (.t 40), grd := some (37, true) },
  { dst := some 42, op := .ld (some 2) (.t 41), grd := some (37, true), pre := [] },
  { dst := some 43, op := .ld (some 2) (.t 8), grd := some (37, true), pre := [] },
  { dst := some 44, op := .call .pure (.c (.fn 239 [] [])) [.t 42, .t 43], grd := some (37, true), pre := [] },
  { dst := some 45, op := .bin .geq (.t 44) (.c (.i .i64 0)), grd := some (37, true) },
  { dst := some 46, op := .pick (.t 37) (.t 45) (.c (.b false)), grd := some (34, false) },
  { dst := some 47, op := .pick (.t 34) (.c (.b true)) (.t 46) },
  { dst := some 48, op := .mv (.t 47) },
  { dst := some 49, op := .mv (.t 2), grd := some (48, false) },
  { dst := some 50, op := .fa 1 (.t 3), grd := some (48, false) },
  { dst := some 51, op := .ld none (.t 50), grd := some (48, false), pre := [] },
  { dst := some 52, op := .fa 0 (.t 8), grd := some (48, false) },
  { dst := some 53, op := .ld none (.t 52), grd := some (48, false), pre := [] },
  { dst := some 54, op := .ia 6 (.t 51) (.t 53), grd := some (48, false) },
  { dst := some 55, op := .ld (some 6) (.t 54), grd := some (48, false), pre := [] },
  { dst := some 56, op := .fa 1 (.t 3), grd := some (48, false) },
  { dst := some 57, op := .ld none (.t 56), grd := some (48, false), pre := [] },
  { dst := some 58, op := .fa 1 (.t 8), grd := some (48, false) },
  { dst := some 59, op := .ld none (.t 58), grd := some (48, false), pre := [] },
  { dst := some 60, op := .ia 6 (.t 57) (.t 59), grd := some (48, false) },
  { dst := some 61, op := .ld (some 6) (.t 60), grd := some (48, false), pre := [] },
  { dst := some 62, op := .call .pure (.t 49) [.t 55, .t 61], grd := some (48, false), pre := [] },
  { dst := some 63, op := .un .not (.t 62), grd := some (48, false) },
  { dst := some 64, op := .pick (.t 48) (.c (.b true)) (.t 63) }])
 (.cond (.t 64) (.seq (.reg false [{ dst := some 6, op := .mv (.c (.b false)) }])
 .ret)
 .skip))))
 (.reg false [{ dst := some 65, op := .bin .add (.t 11) (.c (.i .i64 1)) },
  { dst := some 11, op := .mv (.t 65) }])))))))
 (.seq (.reg false [{ dst := some 6, op := .mv (.c (.b true)) }])
 .ret))) }
def A_graph_event : AFun := { res := [.t 4], body := (.seq (.reg false [{ dst := some 2, op := .box (.t 0) },
  { dst := some 4, op := .mv (.c (.b false)) }])
 (.seq (.reg false [{ dst := some 6, op := .fa 3 (.t 2) },
  { dst := some 7, op := .ld none (.t 6) },
  { dst := some 8, op := .bin .geq (.t 7) (.c (.i .i64 0)) },
  { dst := some 9, op := .mv (.t 8) },
  { dst := some 10, op := .fa 3 (.t 2), grd := some (9, true) },
  { dst := some 11, op := .ld none (.t 10), grd := some (9, true) },
  { dst := some 12, op := .mv (.t 1), grd := some (9, true) },
  { dst := some 13, op := .bin .lss (.t 11) (.t 12), grd := some (9, true) },
  { dst := some 14, op := .pick (.t 9) (.t 13) (.c (.b false)) },
  { dst := some 5, op := .mv (.t 14) }])
 (.seq (.seq (.reg false [{ dst := some 15, op := .fa 1 (.t 2) },
  { dst := some 16, op := .ld none (.t 15) }])
 (.blk 0 (.seq (.reg false [{ dst := some 18, op := .bin .eql (.t 16) (.c (.i .i64 1)) },
  { dst := some 17, op := .mv (.t 18) }])
 (.cond (.t 17) (.seq (.reg false [{ dst := some 19, op := .mv (.t 5) },
  { dst := some 20, op := .mv (.t 19) },
  { dst := some 21, op := .fa 2 (.t 2), grd := some (20, true) },
  { dst := some 22, op := .ld none (.t 21), grd := some (20, true) },
  { dst := some 23, op := .bin .eql (.t 22) (.c (.i .i64 0)), grd := some (20, true) },
  { dst := some 24, op := .mv (.t 23), grd := some (20, true) },
  { dst := some 25, op := .fa 2 (.t 2), grd := some (24, false) },
  { dst := some 26, op := .ld none (.t 25), grd := some (24, false) },
  { dst := some 27, op := .bin .eql (.t 26) (.c (.i .i64 1)), grd := some (24, false) },
  { dst := some 28, op := .pick (.t 24) (.c (.b true)) (.t 27), grd := some (20, true) },
  { dst := some 29, op := .pick (.t 20) (.t 28) (.c (.b false)) },
  { dst := some 4, op := .mv (.t 29) }])
 .ret)
 (.seq (.reg false [{ dst := some 31, op := .bin .eql (.t 16) (.c (.i .i64 2)) },
  { dst := some 30, op := .mv (.t 31) }])
 (.cond (.t 30) (.seq (.reg false [{ dst := some 32, op := .mv (.t 5) },
  { dst := some 33, op := .mv (.t 32) },
  { dst := some 34, op := .fa 2 (.t 2), grd := some (33, true) },
  { dst := some 35, op := .ld none (.t 34), grd := some (33, true) },
  { dst := some 36, op := .bin .eql (.t 35) (.c (.i .i64 0)), grd := some (33, true) },
  { dst := some 37, op := .mv (.t 36), grd := some (33, true) },
  { dst := some 38, op := .fa 2 (.t 2), grd := some (37, false) },
  { dst := some 39, op := .ld none (.t 38), grd := some (37, false) },
  { dst := some 40, op := .bin .eql (.t 39) (.c (.i .i64 2)), grd := some (37, false) },
  { dst := some 41, op := .pick (.t 37) (.c (.b true)) (.t 40), grd := some (33, true) },
  { dst := some 42, op := .pick (.t 33) (.t 41) (.c (.b false)) },
  { dst := some 4, op := .mv (.t 42) }])
 .ret)
 .skip))))))
 (.seq (.reg false [{ dst := some 43, op := .fa 1 (.t 2) },
  { dst := some 44, op := .ld none (.t 43) },
  { dst := some 45, op := .bin .eql (.t 44) (.c (.i .i64 3)) },
  { dst := some 46, op := .mv (.t 45) },
  { dst := some 47, op := .fa 2 (.t 2), grd := some (46, true) },
  { dst := some 48, op := .ld none (.t 47), grd := some (46, true) },
  { dst := some 49, op := .bin .geq (.t 48) (.c (.i .i64 1)), grd := some (46, true) },
  { dst := some 50, op := .pick (.t 46) (.t 49) (.c (.b false)) },
  { dst := some 51, op := .mv (.t 50) },
  { dst := some 52, op := .fa 2 (.t 2), grd := some (51, true) },
  { dst := some 53, op := .ld none (.t 52), grd := some (51, true) },
  { dst := some 54, op := .bin .leq (.t 53) (.c (.i .i64 4)), grd := some (51, true) },
  { dst := some 55, op := .pick (.t 51) (.t 54) (.c (.b false)) },
  { dst := some 56, op := .mv (.t 55) },
  { dst := some 57, op := .fa 3 (.t 2), grd := some (56, true) },
  { dst := some 58, op := .ld none (.t 57), grd := some (56, true) },
  { dst := some 59, op := .bin .eql (.t 58) (.c (.i .i64 0)), grd := some (56, true) },
  { dst := some 60, op := .pick (.t 56) (.t 59) (.c (.b false)) },
  { dst := some 61, op := .mv (.t 60) },
  { dst := some 62, op := .fa 4 (.t 2), grd := some (61, true) },
  { dst := some 63, op := .ld none (.t 62), grd := some (61, true) },
  { dst := some 64, op := .bin .eql (.t 63) (.c (.i .i64 0)), grd := some (61, true) },
  { dst := some 65, op := .pick (.t 61) (.t 64) (.c (.b false)) },
  { dst := some 66, op := .mv (.t 65) },
  { dst := some 67, op := .fa 5 (.t 2), grd := some (66, true) },
  { dst := some 68, op := .ld none (.t 67), grd := some (66, true) },
  { dst := some 69, op := .un .not (.t 68), grd := some (66, true) },
  { dst := some 70, op := .pick (.t 66) (.t 69) (.c (.b false)) },
  { dst := some 4, op := .mv (.t 70) }])
 .ret)))) }
def A_graph_write : AFun := { res := [.t 6], body := (.seq (.reg false [{ dst := some 3, op := .box (.t 0) },
  { dst := some 6, op := .mv (.c (.b false)) }])
 (.seq (.reg false [{ dst := some 7, op := .mv (.t 1) },
  { dst := some 8, op := .bin .geq (.t 7) (.c (.i .i64 0)) },
  { dst := some 9, op := .mv (.t 8) },
  { dst := some 10, op := .mv (.t 1), grd := some (9, true) },
  { dst := some 11, op := .fa 1 (.t 3), grd := some (9, true) },
  { dst := some 12, op := .ld none (.t 11), grd := some (9, true) },
  { dst := some 13, op := .len (.t 12), grd := some (9, true) },
  { dst := some 14, op := .bin .lss (.t 10) (.t 13), grd := some (9, true) },
  { dst := some 15, op := .pick (.t 9) (.t 14) (.c (.b false)) },
  { dst := some 16, op := .mv (.t 15) },
  { dst := some 17, op := .fa 1 (.t 3), grd := some (16, true) },
  { dst := some 18, op := .ld none (.t 17), grd := some (16, true) },
  { dst := some 19, op := .mv (.t 1), grd := some (16, true) },
  { dst := some 20, op := .ia 6 (.t 18) (.t 19), grd := some (16, true) },
  { dst := some 21, op := .fa 1 (.t 20), grd := some (16, true) },
  { dst := some 22, op := .ld none (.t 21), grd := some (16, true) },
  { dst := some 23, op := .bin .eql (.t 22) (.c (.i .i64 2)), grd := some (16, true) },
  { dst := some 24, op := .pick (.t 16) (.t 23) (.c (.b false)) },
  { dst := some 25, op := .mv (.t 24) },
  { dst := some 26, op := .fa 1 (.t 3), grd := some (25, true) },
  { dst := some 27, op := .ld none (.t 26), grd := some (25, true) },
  { dst := some 28, op := .mv (.t 1), grd := some (25, true) },
  { dst := some 29, op := .ia 6 (.t 27) (.t 28), grd := some (25, true) },
  { dst := some 30, op := .fa 3 (.t 29), grd := some (25, true) },
  { dst := some 31, op := .ld none (.t 30), grd := some (25, true) },
  { dst := some 32, op := .mv (.t 2), grd := some (25, true) },
  { dst := some 33, op := .bin .eql (.t 31) (.t 32), grd := some (25, true) },
  { dst := some 34, op := .pick (.t 25) (.t 33) (.c (.b false)) },
  { dst := some 6, op := .mv (.t 34) }])
 .ret)) }
def A_graph_rmw_1 : AFun := { res := [.t 4], body := (.seq (.reg false [{ dst := some 2, op := .box (.t 0) },
  { dst := some 3, op := .box (.t 1) },
  { dst := some 4, op := .mv (.c (.b false)) }])
 (.seq (.reg false [{ dst := some 5, op := .fa 1 (.t 2) },
  { dst := some 6, op := .ld none (.t 5) },
  { dst := some 7, op := .bin .eql (.t 6) (.c (.i .i64 1)) },
  { dst := some 8, op := .mv (.t 7) },
  { dst := some 9, op := .fa 1 (.t 3), grd := some (8, true) },
  { dst := some 10, op := .ld none (.t 9), grd := some (8, true) },
  { dst := some 11, op := .bin .eql (.t 10) (.c (.i .i64 2)), grd := some (8, true) },
  { dst := some 12, op := .pick (.t 8) (.t 11) (.c (.b false)) },
  { dst := some 13, op := .mv (.t 12) },
  { dst := some 14, op := .fa 3 (.t 2), grd := some (13, true) },
  { dst := some 15, op := .ld none (.t 14), grd := some (13, true) },
  { dst := some 16, op := .fa 3 (.t 3), grd := some (13, true) },
  { dst := some 17, op := .ld none (.t 16), grd := some (13, true) },
  { dst := some 18, op := .bin .eql (.t 15) (.t 17), grd := some (13, true) },
  { dst := some 19, op := .pick (.t 13) (.t 18) (.c (.b false)) },
  { dst := some 20, op := .mv (.t 19) },
  { dst := some 21, op := .fa 5 (.t 2), grd := some (20, true) },
  { dst := some 22, op := .ld none (.t 21), grd := some (20, true) },
  { dst := some 23, op := .pick (.t 20) (.t 22) (.c (.b false)) },
  { dst := some 24, op := .mv (.t 23) },
  { dst := some 25, op := .fa 5 (.t 3), grd := some (24, true) },
  { dst := some 26, op := .ld none (.t 25), grd := some (24, true) },
  { dst := some 27, op := .pick (.t 24) (.t 26) (.c (.b false)) },
  { dst := some 28, op := .mv (.t 27) },
  { dst := some 29, op := .fa 0 (.t 2), grd := some (28, true) },
  { dst := some 30, op := .ld none (.t 29), grd := some (28, true) },
  { dst := some 31, op := .fa 0 (.t 3), grd := some (28, true) },
  { dst := some 32, op := .ld none (.t 31), grd := some (28, true) },
  { dst := some 33, op := .bin .eql (.t 30) (.t 32), grd := some (28, true) },
  { dst := some 34, op := .pick (.t 28) (.t 33) (.c (.b false)) },
  { dst := some 4, op := .mv (.t 34) }])
 .ret)) }
def A_graph_order : AFun := { res := [.t 4], body := (.seq (.reg false [{ dst := some 2, op := .box (.t 0) },
  { dst := some 3, op := .box (.t 1) },
  { dst := some 4, op := .mv (.c (.i .i64 0)) }])
 (.seq (.reg true [{ dst := some 5, op := .fa 0 (.t 2) },
  { dst := some 6, op := .ld none (.t 5), pre := [] },
  { dst := some 7, op := .fa 0 (.t 3) },
  { dst := some 8, op := .ld none (.t 7), pre := [] },
  { dst := some 9, op := .call .pure (.c (.fn 248 [] [])) [.t 6, .t 8], pre := [] },
  { dst := some 10, op := .fa 1 (.t 2) },
  { dst := some 11, op := .ld none (.t 10), pre := [] },
  { dst := some 12, op := .fa 1 (.t 3) },
  { dst := some 13, op := .ld none (.t 12), pre := [] },
  { dst := some 14, op := .call .pure (.c (.fn 248 [] [])) [.t 11, .t 13], pre := [] },
  { dst := some 15, op := .bsl true 2 ([.i .i64 0, .i .i64 0]) [(0, 1, .t 9), (1, 1, .t 14)], pre := [] },
  { dst := some 16, op := .call .pure (.c (.fn 249 [] [])) [.t 15], pre := [] },
  { dst := some 4, op := .mv (.t 16) }])
 .ret)) }
end Go.Ab
end
section
namespace Go.Ab
def A_power_Consistent : AFun := { res := [.t 2], body := (.seq (.reg false [{ dst := some 1, op := .box (.t 0) },
  { dst := some 2, op := .mv (.c (.b false)) }])
 (.seq (.seq (.reg false [{ dst := some 5, op := .ld (some 8) (.t 1) },
  { dst := some 6, op := .call .pure (.c (.fn 152 [] [])) [.t 5] },
  { dst := some 7, op := .un .not (.t 6) }])
 (.cond (.t 7) (.seq (.reg false [{ dst := some 2, op := .mv (.c (.b false)) }])
 .ret)
 .skip))
 (.seq (.seq (.reg false [{ dst := some 8, op := .call .pure (.c (.fn 292 [] [])) [] },
  { dst := some 9, op := .mv (.c (.i .i64 0)) }])
 (.blk 0 (.loop (.seq (.reg false [{ dst := some 10, op := .bin .lss (.t 9) (.c (.i .i64 5)) }])
 (.seq (.cond (.t 10) .skip
 (.ext 0))
 (.seq (.blk 1 (.seq (.reg false [{ dst := some 11, op := .idx 5 1 (some 1) (.t 8) (.t 9) },
  { dst := some 4, op := .new ([.nilf]) },
  { dst := none, op := .st 1 (.t 4) (.t 11) }])
 (.seq (.reg false [{ dst := some 12, op := .fa 0 (.t 4) },
  { dst := some 13, op := .ld none (.t 12) },
  { dst := some 14, op := .ld (some 8) (.t 1) },
  { dst := some 15, op := .call .pure (.t 13) [.t 14] },
  { dst := some 16, op := .un .not (.t 15) }])
 (.cond (.t 16) (.seq (.reg false [{ dst := some 2, op := .mv (.c (.b false)) }])
 .ret)
 .skip))))
 (.reg false [{ dst := some 17, op := .bin .add (.t 9) (.c (.i .i64 1)) },
  { dst := some 9, op := .mv (.t 17) }])))))))
 (.seq (.reg false [{ dst := some 2, op := .mv (.c (.b true)) }])
 .ret)))) }
def A_power_conditions : AFun := { res := [.cell 0 (some 5)], body := (.seq (.reg false [{ dst := some 0, op := .new (List.replicate 5 (.nilf)) }])
 (.seq (.reg false [{ dst := some 1, op := .build ([.nilf]) [(0, 1, .c (.fn 311 [] []))] },
  { dst := some 2, op := .build ([.nilf]) [(0, 1, .c (.fn 314 [] []))] },
  { dst := some 3, op := .build ([.nilf]) [(0, 1, .c (.fn 315 [] []))] },
  { dst := some 4, op := .build ([.nilf]) [(0, 1, .c (.fn 317 [] []))] },
  { dst := some 5, op := .build ([.nilf]) [(0, 1, .c (.fn 322 [] []))] },
  { dst := some 6, op := .build (List.replicate 5 (.nilf)) [(0, 1, .t 1), (1, 1, .t 2), (2, 1, .t 3), (3, 1, .t 4), (4, 1, .t 5)] },
  { dst := none, op := .st 5 (.t 0) (.t 6) }])
 .ret)) }
def A_power_Sync : AFun := { res := [.t 2], body := (.seq (.reg false [{ dst := some 1, op := .box (.t 0) },
  { dst := some 2, op := .mv (.c (.nilp)) }])
 (.seq (.reg false [{ dst := some 3, op := .ld (some 8) (.t 1) },
  { dst := some 4, op := .call .pure (.c (.fn 323 [] [])) [.t 3, .c (.i .i64 4)] },
  { dst := some 2, op := .mv (.t 4) }])
 .ret)) }
def A_power_Fences : AFun := { res := [.t 2], body := (.seq (.reg false [{ dst := some 1, op := .box (.t 0) },
  { dst := some 2, op := .mv (.c (.nilp)) }])
 (.seq (.reg false [{ dst := some 4, op := .ld (some 8) (.t 1) },
  { dst := some 5, op := .call .pure (.c (.fn 323 [] [])) [.t 4, .c (.i .i64 3)] },
  { dst := some 3, op := .mv (.t 5) }])
 (.seq (.reg true [{ dst := some 6, op := .ld (some 8) (.t 1), pre := [] },
  { dst := some 7, op := .call .pure (.c (.fn 294 [] [])) [.t 6], pre := [] },
  { dst := some 8, op := .mv (.t 3) },
  { dst := some 9, op := .ld (some 8) (.t 1), pre := [] },
  { dst := some 10, op := .call .pure (.c (.fn 166 [] [])) [.t 9, .c (.fn 324 [] [])], pre := [] },
  { dst := some 11, op := .mv (.t 3) },
  { dst := some 12, op := .ld (some 8) (.t 1), pre := [] },
  { dst := some 13, op := .call .pure (.c (.fn 166 [] [])) [.t 12, .c (.fn 325 [] [])], pre := [] },
  { dst := some 14, op := .bsl true 2 ([.nilp, .nilp]) [(0, 1, .t 11), (1, 1, .t 13)], pre := [] },
  { dst := some 15, op := .call .pure (.c (.fn 319 [] [])) [.t 10, .t 14], pre := [] },
  { dst := some 16, op := .call .pure (.c (.fn 26 [] [])) [.t 8, .t 15], pre := [] },
  { dst := some 17, op := .call .pure (.c (.fn 24 [] [])) [.t 7, .t 16], pre := [] },
  { dst := some 2, op := .mv (.t 17) }])
 .ret))) }
def A_power_conditions_1 : AFun := { res := [.t 2], body := (.seq (.reg false [{ dst := some 1, op := .box (.t 0) },
  { dst := some 2, op := .mv (.c (.b false)) }])
 (.seq (.reg true [{ dst := some 3, op := .ld (some 8) (.t 1), pre := [] },
  { dst := some 4, op := .ld (some 8) (.t 1), pre := [] },
  { dst := some 5, op := .call .pure (.c (.fn 41 [] [])) [.t 4], pre := [] },
  { dst := some 6, op := .call .pure (.c (.fn 312 [] [])) [.t 3, .t 5], pre := [] },
  { dst := some 7, op := .ld (some 8) (.t 1), pre := [] },
  { dst := some 8, op := .call .pure (.c (.fn 313 [] [])) [.t 7], pre := [] },
  { dst := some 9, op := .call .pure (.c (.fn 24 [] [])) [.t 6, .t 8], pre := [] },
  { dst := some 10, op := .call .pure (.c (.fn 14 [] [])) [.t 9], pre := [] },
  { dst := some 11, op := .un .not (.t 10) },
  { dst := some 2, op := .mv (.t 11) }])
 .ret)) }
def A_power_own : AFun := { res := [.t 4], body := (.seq (.reg false [{ dst := some 2, op := .box (.t 0) },
  { dst := some 4, op := .mv (.c (.nilp)) }])
 (.seq (.reg true [{ dst := some 5, op := .ld (some 8) (.t 2), pre := [] },
  { dst := some 6, op := .call .pure (.c (.fn 166 [] [])) [.t 5, .c (.fn 348 [] [])], pre := [] },
  { dst := some 7, op := .ld (some 8) (.t 2), pre := [] },
  { dst := some 8, op := .mv (.t 1) },
  { dst := some 9, op := .call .pure (.c (.fn 39 [] [])) [.t 7, .t 8], pre := [] },
  { dst := some 10, op := .call .pure (.c (.fn 23 [] [])) [.t 6, .t 9], pre := [] },
  { dst := some 4, op := .mv (.t 10) }])
 .ret)) }
def A_power_com : AFun := { res := [.t 2], body := (.seq (.reg false [{ dst := some 1, op := .box (.t 0) },
  { dst := some 2, op := .mv (.c (.nilp)) }])
 (.seq (.reg true [{ dst := some 3, op := .ld (some 8) (.t 1), pre := [] },
  { dst := some 4, op := .call .pure (.c (.fn 48 [] [])) [.t 3], pre := [] },
  { dst := some 5, op := .ld (some 8) (.t 1), pre := [] },
  { dst := some 6, op := .call .pure (.c (.fn 49 [] [])) [.t 5], pre := [] },
  { dst := some 7, op := .call .pure (.c (.fn 24 [] [])) [.t 4, .t 6], pre := [] },
  { dst := some 8, op := .ld (some 8) (.t 1), pre := [] },
  { dst := some 9, op := .call .pure (.c (.fn 50 [] [])) [.t 8], pre := [] },
  { dst := some 10, op := .call .pure (.c (.fn 24 [] [])) [.t 7, .t 9], pre := [] },
  { dst := some 2, op := .mv (.t 10) }])
 .ret)) }
def A_power_conditions_2 : AFun := { res := [.t 2], body := (.seq (.reg false [{ dst := some 1, op := .box (.t 0) },
  { dst := some 2, op := .mv (.c (.b false)) }])
 (.seq (.reg true [{ dst := some 4, op := .ld (some 8) (.t 1), pre := [] },
  { dst := some 5, op := .ld (some 8) (.t 1), pre := [] },
  { dst := some 6, op := .call .pure (.c (.fn 50 [] [])) [.t 5], pre := [] },
  { dst := some 7, op := .call .pure (.c (.fn 40 [] [])) [.t 4, .t 6], pre := [] },
  { dst := some 8, op := .ld (some 8) (.t 1), pre := [] },
  { dst := some 9, op := .ld (some 8) (.t 1), pre := [] },
  { dst := some 10, op := .call .pure (.c (.fn 49 [] [])) [.t 9], pre := [] },
  { dst := some 11, op := .call .pure (.c (.fn 40 [] [])) [.t 8, .t 10], pre := [] },
  { dst := some 12, op := .call .pure (.c (.fn 23 [] [])) [.t 7, .t 11], pre := [] },
  { dst := some 3, op := .mv (.t 12) }])
 (.seq (.reg false [{ dst := some 13, op := .ld (some 8) (.t 1) },
  { dst := some 14, op := .fa 4 (.t 1) },
  { dst := some 15, op := .ld none (.t 14) },
  { dst := some 16, op := .call .pure (.c (.fn 81 [] [])) [.t 13, .t 15] },
  { dst := some 17, op := .mv (.t 3) },
  { dst := some 18, op := .call .pure (.c (.fn 18 [] [])) [.t 16, .t 17] },
  { dst := some 19, op := .call .pure (.c (.fn 15 [] [])) [.t 18] },
  { dst := some 20, op := .len (.t 19) },
  { dst := some 21, op := .bin .eql (.t 20) (.c (.i .i64 0)) },
  { dst := some 2, op := .mv (.t 21) }])
 .ret))) }
def A_power_conditions_3 : AFun := { res := [.t 2], body := (.seq (.reg false [{ dst := some 1, op := .box (.t 0) },
  { dst := some 2, op := .mv (.c (.b false)) }])
 (.seq (.reg false [{ dst := some 3, op := .ld (some 8) (.t 1) },
  { dst := some 4, op := .call .pure (.c (.fn 316 [] [])) [.t 3] },
  { dst := some 5, op := .call .pure (.c (.fn 14 [] [])) [.t 4] },
  { dst := some 6, op := .un .not (.t 5) },
  { dst := some 2, op := .mv (.t 6) }])
 .ret)) }
def A_power_Hb : AFun := { res := [.t 2], body := (.seq (.reg false [{ dst := some 1, op := .box (.t 0) },
  { dst := some 2, op := .mv (.c (.nilp)) }])
 (.seq (.reg true [{ dst := some 3, op := .ld (some 8) (.t 1), pre := [] },
  { dst := some 4, op := .call .pure (.c (.fn 143 [] [])) [.t 3], pre := [] },
  { dst := some 5, op := .ld (some 8) (.t 1), pre := [] },
  { dst := some 6, op := .call .pure (.c (.fn 295 [] [])) [.t 5], pre := [] },
  { dst := some 7, op := .call .pure (.c (.fn 24 [] [])) [.t 4, .t 6], pre := [] },
  { dst := some 8, op := .ld (some 8) (.t 1), pre := [] },
  { dst := some 9, op := .ld (some 8) (.t 1), pre := [] },
  { dst := some 10, op := .call .pure (.c (.fn 48 [] [])) [.t 9], pre := [] },
  { dst := some 11, op := .call .pure (.c (.fn 40 [] [])) [.t 8, .t 10], pre := [] },
  { dst := some 12, op := .call .pure (.c (.fn 24 [] [])) [.t 7, .t 11], pre := [] },
  { dst := some 2, op := .mv (.t 12) }])
 .ret)) }
def A_power_conditions_4 : AFun := { res := [.t 2], body := (.seq (.reg false [{ dst := some 1, op := .box (.t 0) },
  { dst := some 2, op := .mv (.c (.b false)) }])
 (.seq (.reg true [{ dst := some 3, op := .ld (some 8) (.t 1), pre := [] },
  { dst := some 4, op := .ld (some 8) (.t 1), pre := [] },
  { dst := some 5, op := .ld (some 8) (.t 1), pre := [] },
  { dst := some 6, op := .call .pure (.c (.fn 50 [] [])) [.t 5], pre := [] },
  { dst := some 7, op := .call .pure (.c (.fn 40 [] [])) [.t 4, .t 6], pre := [] },
  { dst := some 8, op := .ld (some 8) (.t 1), pre := [] },
  { dst := some 9, op := .call .pure (.c (.fn 320 [] [])) [.t 8], pre := [] },
  { dst := some 10, op := .ld (some 8) (.t 1), pre := [] },
  { dst := some 11, op := .ld (some 8) (.t 1), pre := [] },
  { dst := some 12, op := .call .pure (.c (.fn 316 [] [])) [.t 11], pre := [] },
  { dst := some 13, op := .call .pure (.c (.fn 321 [] [])) [.t 10, .t 12], pre := [] },
  { dst := some 14, op := .bsl true 2 ([.nilp, .nilp]) [(0, 1, .t 9), (1, 1, .t 13)], pre := [] },
  { dst := some 15, op := .call .pure (.c (.fn 319 [] [])) [.t 7, .t 14], pre := [] },
  { dst := some 16, op := .call .pure (.c (.fn 318 [] [])) [.t 3, .t 15], pre := [] },
  { dst := some 2, op := .mv (.t 16) }])
 .ret)) }
def A_power_free : AFun := { res := [.t 4], body := (.seq (.reg false [{ dst := some 2, op := .box (.t 0) },
  { dst := some 4, op := .mv (.c (.b false)) }])
 (.seq (.seq (.reg false [{ dst := some 6, op := .fa 1 (.t 2) },
  { dst := some 7, op := .ld none (.t 6) },
  { dst := some 8, op := .len (.t 7) },
  { dst := some 9, op := .mv (.c (.i .i64 0)) }])
 (.blk 0 (.loop (.seq (.reg false [{ dst := some 10, op := .bin .lss (.t 9) (.t 8) }])
 (.seq (.cond (.t 10) .skip
 (.ext 0))
 (.seq (.blk 1 (.seq (.reg false [{ dst := some 11, op := .mv (.t 9) },
  { dst := some 5, op := .mv (.t 11) }])
 (.seq (.reg false [{ dst := some 12, op := .mv (.t 1) },
  { dst := some 13, op := .mv (.t 5) },
  { dst := some 14, op := .mv (.t 5) },
  { dst := some 15, op := .call .pure (.c (.fn 13 [] [])) [.t 12, .t 13, .t 14] }])
 (.cond (.t 15) (.seq (.reg false [{ dst := some 4, op := .mv (.c (.b false)) }])
 .ret)
 .skip))))
 (.reg false [{ dst := some 16, op := .bin .add (.t 9) (.c (.i .i64 1)) },
  { dst := some 9, op := .mv (.t 16) }])))))))
 (.seq (.reg false [{ dst := some 4, op := .mv (.c (.b true)) }])
 .ret))) }
def A_power_then : AFun := { res := [.t 4], body := (.seq (.reg false [{ dst := some 4, op := .mv (.c (.nilp)) }])
 (.seq (.seq (.reg false [{ dst := some 7, op := .mv (.t 1) },
  { dst := some 8, op := .len (.t 7) },
  { dst := some 9, op := .mv (.c (.i .i64 0)) }])
 (.blk 0 (.loop (.seq (.reg false [{ dst := some 10, op := .bin .lss (.t 9) (.t 8) }])
 (.seq (.cond (.t 10) .skip
 (.ext 0))
 (.seq (.blk 1 (.seq (.reg false [{ dst := some 11, op := .ia 1 (.t 7) (.t 9) },
  { dst := some 12, op := .ld none (.t 11) },
  { dst := some 6, op := .mv (.t 12) }])
 (.reg false [{ dst := some 13, op := .mv (.t 0) },
  { dst := some 14, op := .mv (.t 6) },
  { dst := some 15, op := .call .pure (.c (.fn 23 [] [])) [.t 13, .t 14] },
  { dst := some 0, op := .mv (.t 15) }])))
 (.reg false [{ dst := some 16, op := .bin .add (.t 9) (.c (.i .i64 1)) },
  { dst := some 9, op := .mv (.t 16) }])))))))
 (.seq (.reg false [{ dst := some 17, op := .mv (.t 0) },
  { dst := some 4, op := .mv (.t 17) }])
 .ret))) }
def A_power_Prop : AFun := { res := [.t 2], body := (.seq (.reg false [{ dst := some 1, op := .box (.t 0) },
  { dst := some 2, op := .mv (.c (.nilp)) }])
 (.seq (.reg true [{ dst := some 7, op := .ld (some 8) (.t 1), pre := [] },
  { dst := some 8, op := .call .pure (.c (.fn 295 [] [])) [.t 7], pre := [] },
  { dst := some 9, op := .ld (some 8) (.t 1), pre := [] },
  { dst := some 10, op := .ld (some 8) (.t 1), pre := [] },
  { dst := some 11, op := .call .pure (.c (.fn 316 [] [])) [.t 10], pre := [] },
  { dst := some 12, op := .call .pure (.c (.fn 321 [] [])) [.t 9, .t 11], pre := [] },
  { dst := some 13, op := .ld (some 8) (.t 1), pre := [] },
  { dst := some 14, op := .call .pure (.c (.fn 166 [] [])) [.t 13, .c (.fn 324 [] [])], pre := [] },
  { dst := some 3, op := .mv (.t 8) },
  { dst := some 4, op := .mv (.t 12) },
  { dst := some 5, op := .mv (.t 14) }])
 (.seq (.reg true [{ dst := some 15, op := .mv (.t 3) },
  { dst := some 16, op := .ld (some 8) (.t 1), pre := [] },
  { dst := some 17, op := .ld (some 8) (.t 1), pre := [] },
  { dst := some 18, op := .call .pure (.c (.fn 48 [] [])) [.t 17], pre := [] },
  { dst := some 19, op := .call .pure (.c (.fn 40 [] [])) [.t 16, .t 18], pre := [] },
  { dst := some 20, op := .mv (.t 3) },
  { dst := some 21, op := .call .pure (.c (.fn 23 [] [])) [.t 19, .t 20], pre := [] },
  { dst := some 22, op := .call .pure (.c (.fn 24 [] [])) [.t 15, .t 21], pre := [] },
  { dst := some 23, op := .mv (.t 4) },
  { dst := some 24, op := .call .pure (.c (.fn 23 [] [])) [.t 22, .t 23], pre := [] },
  { dst := some 6, op := .mv (.t 24) }])
 (.seq (.reg true [{ dst := some 25, op := .mv (.t 5) },
  { dst := some 26, op := .mv (.t 6) },
  { dst := some 27, op := .mv (.t 5) },
  { dst := some 28, op := .bsl true 2 ([.nilp, .nilp]) [(0, 1, .t 26), (1, 1, .t 27)], pre := [] },
  { dst := some 29, op := .call .pure (.c (.fn 319 [] [])) [.t 25, .t 28], pre := [] },
  { dst := some 30, op := .ld (some 8) (.t 1), pre := [] },
  { dst := some 31, op := .ld (some 8) (.t 1), pre := [] },
  { dst := some 32, op := .call .pure (.c (.fn 313 [] [])) [.t 31], pre := [] },
  { dst := some 33, op := .call .pure (.c (.fn 321 [] [])) [.t 30, .t 32], pre := [] },
  { dst := some 34, op := .ld (some 8) (.t 1), pre := [] },
  { dst := some 35, op := .mv (.t 6) },
  { dst := some 36, op := .call .pure (.c (.fn 321 [] [])) [.t 34, .t 35], pre := [] },
  { dst := some 37, op := .ld (some 8) (.t 1), pre := [] },
  { dst := some 38, op := .call .pure (.c (.fn 294 [] [])) [.t 37], pre := [] },
  { dst := some 39, op := .mv (.t 4) },
  { dst := some 40, op := .bsl true 3 ([.nilp, .nilp, .nilp]) [(0, 1, .t 36), (1, 1, .t 38), (2, 1, .t 39)], pre := [] },
  { dst := some 41, op := .call .pure (.c (.fn 319 [] [])) [.t 33, .t 40], pre := [] },
  { dst := some 42, op := .call .pure (.c (.fn 24 [] [])) [.t 29, .t 41], pre := [] },
  { dst := some 2, op := .mv (.t 42) }])
 .ret)))) }
def A_power_any : AFun := { res := [.t 4], body := (.seq (.reg false [{ dst := some 2, op := .box (.t 0) },
  { dst := some 4, op := .mv (.c (.nilp)) }])
 (.seq (.reg true [{ dst := some 5, op := .mv (.t 1) },
  { dst := some 6, op := .call .pure (.c (.fn 12 [] [])) [.t 5], pre := [] },
  { dst := some 7, op := .fa 1 (.t 2) },
  { dst := some 8, op := .ld none (.t 7), pre := [] },
  { dst := some 9, op := .len (.t 8) },
  { dst := some 10, op := .call .pure (.c (.fn 11 [] [])) [.t 9, .c (.sl [] 0 .rig)], pre := [] },
  { dst := some 11, op := .call .pure (.c (.fn 16 [] [])) [.t 10], pre := [] },
  { dst := some 12, op := .call .pure (.c (.fn 24 [] [])) [.t 6, .t 11], pre := [] },
  { dst := some 4, op := .mv (.t 12) }])
 .ret)) }
def A_power_conditions_5 : AFun := { res := [.t 2], body := (.seq (.reg false [{ dst := some 1, op := .box (.t 0) },
  { dst := some 2, op := .mv (.c (.b false)) }])
 (.seq (.reg true [{ dst := some 3, op := .ld (some 8) (.t 1), pre := [] },
  { dst := some 4, op := .call .pure (.c (.fn 49 [] [])) [.t 3], pre := [] },
  { dst := some 5, op := .ld (some 8) (.t 1), pre := [] },
  { dst := some 6, op := .call .pure (.c (.fn 320 [] [])) [.t 5], pre := [] },
  { dst := some 7, op := .call .pure (.c (.fn 24 [] [])) [.t 4, .t 6], pre := [] },
  { dst := some 8, op := .call .pure (.c (.fn 14 [] [])) [.t 7], pre := [] },
  { dst := some 9, op := .un .not (.t 8) },
  { dst := some 2, op := .mv (.t 9) }])
 .ret)) }
def A_power_around : AFun := { res := [.t 4], body := (.seq (.reg false [{ dst := some 2, op := .boxI (.t 0) },
  { dst := some 3, op := .boxI (.t 1) },
  { dst := some 4, op := .mv (.c (.nilp)) }])
 (.seq (.reg true [{ dst := some 8, op := .ld (some 8) (.t 2), pre := [] },
  { dst := some 9, op := .call .pure (.c (.fn 166 [] [])) [.t 8, .c (.fn 349 [] [])], pre := [] },
  { dst := some 10, op := .ld (some 8) (.t 2), pre := [] },
  { dst := some 11, op := .ld (some 8) (.t 2), pre := [] },
  { dst := some 12, op := .call .pure (.c (.fn 60 [] [])) [.t 11], pre := [] },
  { dst := some 13, op := .call .pure (.c (.fn 312 [] [])) [.t 10, .t 12], pre := [] },
  { dst := some 5, op := .mv (.t 9) },
  { dst := some 6, op := .mv (.t 13) }])
 (.seq (.reg false [{ dst := some 14, op := .ld (some 8) (.t 2) },
  { dst := some 15, op := .mkfn 350 [] [.t 3] },
  { dst := some 16, op := .call .pure (.c (.fn 166 [] [])) [.t 14, .t 15] },
  { dst := some 7, op := .mv (.t 16) }])
 (.seq (.reg false [{ dst := some 17, op := .mv (.t 5) },
  { dst := some 18, op := .mv (.t 6) },
  { dst := some 19, op := .mv (.t 7) },
  { dst := some 20, op := .mv (.t 6) },
  { dst := some 21, op := .mv (.t 5) },
  { dst := some 22, op := .bsl true 4 (List.replicate 4 (.nilp)) [(0, 1, .t 18), (1, 1, .t 19), (2, 1, .t 20), (3, 1, .t 21)] },
  { dst := some 23, op := .call .pure (.c (.fn 319 [] [])) [.t 17, .t 22] },
  { dst := some 4, op := .mv (.t 23) }])
 .ret)))) }
def A_power_isW : AFun := { res := [.t 2], body := (.seq (.reg false [{ dst := some 1, op := .box (.t 0) },
  { dst := some 2, op := .mv (.c (.b false)) }])
 (.seq (.reg false [{ dst := some 3, op := .fa 1 (.t 1) },
  { dst := some 4, op := .ld none (.t 3) },
  { dst := some 5, op := .bin .eql (.t 4) (.c (.i .i64 2)) },
  { dst := some 2, op := .mv (.t 5) }])
 .ret)) }
def A_power_isR : AFun := { res := [.t 2], body := (.seq (.reg false [{ dst := some 1, op := .box (.t 0) },
  { dst := some 2, op := .mv (.c (.b false)) }])
 (.seq (.reg false [{ dst := some 3, op := .fa 1 (.t 1) },
  { dst := some 4, op := .ld none (.t 3) },
  { dst := some 5, op := .bin .eql (.t 4) (.c (.i .i64 1)) },
  { dst := some 2, op := .mv (.t 5) }])
 .ret)) }
def A_power_own_1 : AFun := { res := [.t 2], body := (.seq (.reg false [{ dst := some 1, op := .box (.t 0) },
  { dst := some 2, op := .mv (.c (.b false)) }])
 (.seq (.reg false [{ dst := some 3, op := .fa 0 (.t 1) },
  { dst := some 4, op := .ld none (.t 3) },
  { dst := some 5, op := .bin .neq (.t 4) (.c (.i .i64 0)) },
  { dst := some 2, op := .mv (.t 5) }])
 .ret)) }
def A_power_isM : AFun := { res := [.t 2], body := (.seq (.reg false [{ dst := some 1, op := .box (.t 0) },
  { dst := some 2, op := .mv (.c (.b false)) }])
 (.seq (.reg false [{ dst := some 3, op := .fa 1 (.t 1) },
  { dst := some 4, op := .ld none (.t 3) },
  { dst := some 5, op := .bin .eql (.t 4) (.c (.i .i64 1)) },
  { dst := some 6, op := .mv (.t 5) },
  { dst := some 7, op := .fa 1 (.t 1), grd := some (6, false) },
  { dst := some 8, op := .ld none (.t 7), grd := some (6, false) },
  { dst := some 9, op := .bin .eql (.t 8) (.c (.i .i64 2)), grd := some (6, false) },
  { dst := some 10, op := .pick (.t 6) (.c (.b true)) (.t 9) },
  { dst := some 2, op := .mv (.t 10) }])
 .ret)) }
def A_power_around_1 : AFun := { res := [.t 3], body := (.seq (.reg false [{ dst := some 2, op := .box (.t 0) },
  { dst := some 3, op := .mv (.c (.b false)) }])
 (.seq (.reg false [{ dst := some 4, op := .fa 1 (.t 2) },
  { dst := some 5, op := .ld none (.t 4) },
  { dst := some 6, op := .bin .eql (.t 5) (.c (.i .i64 3)) },
  { dst := some 7, op := .mv (.t 6) },
  { dst := some 8, op := .fa 2 (.t 2), grd := some (7, true) },
  { dst := some 9, op := .ld none (.t 8), grd := some (7, true) },
  { dst := some 10, op := .ld none (.t 1), grd := some (7, true) },
  { dst := some 11, op := .bin .eql (.t 9) (.t 10), grd := some (7, true) },
  { dst := some 12, op := .pick (.t 7) (.t 11) (.c (.b false)) },
  { dst := some 3, op := .mv (.t 12) }])
 .ret)) }
structure Pk_power (F : Funs) : Prop where
  power_Consistent : F 276 = some A_power_Consistent
  power_conditions : F 292 = some A_power_conditions
  power_Sync : F 294 = some A_power_Sync
  power_Fences : F 295 = some A_power_Fences
  power_conditions_1 : F 311 = some A_power_conditions_1
  power_own : F 312 = some A_power_own
  power_com : F 313 = some A_power_com
  power_conditions_2 : F 314 = some A_power_conditions_2
  power_conditions_3 : F 315 = some A_power_conditions_3
  power_Hb : F 316 = some A_power_Hb
  power_conditions_4 : F 317 = some A_power_conditions_4
  power_free : F 318 = some A_power_free
  power_then : F 319 = some A_power_then
  power_Prop : F 320 = some A_power_Prop
  power_any : F 321 = some A_power_any
  power_conditions_5 : F 322 = some A_power_conditions_5
  power_around : F 323 = some A_power_around
  power_isW : F 324 = some A_power_isW
  power_isR : F 325 = some A_power_isR
  power_own_1 : F 348 = some A_power_own_1
  power_isM : F 349 = some A_power_isM
  power_around_1 : F 350 = some A_power_around_1
end Go.Ab
end
section
namespace Go.Ab
def A_ppo_Ppo : AFun := { res := [.t 2], body := (.seq (.reg false [{ dst := some 1, op := .box (.t 0) },
  { dst := some 2, op := .mv (.c (.nilp)) }])
 (.seq (.reg false [{ dst := some 10, op := .ld (some 8) (.t 1) },
  { dst := some 11, op := .call .pure (.c (.fn 165 [] [])) [.t 10] },
  { dst := some 9, op := .mv (.t 11) },
  { dst := some 12, op := .ext 0 (.t 9) },
  { dst := some 13, op := .ext 1 (.t 9) },
  { dst := some 14, op := .ext 2 (.t 9) },
  { dst := some 15, op := .ext 3 (.t 9) },
  { dst := some 3, op := .mv (.t 12) },
  { dst := some 4, op := .mv (.t 13) },
  { dst := some 5, op := .mv (.t 14) },
  { dst := some 6, op := .mv (.t 15) }])
 (.seq (.reg true [{ dst := some 16, op := .ld (some 8) (.t 1), pre := [] },
  { dst := some 17, op := .call .pure (.c (.fn 166 [] [])) [.t 16, .c (.fn 167 [] [])], pre := [] },
  { dst := some 18, op := .ld (some 8) (.t 1), pre := [] },
  { dst := some 19, op := .call .pure (.c (.fn 166 [] [])) [.t 18, .c (.fn 168 [] [])], pre := [] },
  { dst := some 7, op := .mv (.t 17) },
  { dst := some 8, op := .mv (.t 19) }])
 (.seq (.reg false [{ dst := some 20, op := .mv (.t 7) },
  { dst := some 21, op := .mv (.t 3) },
  { dst := some 22, op := .call .pure (.c (.fn 23 [] [])) [.t 20, .t 21] },
  { dst := some 23, op := .mv (.t 7) },
  { dst := some 24, op := .call .pure (.c (.fn 23 [] [])) [.t 22, .t 23] },
  { dst := some 25, op := .mv (.t 7) },
  { dst := some 26, op := .mv (.t 4) },
  { dst := some 27, op := .call .pure (.c (.fn 23 [] [])) [.t 25, .t 26] },
  { dst := some 28, op := .mv (.t 8) },
  { dst := some 29, op := .call .pure (.c (.fn 23 [] [])) [.t 27, .t 28] },
  { dst := some 30, op := .call .pure (.c (.fn 24 [] [])) [.t 24, .t 29] },
  { dst := some 2, op := .mv (.t 30) }])
 .ret)))) }
def A_ppo_Rdw : AFun := { res := [.t 2], body := (.seq (.reg false [{ dst := some 1, op := .box (.t 0) },
  { dst := some 2, op := .mv (.c (.nilp)) }])
 (.seq (.reg true [{ dst := some 3, op := .ld (some 8) (.t 1), pre := [] },
  { dst := some 4, op := .ld (some 8) (.t 1), pre := [] },
  { dst := some 5, op := .call .pure (.c (.fn 50 [] [])) [.t 4], pre := [] },
  { dst := some 6, op := .call .pure (.c (.fn 170 [] [])) [.t 3, .t 5], pre := [] },
  { dst := some 2, op := .mv (.t 6) }])
 .ret)) }
def A_ppo_Detour : AFun := { res := [.t 2], body := (.seq (.reg false [{ dst := some 1, op := .box (.t 0) },
  { dst := some 2, op := .mv (.c (.nilp)) }])
 (.seq (.reg true [{ dst := some 3, op := .ld (some 8) (.t 1), pre := [] },
  { dst := some 4, op := .ld (some 8) (.t 1), pre := [] },
  { dst := some 5, op := .call .pure (.c (.fn 49 [] [])) [.t 4], pre := [] },
  { dst := some 6, op := .call .pure (.c (.fn 170 [] [])) [.t 3, .t 5], pre := [] },
  { dst := some 2, op := .mv (.t 6) }])
 .ret)) }
def A_ppo_Parts : AFun := { res := [.t 2, .t 3, .t 4, .t 5], body := (.seq (.reg false [{ dst := some 1, op := .box (.t 0) },
  { dst := some 2, op := .mv (.c (.nilp)) },
  { dst := some 3, op := .mv (.c (.nilp)) },
  { dst := some 4, op := .mv (.c (.nilp)) },
  { dst := some 5, op := .mv (.c (.nilp)) }])
 (.scp (.seq (.reg false [{ dst := some 14, op := .ld (some 8) (.t 1) },
  { dst := some 15, op := .call .pure (.c (.fn 166 [] [])) [.t 14, .c (.fn 219 [] [])] },
  { dst := some 6, op := .mv (.t 15) }])
 (.seq (.reg true [{ dst := some 16, op := .ld (some 8) (.t 1), pre := [] },
  { dst := some 17, op := .fa 5 (.t 1) },
  { dst := some 18, op := .ld none (.t 17), pre := [] },
  { dst := some 19, op := .call .pure (.c (.fn 81 [] [])) [.t 16, .t 18], pre := [] },
  { dst := some 20, op := .ld (some 8) (.t 1), pre := [] },
  { dst := some 21, op := .fa 6 (.t 1) },
  { dst := some 22, op := .ld none (.t 21), pre := [] },
  { dst := some 23, op := .call .pure (.c (.fn 81 [] [])) [.t 20, .t 22], pre := [] },
  { dst := some 24, op := .mv (.t 6) },
  { dst := some 25, op := .call .pure (.c (.fn 23 [] [])) [.t 23, .t 24], pre := [] },
  { dst := some 26, op := .ld (some 8) (.t 1), pre := [] },
  { dst := some 27, op := .fa 7 (.t 1) },
  { dst := some 28, op := .ld none (.t 27), pre := [] },
  { dst := some 29, op := .call .pure (.c (.fn 81 [] [])) [.t 26, .t 28], pre := [] },
  { dst := some 30, op := .mv (.t 6) },
  { dst := some 31, op := .call .pure (.c (.fn 23 [] [])) [.t 29, .t 30], pre := [] },
  { dst := some 7, op := .mv (.t 19) },
  { dst := some 8, op := .mv (.t 25) },
  { dst := some 9, op := .mv (.t 31) }])
 (.seq (.reg true [{ dst := some 32, op := .mv (.t 7) },
  { dst := some 33, op := .ld (some 8) (.t 1), pre := [] },
  { dst := some 34, op := .call .pure (.c (.fn 145 [] [])) [.t 33], pre := [] },
  { dst := some 35, op := .ld (some 8) (.t 1), pre := [] },
  { dst := some 36, op := .ld (some 8) (.t 1), pre := [] },
  { dst := some 37, op := .call .pure (.c (.fn 48 [] [])) [.t 36], pre := [] },
  { dst := some 38, op := .call .pure (.c (.fn 39 [] [])) [.t 35, .t 37], pre := [] },
  { dst := some 39, op := .bsl true 2 ([.nilp, .nilp]) [(0, 1, .t 34), (1, 1, .t 38)], pre := [] },
  { dst := some 40, op := .call .pure (.c (.fn 220 [] [])) [.t 32, .t 39], pre := [] },
  { dst := some 2, op := .mv (.t 40) }])
 (.seq (.reg false [{ dst := some 41, op := .fa 1 (.t 1) },
  { dst := some 42, op := .ld none (.t 41) },
  { dst := some 43, op := .len (.t 42) },
  { dst := some 44, op := .call .pure (.c (.fn 11 [] [])) [.t 43, .c (.sl [] 0 .rig)] },
  { dst := some 3, op := .mv (.t 44) }])
 (.seq (.reg false [{ dst := some 45, op := .mv (.t 9) },
  { dst := some 46, op := .ld (some 8) (.t 1) },
  { dst := some 47, op := .call .pure (.c (.fn 146 [] [])) [.t 46] },
  { dst := some 48, op := .bsl true 1 ([.nilp]) [(0, 1, .t 47)] },
  { dst := some 49, op := .call .pure (.c (.fn 220 [] [])) [.t 45, .t 48] },
  { dst := some 4, op := .mv (.t 49) }])
 (.seq (.reg false [{ dst := some 50, op := .mv (.t 7) },
  { dst := some 51, op := .ld (some 8) (.t 1) },
  { dst := some 52, op := .call .pure (.c (.fn 221 [] [])) [.t 51] },
  { dst := some 53, op := .mv (.t 8) },
  { dst := some 54, op := .bsl true 2 ([.nilp, .nilp]) [(0, 1, .t 52), (1, 1, .t 53)] },
  { dst := some 55, op := .call .pure (.c (.fn 220 [] [])) [.t 50, .t 54] },
  { dst := some 5, op := .mv (.t 55) }])
 (.seq .lab
 (.seq (.blk 0 (.loop (.blk 1 (.seq (.reg false [{ dst := some 56, op := .mv (.t 2) },
  { dst := some 57, op := .mv (.t 4) },
  { dst := some 58, op := .mv (.t 3) },
  { dst := some 59, op := .mv (.t 4) },
  { dst := some 60, op := .call .pure (.c (.fn 23 [] [])) [.t 58, .t 59] },
  { dst := some 61, op := .mv (.t 2) },
  { dst := some 62, op := .mv (.t 2) },
  { dst := some 63, op := .call .pure (.c (.fn 23 [] [])) [.t 61, .t 62] },
  { dst := some 64, op := .bsl true 3 ([.nilp, .nilp, .nilp]) [(0, 1, .t 57), (1, 1, .t 60), (2, 1, .t 63)] },
  { dst := some 65, op := .call .pure (.c (.fn 220 [] [])) [.t 56, .t 64] },
  { dst := some 10, op := .mv (.t 65) }])
 (.seq (.reg false [{ dst := some 66, op := .mv (.t 3) },
  { dst := some 67, op := .mv (.t 2) },
  { dst := some 68, op := .mv (.t 5) },
  { dst := some 69, op := .mv (.t 3) },
  { dst := some 70, op := .mv (.t 5) },
  { dst := some 71, op := .call .pure (.c (.fn 23 [] [])) [.t 69, .t 70] },
  { dst := some 72, op := .mv (.t 2) },
  { dst := some 73, op := .mv (.t 3) },
  { dst := some 74, op := .call .pure (.c (.fn 23 [] [])) [.t 72, .t 73] },
  { dst := some 75, op := .bsl true 4 (List.replicate 4 (.nilp)) [(0, 1, .t 67), (1, 1, .t 68), (2, 1, .t 71), (3, 1, .t 74)] },
  { dst := some 76, op := .call .pure (.c (.fn 220 [] [])) [.t 66, .t 75] },
  { dst := some 11, op := .mv (.t 76) }])
 (.seq (.reg false [{ dst := some 77, op := .mv (.t 4) },
  { dst := some 78, op := .mv (.t 4) },
  { dst := some 79, op := .mv (.t 2) },
  { dst := some 80, op := .call .pure (.c (.fn 23 [] [])) [.t 78, .t 79] },
  { dst := some 81, op := .mv (.t 5) },
  { dst := some 82, op := .mv (.t 4) },
  { dst := some 83, op := .call .pure (.c (.fn 23 [] [])) [.t 81, .t 82] },
  { dst := some 84, op := .bsl true 2 ([.nilp, .nilp]) [(0, 1, .t 80), (1, 1, .t 83)] },
  { dst := some 85, op := .call .pure (.c (.fn 220 [] [])) [.t 77, .t 84] },
  { dst := some 12, op := .mv (.t 85) }])
 (.seq (.reg false [{ dst := some 86, op := .mv (.t 5) },
  { dst := some 87, op := .mv (.t 4) },
  { dst := some 88, op := .mv (.t 4) },
  { dst := some 89, op := .mv (.t 3) },
  { dst := some 90, op := .call .pure (.c (.fn 23 [] [])) [.t 88, .t 89] },
  { dst := some 91, op := .mv (.t 5) },
  { dst := some 92, op := .mv (.t 5) },
  { dst := some 93, op := .call .pure (.c (.fn 23 [] [])) [.t 91, .t 92] },
  { dst := some 94, op := .bsl true 3 ([.nilp, .nilp, .nilp]) [(0, 1, .t 87), (1, 1, .t 90), (2, 1, .t 93)] },
  { dst := some 95, op := .call .pure (.c (.fn 220 [] [])) [.t 86, .t 94] },
  { dst := some 13, op := .mv (.t 95) }])
 (.seq (.seq (.reg false [{ dst := some 96, op := .mv (.t 10) },
  { dst := some 97, op := .mv (.t 2) },
  { dst := some 98, op := .call .pure (.c (.fn 22 [] [])) [.t 96, .t 97] },
  { dst := some 99, op := .mv (.t 98) },
  { dst := some 100, op := .mv (.t 11), grd := some (99, true) },
  { dst := some 101, op := .mv (.t 3), grd := some (99, true) },
  { dst := some 102, op := .call .pure (.c (.fn 22 [] [])) [.t 100, .t 101], grd := some (99, true) },
  { dst := some 103, op := .pick (.t 99) (.t 102) (.c (.b false)) },
  { dst := some 104, op := .mv (.t 103) },
  { dst := some 105, op := .mv (.t 12), grd := some (104, true) },
  { dst := some 106, op := .mv (.t 4), grd := some (104, true) },
  { dst := some 107, op := .call .pure (.c (.fn 22 [] [])) [.t 105, .t 106], grd := some (104, true) },
  { dst := some 108, op := .pick (.t 104) (.t 107) (.c (.b false)) },
  { dst := some 109, op := .mv (.t 108) },
  { dst := some 110, op := .mv (.t 13), grd := some (109, true) },
  { dst := some 111, op := .mv (.t 5), grd := some (109, true) },
  { dst := some 112, op := .call .pure (.c (.fn 22 [] [])) [.t 110, .t 111], grd := some (109, true) },
  { dst := some 113, op := .pick (.t 109) (.t 112) (.c (.b false)) }])
 (.cond (.t 113) (.ext 0)
 .skip))
 (.reg false [{ dst := some 114, op := .mv (.t 10) },
  { dst := some 115, op := .mv (.t 11) },
  { dst := some 116, op := .mv (.t 12) },
  { dst := some 117, op := .mv (.t 13) },
  { dst := some 2, op := .mv (.t 114) },
  { dst := some 3, op := .mv (.t 115) },
  { dst := some 4, op := .mv (.t 116) },
  { dst := some 5, op := .mv (.t 117) }])))))))))
 (.seq (.reg false [{ dst := some 118, op := .mv (.t 2) },
  { dst := some 119, op := .mv (.t 3) },
  { dst := some 120, op := .mv (.t 4) },
  { dst := some 121, op := .mv (.t 5) },
  { dst := some 2, op := .mv (.t 118) },
  { dst := some 3, op := .mv (.t 119) },
  { dst := some 4, op := .mv (.t 120) },
  { dst := some 5, op := .mv (.t 121) }])
 .ret))))))))))) }
def A_ppo_isR : AFun := { res := [.t 2], body := (.seq (.reg false [{ dst := some 1, op := .box (.t 0) },
  { dst := some 2, op := .mv (.c (.b false)) }])
 (.seq (.reg false [{ dst := some 3, op := .fa 1 (.t 1) },
  { dst := some 4, op := .ld none (.t 3) },
  { dst := some 5, op := .bin .eql (.t 4) (.c (.i .i64 1)) },
  { dst := some 2, op := .mv (.t 5) }])
 .ret)) }
def A_ppo_isW : AFun := { res := [.t 2], body := (.seq (.reg false [{ dst := some 1, op := .box (.t 0) },
  { dst := some 2, op := .mv (.c (.b false)) }])
 (.seq (.reg false [{ dst := some 3, op := .fa 1 (.t 1) },
  { dst := some 4, op := .ld none (.t 3) },
  { dst := some 5, op := .bin .eql (.t 4) (.c (.i .i64 2)) },
  { dst := some 2, op := .mv (.t 5) }])
 .ret)) }
def A_ppo_by : AFun := { res := [.t 4], body := (.seq (.reg false [{ dst := some 2, op := .box (.t 0) },
  { dst := some 4, op := .mv (.c (.nilp)) }])
 (.seq (.reg true [{ dst := some 5, op := .ld (some 8) (.t 2), pre := [] },
  { dst := some 6, op := .call .pure (.c (.fn 221 [] [])) [.t 5], pre := [] },
  { dst := some 7, op := .ld (some 8) (.t 2), pre := [] },
  { dst := some 8, op := .mv (.t 1) },
  { dst := some 9, op := .call .pure (.c (.fn 40 [] [])) [.t 7, .t 8], pre := [] },
  { dst := some 10, op := .ld (some 8) (.t 2), pre := [] },
  { dst := some 11, op := .ld (some 8) (.t 2), pre := [] },
  { dst := some 12, op := .call .pure (.c (.fn 48 [] [])) [.t 11], pre := [] },
  { dst := some 13, op := .call .pure (.c (.fn 40 [] [])) [.t 10, .t 12], pre := [] },
  { dst := some 14, op := .call .pure (.c (.fn 23 [] [])) [.t 9, .t 13], pre := [] },
  { dst := some 15, op := .call .pure (.c (.fn 18 [] [])) [.t 6, .t 14], pre := [] },
  { dst := some 4, op := .mv (.t 15) }])
 .ret)) }
def A_ppo_isM : AFun := { res := [.t 2], body := (.seq (.reg false [{ dst := some 1, op := .box (.t 0) },
  { dst := some 2, op := .mv (.c (.b false)) }])
 (.seq (.reg false [{ dst := some 3, op := .fa 1 (.t 1) },
  { dst := some 4, op := .ld none (.t 3) },
  { dst := some 5, op := .bin .eql (.t 4) (.c (.i .i64 1)) },
  { dst := some 6, op := .mv (.t 5) },
  { dst := some 7, op := .fa 1 (.t 1), grd := some (6, false) },
  { dst := some 8, op := .ld none (.t 7), grd := some (6, false) },
  { dst := some 9, op := .bin .eql (.t 8) (.c (.i .i64 2)), grd := some (6, false) },
  { dst := some 10, op := .pick (.t 6) (.c (.b true)) (.t 9) },
  { dst := some 2, op := .mv (.t 10) }])
 .ret)) }
def A_ppo_or : AFun := { res := [.t 4], body := (.seq (.reg false [{ dst := some 4, op := .mv (.c (.nilp)) }])
 (.seq (.seq (.reg false [{ dst := some 7, op := .mv (.t 1) },
  { dst := some 8, op := .len (.t 7) },
  { dst := some 9, op := .mv (.c (.i .i64 0)) }])
 (.blk 0 (.loop (.seq (.reg false [{ dst := some 10, op := .bin .lss (.t 9) (.t 8) }])
 (.seq (.cond (.t 10) .skip
 (.ext 0))
 (.seq (.blk 1 (.seq (.reg false [{ dst := some 11, op := .ia 1 (.t 7) (.t 9) },
  { dst := some 12, op := .ld none (.t 11) },
  { dst := some 6, op := .mv (.t 12) }])
 (.reg false [{ dst := some 13, op := .mv (.t 0) },
  { dst := some 14, op := .mv (.t 6) },
  { dst := some 15, op := .call .pure (.c (.fn 24 [] [])) [.t 13, .t 14] },
  { dst := some 0, op := .mv (.t 15) }])))
 (.reg false [{ dst := some 16, op := .bin .add (.t 9) (.c (.i .i64 1)) },
  { dst := some 9, op := .mv (.t 16) }])))))))
 (.seq (.reg false [{ dst := some 17, op := .mv (.t 0) },
  { dst := some 4, op := .mv (.t 17) }])
 .ret))) }
def A_ppo_ploc : AFun := { res := [.t 2], body := (.seq (.reg false [{ dst := some 1, op := .box (.t 0) },
  { dst := some 2, op := .mv (.c (.nilp)) }])
 (.seq (.reg false [{ dst := some 4, op := .ld (some 8) (.t 1) },
  { dst := some 5, op := .call .pure (.c (.fn 166 [] [])) [.t 4, .c (.fn 246 [] [])] },
  { dst := some 3, op := .mv (.t 5) }])
 (.seq (.reg true [{ dst := some 6, op := .mv (.t 3) },
  { dst := some 7, op := .ld (some 8) (.t 1), pre := [] },
  { dst := some 8, op := .ld (some 8) (.t 1), pre := [] },
  { dst := some 9, op := .call .pure (.c (.fn 41 [] [])) [.t 8], pre := [] },
  { dst := some 10, op := .call .pure (.c (.fn 39 [] [])) [.t 7, .t 9], pre := [] },
  { dst := some 11, op := .call .pure (.c (.fn 23 [] [])) [.t 6, .t 10], pre := [] },
  { dst := some 2, op := .mv (.t 11) }])
 .ret))) }
def A_ppo_ploc_1 : AFun := { res := [.t 2], body := (.seq (.reg false [{ dst := some 1, op := .box (.t 0) },
  { dst := some 2, op := .mv (.c (.b false)) }])
 (.seq (.reg false [{ dst := some 3, op := .fa 0 (.t 1) },
  { dst := some 4, op := .ld none (.t 3) },
  { dst := some 5, op := .bin .neq (.t 4) (.c (.i .i64 0)) },
  { dst := some 2, op := .mv (.t 5) }])
 .ret)) }
structure Pk_ppo (F : Funs) : Prop where
  ppo_Ppo : F 143 = some A_ppo_Ppo
  ppo_Rdw : F 145 = some A_ppo_Rdw
  ppo_Detour : F 146 = some A_ppo_Detour
  ppo_Parts : F 165 = some A_ppo_Parts
  ppo_isR : F 167 = some A_ppo_isR
  ppo_isW : F 168 = some A_ppo_isW
  ppo_by : F 170 = some A_ppo_by
  ppo_isM : F 219 = some A_ppo_isM
  ppo_or : F 220 = some A_ppo_or
  ppo_ploc : F 221 = some A_ppo_ploc
  ppo_ploc_1 : F 246 = some A_ppo_ploc_1
end Go.Ab
end
section
namespace Go.Ab
def A_rel_New : AFun := { res := [.t 4], body := (.seq (.reg false [{ dst := some 4, op := .mv (.c (.nilp)) }])
 (.seq (.reg false [{ dst := some 8, op := .mv (.t 0) },
  { dst := some 9, op := .mn (.t 8) (.c (.i .i64 40)) },
  { dst := some 10, op := .mx (.c (.i .i64 0)) (.t 9) },
  { dst := some 11, op := .build ([.i .i64 0] ++ List.replicate 40 (.i .u64 0)) [(0, 1, .t 10)] },
  { dst := some 12, op := .box (.t 11) },
  { dst := some 5, op := .mv (.t 12) }])
 (.seq (.seq (.reg false [{ dst := some 13, op := .mv (.t 1) },
  { dst := some 14, op := .len (.t 13) },
  { dst := some 15, op := .mv (.c (.i .i64 0)) }])
 (.blk 0 (.loop (.seq (.reg false [{ dst := some 16, op := .bin .lss (.t 15) (.t 14) }])
 (.seq (.cond (.t 16) .skip
 (.ext 0))
 (.seq (.blk 1 (.seq (.reg false [{ dst := some 17, op := .ia 2 (.t 13) (.t 15) },
  { dst := some 18, op := .ld (some 2) (.t 17) },
  { dst := some 7, op := .new ([.i .i64 0, .i .i64 0]) },
  { dst := none, op := .st 2 (.t 7) (.t 18) }])
 (.seq (.reg true [{ dst := some 19, op := .fa 0 (.t 7) },
  { dst := some 20, op := .ld none (.t 19), pre := [] },
  { dst := some 21, op := .bin .geq (.t 20) (.c (.i .i64 0)) },
  { dst := some 22, op := .mv (.t 21) },
  { dst := some 23, op := .fa 0 (.t 7), grd := some (22, true) },
  { dst := some 24, op := .ld none (.t 23), grd := some (22, true), pre := [] },
  { dst := some 25, op := .mv (.t 5), grd := some (22, true) },
  { dst := some 26, op := .nilck (.t 25), grd := some (22, true) },
  { dst := some 27, op := .fa 0 (.t 26), grd := some (22, true) },
  { dst := some 28, op := .ld none (.t 27), grd := some (22, true), pre := [] },
  { dst := some 29, op := .bin .lss (.t 24) (.t 28), grd := some (22, true) },
  { dst := some 30, op := .pick (.t 22) (.t 29) (.c (.b false)) },
  { dst := some 31, op := .mv (.t 30) },
  { dst := some 32, op := .fa 1 (.t 7), grd := some (31, true) },
  { dst := some 33, op := .ld none (.t 32), grd := some (31, true), pre := [] },
  { dst := some 34, op := .bin .geq (.t 33) (.c (.i .i64 0)), grd := some (31, true) },
  { dst := some 35, op := .pick (.t 31) (.t 34) (.c (.b false)) },
  { dst := some 36, op := .mv (.t 35) },
  { dst := some 37, op := .fa 1 (.t 7), grd := some (36, true) },
  { dst := some 38, op := .ld none (.t 37), grd := some (36, true), pre := [] },
  { dst := some 39, op := .mv (.t 5), grd := some (36, true) },
  { dst := some 40, op := .nilck (.t 39), grd := some (36, true) },
  { dst := some 41, op := .fa 0 (.t 40), grd := some (36, true) },
  { dst := some 42, op := .ld none (.t 41), grd := some (36, true), pre := [] },
  { dst := some 43, op := .bin .lss (.t 38) (.t 42), grd := some (36, true) },
  { dst := some 44, op := .pick (.t 36) (.t 43) (.c (.b false)) }])
 (.cond (.t 44) (.reg true [{ dst := some 45, op := .mv (.t 5) },
  { dst := some 46, op := .fa 0 (.t 7) },
  { dst := some 47, op := .ld none (.t 46), pre := [] },
  { dst := some 48, op := .nilck (.t 45) },
  { dst := some 49, op := .fa 1 (.t 48) },
  { dst := some 50, op := .iaa 40 1 (.t 49) (.t 47) },
  { dst := some 51, op := .ld none (.t 50), pre := [] },
  { dst := some 52, op := .fa 1 (.t 7) },
  { dst := some 53, op := .ld none (.t 52), pre := [] },
  { dst := some 54, op := .bin .shl (.c (.i .u64 1)) (.t 53) },
  { dst := some 55, op := .bin .or (.t 51) (.t 54) },
  { dst := some 56, op := .nilck (.t 45) },
  { dst := some 57, op := .fa 1 (.t 56) },
  { dst := some 58, op := .iaa 40 1 (.t 57) (.t 47) },
  { dst := none, op := .st 1 (.t 58) (.t 55), pre := [] }])
 .skip))))
 (.reg false [{ dst := some 59, op := .bin .add (.t 15) (.c (.i .i64 1)) },
  { dst := some 15, op := .mv (.t 59) }])))))))
 (.seq (.reg false [{ dst := some 60, op := .mv (.t 5) },
  { dst := some 4, op := .mv (.t 60) }])
 .ret)))) }
def A_rel_Rel_Plus : AFun := { res := [.t 2], body := (.seq (.reg false [{ dst := some 2, op := .mv (.c (.nilp)) }])
 (.seq (.reg false [{ dst := some 6, op := .mv (.t 0) },
  { dst := some 7, op := .nilck (.t 6) },
  { dst := some 8, op := .ld (some 41) (.t 7) },
  { dst := some 3, op := .new ([.i .i64 0] ++ List.replicate 40 (.i .u64 0)) },
  { dst := none, op := .st 41 (.t 3) (.t 8) }])
 (.seq (.seq (.reg false [{ dst := some 9, op := .mv (.t 0) },
  { dst := some 10, op := .nilck (.t 9) },
  { dst := some 11, op := .fa 0 (.t 10) },
  { dst := some 12, op := .ld none (.t 11) },
  { dst := some 13, op := .mv (.c (.i .i64 0)) }])
 (.blk 0 (.loop (.seq (.reg false [{ dst := some 14, op := .bin .lss (.t 13) (.t 12) }])
 (.seq (.cond (.t 14) .skip
 (.ext 0))
 (.seq (.blk 1 (.seq (.reg false [{ dst := some 15, op := .mv (.t 13) },
  { dst := some 4, op := .mv (.t 15) }])
 (.seq (.reg false [{ dst := some 16, op := .mv (.t 0) },
  { dst := some 17, op := .nilck (.t 16) },
  { dst := some 18, op := .fa 0 (.t 17) },
  { dst := some 19, op := .ld none (.t 18) },
  { dst := some 20, op := .mv (.c (.i .i64 0)) }])
 (.blk 2 (.loop (.seq (.reg false [{ dst := some 21, op := .bin .lss (.t 20) (.t 19) }])
 (.seq (.cond (.t 21) .skip
 (.ext 2))
 (.seq (.blk 3 (.seq (.reg false [{ dst := some 22, op := .mv (.t 20) },
  { dst := some 5, op := .mv (.t 22) }])
 (.seq (.reg false [{ dst := some 23, op := .mv (.t 5) },
  { dst := some 24, op := .mv (.t 4) },
  { dst := some 25, op := .call .pure (.c (.fn 13 [] [])) [.t 3, .t 23, .t 24] }])
 (.cond (.t 25) (.reg true [{ dst := some 26, op := .mv (.t 5) },
  { dst := some 27, op := .fa 1 (.t 3) },
  { dst := some 28, op := .iaa 40 1 (.t 27) (.t 26) },
  { dst := some 29, op := .ld none (.t 28), pre := [] },
  { dst := some 30, op := .mv (.t 4) },
  { dst := some 31, op := .fa 1 (.t 3) },
  { dst := some 32, op := .iaa 40 1 (.t 31) (.t 30) },
  { dst := some 33, op := .ld none (.t 32), pre := [] },
  { dst := some 34, op := .bin .or (.t 29) (.t 33) },
  { dst := some 35, op := .fa 1 (.t 3) },
  { dst := some 36, op := .iaa 40 1 (.t 35) (.t 26) },
  { dst := none, op := .st 1 (.t 36) (.t 34), pre := [] }])
 .skip))))
 (.reg false [{ dst := some 37, op := .bin .add (.t 20) (.c (.i .i64 1)) },
  { dst := some 20, op := .mv (.t 37) }])))))))))
 (.reg false [{ dst := some 38, op := .bin .add (.t 13) (.c (.i .i64 1)) },
  { dst := some 13, op := .mv (.t 38) }])))))))
 (.seq (.reg false [{ dst := some 2, op := .mv (.t 3) }])
 .ret)))) }
def A_rel_Rel_Has : AFun := { res := [.t 6], body := (.seq (.reg false [{ dst := some 6, op := .mv (.c (.b false)) }])
 (.seq (.reg false [{ dst := some 7, op := .mv (.t 1) },
  { dst := some 8, op := .bin .geq (.t 7) (.c (.i .i64 0)) },
  { dst := some 9, op := .mv (.t 8) },
  { dst := some 10, op := .mv (.t 1), grd := some (9, true) },
  { dst := some 11, op := .mv (.t 0), grd := some (9, true) },
  { dst := some 12, op := .nilck (.t 11), grd := some (9, true) },
  { dst := some 13, op := .fa 0 (.t 12), grd := some (9, true) },
  { dst := some 14, op := .ld none (.t 13), grd := some (9, true) },
  { dst := some 15, op := .bin .lss (.t 10) (.t 14), grd := some (9, true) },
  { dst := some 16, op := .pick (.t 9) (.t 15) (.c (.b false)) },
  { dst := some 17, op := .mv (.t 16) },
  { dst := some 18, op := .mv (.t 2), grd := some (17, true) },
  { dst := some 19, op := .bin .geq (.t 18) (.c (.i .i64 0)), grd := some (17, true) },
  { dst := some 20, op := .pick (.t 17) (.t 19) (.c (.b false)) },
  { dst := some 21, op := .mv (.t 20) },
  { dst := some 22, op := .mv (.t 2), grd := some (21, true) },
  { dst := some 23, op := .mv (.t 0), grd := some (21, true) },
  { dst := some 24, op := .nilck (.t 23), grd := some (21, true) },
  { dst := some 25, op := .fa 0 (.t 24), grd := some (21, true) },
  { dst := some 26, op := .ld none (.t 25), grd := some (21, true) },
  { dst := some 27, op := .bin .lss (.t 22) (.t 26), grd := some (21, true) },
  { dst := some 28, op := .pick (.t 21) (.t 27) (.c (.b false)) },
  { dst := some 29, op := .mv (.t 28) },
  { dst := some 30, op := .mv (.t 0), grd := some (29, true) },
  { dst := some 31, op := .mv (.t 1), grd := some (29, true) },
  { dst := some 32, op := .nilck (.t 30), grd := some (29, true) },
  { dst := some 33, op := .fa 1 (.t 32), grd := some (29, true) },
  { dst := some 34, op := .iaa 40 1 (.t 33) (.t 31), grd := some (29, true) },
  { dst := some 35, op := .ld none (.t 34), grd := some (29, true) },
  { dst := some 36, op := .mv (.t 2), grd := some (29, true) },
  { dst := some 37, op := .bin .shr (.t 35) (.t 36), grd := some (29, true) },
  { dst := some 38, op := .bin .and (.t 37) (.c (.i .u64 1)), grd := some (29, true) },
  { dst := some 39, op := .bin .neq (.t 38) (.c (.i .u64 0)), grd := some (29, true) },
  { dst := some 40, op := .pick (.t 29) (.t 39) (.c (.b false)) },
  { dst := some 6, op := .mv (.t 40) }])
 .ret)) }
def A_rel_Rel_Loops : AFun := { res := [.t 2], body := (.seq (.reg false [{ dst := some 2, op := .mv (.c (.b false)) }])
 (.seq (.reg false [{ dst := some 5, op := .mv (.t 0) },
  { dst := some 6, op := .call .pure (.c (.fn 12 [] [])) [.t 5] },
  { dst := some 3, op := .mv (.t 6) }])
 (.seq (.seq (.reg false [{ dst := some 7, op := .mv (.t 0) },
  { dst := some 8, op := .nilck (.t 7) },
  { dst := some 9, op := .fa 0 (.t 8) },
  { dst := some 10, op := .ld none (.t 9) },
  { dst := some 11, op := .mv (.c (.i .i64 0)) }])
 (.blk 0 (.loop (.seq (.reg false [{ dst := some 12, op := .bin .lss (.t 11) (.t 10) }])
 (.seq (.cond (.t 12) .skip
 (.ext 0))
 (.seq (.blk 1 (.seq (.reg false [{ dst := some 13, op := .mv (.t 11) },
  { dst := some 4, op := .mv (.t 13) }])
 (.seq (.reg false [{ dst := some 14, op := .mv (.t 3) },
  { dst := some 15, op := .mv (.t 4) },
  { dst := some 16, op := .mv (.t 4) },
  { dst := some 17, op := .call .pure (.c (.fn 13 [] [])) [.t 14, .t 15, .t 16] }])
 (.cond (.t 17) (.seq (.reg false [{ dst := some 2, op := .mv (.c (.b true)) }])
 .ret)
 .skip))))
 (.reg false [{ dst := some 18, op := .bin .add (.t 11) (.c (.i .i64 1)) },
  { dst := some 11, op := .mv (.t 18) }])))))))
 (.seq (.reg false [{ dst := some 2, op := .mv (.c (.b false)) }])
 .ret)))) }
def A_rel_Rel_Pairs : AFun := { res := [.t 2], body := (.seq (.reg false [{ dst := some 2, op := .mv (.c (.sl [] 0 .rig)) }])
 (.seq (.reg false [{ dst := some 3, op := .mv (.c (.sl [] 0 .rig)) }])
 (.seq (.seq (.reg false [{ dst := some 6, op := .mv (.t 0) },
  { dst := some 7, op := .nilck (.t 6) },
  { dst := some 8, op := .fa 0 (.t 7) },
  { dst := some 9, op := .ld none (.t 8) },
  { dst := some 10, op := .mv (.c (.i .i64 0)) }])
 (.blk 0 (.loop (.seq (.reg false [{ dst := some 11, op := .bin .lss (.t 10) (.t 9) }])
 (.seq (.cond (.t 11) .skip
 (.ext 0))
 (.seq (.blk 1 (.seq (.reg false [{ dst := some 12, op := .mv (.t 10) },
  { dst := some 4, op := .mv (.t 12) }])
 (.seq (.reg false [{ dst := some 13, op := .mv (.t 0) },
  { dst := some 14, op := .nilck (.t 13) },
  { dst := some 15, op := .fa 0 (.t 14) },
  { dst := some 16, op := .ld none (.t 15) },
  { dst := some 17, op := .mv (.c (.i .i64 0)) }])
 (.blk 2 (.loop (.seq (.reg false [{ dst := some 18, op := .bin .lss (.t 17) (.t 16) }])
 (.seq (.cond (.t 18) .skip
 (.ext 2))
 (.seq (.blk 3 (.seq (.reg false [{ dst := some 19, op := .mv (.t 17) },
  { dst := some 5, op := .mv (.t 19) }])
 (.seq (.reg false [{ dst := some 20, op := .mv (.t 0) },
  { dst := some 21, op := .mv (.t 4) },
  { dst := some 22, op := .mv (.t 5) },
  { dst := some 23, op := .call .pure (.c (.fn 13 [] [])) [.t 20, .t 21, .t 22] }])
 (.cond (.t 23) (.reg false [{ dst := some 24, op := .mv (.t 3) },
  { dst := some 25, op := .mv (.t 4) },
  { dst := some 26, op := .mv (.t 5) },
  { dst := some 27, op := .build ([.i .i64 0, .i .i64 0]) [(0, 1, .t 25), (1, 1, .t 26)] },
  { dst := some 28, op := .bsl true 1 ([.i .i64 0, .i .i64 0]) [(0, 2, .t 27)] },
  { dst := some 29, op := .app 2 16 (.t 24) (.t 28) },
  { dst := some 3, op := .mv (.t 29) }])
 .skip))))
 (.reg false [{ dst := some 30, op := .bin .add (.t 17) (.c (.i .i64 1)) },
  { dst := some 17, op := .mv (.t 30) }])))))))))
 (.reg false [{ dst := some 31, op := .bin .add (.t 10) (.c (.i .i64 1)) },
  { dst := some 10, op := .mv (.t 31) }])))))))
 (.seq (.reg false [{ dst := some 32, op := .mv (.t 3) },
  { dst := some 2, op := .mv (.t 32) }])
 .ret)))) }
def A_rel_Rel_Maybe : AFun := { res := [.t 2], body := (.seq (.reg false [{ dst := some 2, op := .mv (.c (.nilp)) }])
 (.seq (.reg false [{ dst := some 5, op := .mv (.t 0) },
  { dst := some 6, op := .nilck (.t 5) },
  { dst := some 7, op := .ld (some 41) (.t 6) },
  { dst := some 3, op := .new ([.i .i64 0] ++ List.replicate 40 (.i .u64 0)) },
  { dst := none, op := .st 41 (.t 3) (.t 7) }])
 (.seq (.seq (.reg false [{ dst := some 8, op := .mv (.t 0) },
  { dst := some 9, op := .nilck (.t 8) },
  { dst := some 10, op := .fa 0 (.t 9) },
  { dst := some 11, op := .ld none (.t 10) },
  { dst := some 12, op := .mv (.c (.i .i64 0)) }])
 (.blk 0 (.loop (.seq (.reg false [{ dst := some 13, op := .bin .lss (.t 12) (.t 11) }])
 (.seq (.cond (.t 13) .skip
 (.ext 0))
 (.seq (.blk 1 (.seq (.reg false [{ dst := some 14, op := .mv (.t 12) },
  { dst := some 4, op := .mv (.t 14) }])
 (.reg true [{ dst := some 15, op := .mv (.t 4) },
  { dst := some 16, op := .fa 1 (.t 3) },
  { dst := some 17, op := .iaa 40 1 (.t 16) (.t 15) },
  { dst := some 18, op := .ld none (.t 17), pre := [] },
  { dst := some 19, op := .mv (.t 4) },
  { dst := some 20, op := .bin .shl (.c (.i .u64 1)) (.t 19) },
  { dst := some 21, op := .bin .or (.t 18) (.t 20) },
  { dst := some 22, op := .fa 1 (.t 3) },
  { dst := some 23, op := .iaa 40 1 (.t 22) (.t 15) },
  { dst := none, op := .st 1 (.t 23) (.t 21), pre := [] }])))
 (.reg false [{ dst := some 24, op := .bin .add (.t 12) (.c (.i .i64 1)) },
  { dst := some 12, op := .mv (.t 24) }])))))))
 (.seq (.reg false [{ dst := some 2, op := .mv (.t 3) }])
 .ret)))) }
def A_rel_Rel_Len : AFun := { res := [.t 2], body := (.seq (.reg false [{ dst := some 2, op := .mv (.c (.i .i64 0)) }])
 (.seq (.reg false [{ dst := some 3, op := .mv (.t 0) },
  { dst := some 4, op := .nilck (.t 3) },
  { dst := some 5, op := .fa 0 (.t 4) },
  { dst := some 6, op := .ld none (.t 5) },
  { dst := some 2, op := .mv (.t 6) }])
 .ret)) }
def A_rel_Rel_And : AFun := { res := [.t 4], body := (.seq (.reg false [{ dst := some 4, op := .mv (.c (.nilp)) }])
 (.seq (.reg false [{ dst := some 5, op := .mv (.t 0) },
  { dst := some 6, op := .mv (.t 1) },
  { dst := some 7, op := .call .pure (.c (.fn 51 [] [])) [.t 5, .t 6, .c (.fn 52 [] [])] },
  { dst := some 4, op := .mv (.t 7) }])
 .ret)) }
def A_rel_Rel_In : AFun := { res := [.t 4], body := (.seq (.reg false [{ dst := some 4, op := .mv (.c (.b false)) }])
 (.seq (.reg false [{ dst := some 5, op := .mv (.t 0) },
  { dst := some 6, op := .mv (.t 1) },
  { dst := some 7, op := .call .pure (.c (.fn 26 [] [])) [.t 5, .t 6] },
  { dst := some 8, op := .nilck (.t 7) },
  { dst := some 9, op := .fa 1 (.t 8) },
  { dst := some 10, op := .ld (some 40) (.t 9) },
  { dst := some 11, op := .build (List.replicate 40 (.i .u64 0)) [] },
  { dst := some 12, op := .eqa false (List.replicate 40 0) (.t 10) (.t 11) },
  { dst := some 4, op := .mv (.t 12) }])
 .ret)) }
def A_rel_Rel_Then : AFun := { res := [.t 4], body := (.seq (.reg false [{ dst := some 4, op := .mv (.c (.nilp)) }])
 (.seq (.reg true [{ dst := some 8, op := .mv (.t 0) },
  { dst := some 9, op := .nilck (.t 8) },
  { dst := some 10, op := .fa 0 (.t 9) },
  { dst := some 11, op := .ld none (.t 10), pre := [] },
  { dst := some 12, op := .mv (.t 1) },
  { dst := some 13, op := .nilck (.t 12) },
  { dst := some 14, op := .fa 0 (.t 13) },
  { dst := some 15, op := .ld none (.t 14), pre := [] },
  { dst := some 16, op := .mx (.t 11) (.t 15) },
  { dst := some 17, op := .build ([.i .i64 0] ++ List.replicate 40 (.i .u64 0)) [(0, 1, .t 16)] },
  { dst := some 18, op := .box (.t 17) },
  { dst := some 5, op := .mv (.t 18) }])
 (.seq (.seq (.reg false [{ dst := some 19, op := .mv (.t 0) },
  { dst := some 20, op := .nilck (.t 19) },
  { dst := some 21, op := .fa 0 (.t 20) },
  { dst := some 22, op := .ld none (.t 21) },
  { dst := some 23, op := .mv (.c (.i .i64 0)) }])
 (.blk 0 (.loop (.seq (.reg false [{ dst := some 24, op := .bin .lss (.t 23) (.t 22) }])
 (.seq (.cond (.t 24) .skip
 (.ext 0))
 (.seq (.blk 1 (.seq (.reg false [{ dst := some 25, op := .mv (.t 23) },
  { dst := some 6, op := .mv (.t 25) }])
 (.seq (.reg false [{ dst := some 26, op := .mv (.t 0) },
  { dst := some 27, op := .nilck (.t 26) },
  { dst := some 28, op := .fa 0 (.t 27) },
  { dst := some 29, op := .ld none (.t 28) },
  { dst := some 30, op := .mv (.c (.i .i64 0)) }])
 (.blk 2 (.loop (.seq (.reg false [{ dst := some 31, op := .bin .lss (.t 30) (.t 29) }])
 (.seq (.cond (.t 31) .skip
 (.ext 2))
 (.seq (.blk 3 (.seq (.reg false [{ dst := some 32, op := .mv (.t 30) },
  { dst := some 7, op := .mv (.t 32) }])
 (.seq (.reg false [{ dst := some 33, op := .mv (.t 0) },
  { dst := some 34, op := .mv (.t 6) },
  { dst := some 35, op := .mv (.t 7) },
  { dst := some 36, op := .call .pure (.c (.fn 13 [] [])) [.t 33, .t 34, .t 35] }])
 (.cond (.t 36) (.reg true [{ dst := some 37, op := .mv (.t 5) },
  { dst := some 38, op := .mv (.t 6) },
  { dst := some 39, op := .nilck (.t 37) },
  { dst := some 40, op := .fa 1 (.t 39) },
  { dst := some 41, op := .iaa 40 1 (.t 40) (.t 38) },
  { dst := some 42, op := .ld none (.t 41), pre := [] },
  { dst := some 43, op := .mv (.t 1) },
  { dst := some 44, op := .mv (.t 7) },
  { dst := some 45, op := .nilck (.t 43) },
  { dst := some 46, op := .fa 1 (.t 45) },
  { dst := some 47, op := .iaa 40 1 (.t 46) (.t 44) },
  { dst := some 48, op := .ld none (.t 47), pre := [] },
  { dst := some 49, op := .bin .or (.t 42) (.t 48) },
  { dst := some 50, op := .nilck (.t 37) },
  { dst := some 51, op := .fa 1 (.t 50) },
  { dst := some 52, op := .iaa 40 1 (.t 51) (.t 38) },
  { dst := none, op := .st 1 (.t 52) (.t 49), pre := [] }])
 .skip))))
 (.reg false [{ dst := some 53, op := .bin .add (.t 30) (.c (.i .i64 1)) },
  { dst := some 30, op := .mv (.t 53) }])))))))))
 (.reg false [{ dst := some 54, op := .bin .add (.t 23) (.c (.i .i64 1)) },
  { dst := some 23, op := .mv (.t 54) }])))))))
 (.seq (.reg false [{ dst := some 55, op := .mv (.t 5) },
  { dst := some 4, op := .mv (.t 55) }])
 .ret)))) }
def A_rel_Rel_Or : AFun := { res := [.t 4], body := (.seq (.reg false [{ dst := some 4, op := .mv (.c (.nilp)) }])
 (.seq (.reg false [{ dst := some 5, op := .mv (.t 0) },
  { dst := some 6, op := .mv (.t 1) },
  { dst := some 7, op := .call .pure (.c (.fn 51 [] [])) [.t 5, .t 6, .c (.fn 53 [] [])] },
  { dst := some 4, op := .mv (.t 7) }])
 .ret)) }
def A_rel_Rel_Less : AFun := { res := [.t 4], body := (.seq (.reg false [{ dst := some 4, op := .mv (.c (.nilp)) }])
 (.seq (.reg false [{ dst := some 5, op := .mv (.t 0) },
  { dst := some 6, op := .mv (.t 1) },
  { dst := some 7, op := .call .pure (.c (.fn 51 [] [])) [.t 5, .t 6, .c (.fn 54 [] [])] },
  { dst := some 4, op := .mv (.t 7) }])
 .ret)) }
def A_rel_Rel_by : AFun := { res := [.t 6], body := (.seq (.reg false [{ dst := some 6, op := .mv (.c (.nilp)) }])
 (.seq (.reg true [{ dst := some 9, op := .mv (.t 0) },
  { dst := some 10, op := .nilck (.t 9) },
  { dst := some 11, op := .fa 0 (.t 10) },
  { dst := some 12, op := .ld none (.t 11), pre := [] },
  { dst := some 13, op := .mv (.t 1) },
  { dst := some 14, op := .nilck (.t 13) },
  { dst := some 15, op := .fa 0 (.t 14) },
  { dst := some 16, op := .ld none (.t 15), pre := [] },
  { dst := some 17, op := .mx (.t 12) (.t 16) },
  { dst := some 18, op := .build ([.i .i64 0] ++ List.replicate 40 (.i .u64 0)) [(0, 1, .t 17)] },
  { dst := some 19, op := .box (.t 18) },
  { dst := some 7, op := .mv (.t 19) }])
 (.seq (.seq (.reg false [{ dst := some 20, op := .mv (.c (.i .i64 0)) }])
 (.blk 0 (.loop (.seq (.reg false [{ dst := some 21, op := .bin .lss (.t 20) (.c (.i .i64 40)) }])
 (.seq (.cond (.t 21) .skip
 (.ext 0))
 (.seq (.blk 1 (.seq (.reg false [{ dst := some 22, op := .mv (.t 20) },
  { dst := some 8, op := .mv (.t 22) }])
 (.reg true [{ dst := some 23, op := .mv (.t 7) },
  { dst := some 24, op := .mv (.t 8) },
  { dst := some 25, op := .mv (.t 2) },
  { dst := some 26, op := .mv (.t 0) },
  { dst := some 27, op := .mv (.t 8) },
  { dst := some 28, op := .nilck (.t 26) },
  { dst := some 29, op := .fa 1 (.t 28) },
  { dst := some 30, op := .iaa 40 1 (.t 29) (.t 27) },
  { dst := some 31, op := .ld none (.t 30), pre := [] },
  { dst := some 32, op := .mv (.t 1) },
  { dst := some 33, op := .mv (.t 8) },
  { dst := some 34, op := .nilck (.t 32) },
  { dst := some 35, op := .fa 1 (.t 34) },
  { dst := some 36, op := .iaa 40 1 (.t 35) (.t 33) },
  { dst := some 37, op := .ld none (.t 36), pre := [] },
  { dst := some 38, op := .call .pure (.t 25) [.t 31, .t 37], pre := [] },
  { dst := some 39, op := .nilck (.t 23) },
  { dst := some 40, op := .fa 1 (.t 39) },
  { dst := some 41, op := .iaa 40 1 (.t 40) (.t 24) },
  { dst := none, op := .st 1 (.t 41) (.t 38), pre := [] }])))
 (.reg false [{ dst := some 42, op := .bin .add (.t 20) (.c (.i .i64 1)) },
  { dst := some 20, op := .mv (.t 42) }])))))))
 (.seq (.reg false [{ dst := some 43, op := .mv (.t 7) },
  { dst := some 6, op := .mv (.t 43) }])
 .ret)))) }
def A_rel_Rel_And_1 : AFun := { res := [.t 4], body := (.seq (.reg false [{ dst := some 4, op := .mv (.c (.i .u64 0)) }])
 (.seq (.reg false [{ dst := some 5, op := .mv (.t 0) },
  { dst := some 6, op := .mv (.t 1) },
  { dst := some 7, op := .bin .and (.t 5) (.t 6) },
  { dst := some 4, op := .mv (.t 7) }])
 .ret)) }
def A_rel_Rel_Or_1 : AFun := { res := [.t 4], body := (.seq (.reg false [{ dst := some 4, op := .mv (.c (.i .u64 0)) }])
 (.seq (.reg false [{ dst := some 5, op := .mv (.t 0) },
  { dst := some 6, op := .mv (.t 1) },
  { dst := some 7, op := .bin .or (.t 5) (.t 6) },
  { dst := some 4, op := .mv (.t 7) }])
 .ret)) }
def A_rel_Rel_Less_1 : AFun := { res := [.t 4], body := (.seq (.reg false [{ dst := some 4, op := .mv (.c (.i .u64 0)) }])
 (.seq (.reg false [{ dst := some 5, op := .mv (.t 0) },
  { dst := some 6, op := .mv (.t 1) },
  { dst := some 7, op := .bin .andNot (.t 5) (.t 6) },
  { dst := some 4, op := .mv (.t 7) }])
 .ret)) }
structure Pk_rel (F : Funs) : Prop where
  rel_New : F 11 = some A_rel_New
  rel_Rel_Plus : F 12 = some A_rel_Rel_Plus
  rel_Rel_Has : F 13 = some A_rel_Rel_Has
  rel_Rel_Loops : F 14 = some A_rel_Rel_Loops
  rel_Rel_Pairs : F 15 = some A_rel_Rel_Pairs
  rel_Rel_Maybe : F 16 = some A_rel_Rel_Maybe
  rel_Rel_Len : F 17 = some A_rel_Rel_Len
  rel_Rel_And : F 18 = some A_rel_Rel_And
  rel_Rel_Then : F 23 = some A_rel_Rel_Then
  rel_Rel_Or : F 24 = some A_rel_Rel_Or
  rel_Rel_by : F 51 = some A_rel_Rel_by
  rel_Rel_And_1 : F 52 = some A_rel_Rel_And_1
  rel_Rel_Or_1 : F 53 = some A_rel_Rel_Or_1
end Go.Ab
end
section
set_option maxRecDepth 100000
set_option linter.unusedVariables false
namespace Go.Proofs.YtgfjjohnfbhjcaaGreat
open Go.Ab
def tab : List (Nat × Nat × AFun) := [(11, 121, A_rel_New),
 (12, 118, A_rel_Rel_Plus),
 (13, 15, A_rel_Rel_Has),
 (14, 62, A_rel_Rel_Loops),
 (15, 70, A_rel_Rel_Pairs),
 (16, 123, A_rel_Rel_Maybe),
 (17, 76, A_rel_Rel_Len),
 (18, 69, A_rel_Rel_And),
 (22, 167, A_rel_Rel_In),
 (23, 66, A_rel_Rel_Then),
 (24, 44, A_rel_Rel_Or),
 (26, 45, A_rel_Rel_Less),
 (27, 128, A_xref01_New),
 (29, 81, A_xref01_R_Or),
 (30, 96, A_xref01_R_And),
 (31, 82, A_xref01_R_Less),
 (32, 83, A_xref01_R_Then),
 (33, 137, A_xref01_R_Back),
 (34, 134, A_xref01_R_Plus),
 (35, 135, A_xref01_R_Maybe),
 (36, 171, A_xref01_R_In),
 (37, 92, A_xref01_R_Loops),
 (39, 115, A_eco_Inner),
 (40, 64, A_eco_Outer),
 (41, 60, A_eco_Loc),
 (42, 99, A_eco_Eco),
 (44, 5, A_xlaw00_FewGraph),
 (45, 7, A_xref06_Check),
 (48, 85, A_eco_Rf),
 (49, 67, A_eco_Co),
 (50, 65, A_eco_Fr),
 (51, 107, A_rel_Rel_by),
 (52, 122, A_rel_Rel_And_1),
 (53, 108, A_rel_Rel_Or_1),
 (54, 109, A_rel_Rel_Less_1),
 (55, 77, A_xref01_SamePairs),
 (56, 78, A_xref01_R_Pairs),
 (57, 116, A_eco_some),
 (58, 156, A_eco_Inner_1),
 (59, 119, A_eco_Outer_1),
 (60, 105, A_graph_Po),
 (61, 117, A_eco_Loc_1),
 (63, 17, A_xref06_event),
 (64, 18, A_xref06_rf),
 (65, 19, A_xref06_co),
 (66, 20, A_xref06_rmw),
 (67, 21, A_xref06_deps),
 (69, 88, A_xref09_Rf),
 (70, 94, A_xref09_Co),
 (71, 93, A_xref09_Fr),
 (73, 136, A_xref09_Loc),
 (74, 168, A_xref09_Inner),
 (75, 87, A_xref09_Outer),
 (80, 120, A_eco_pairs),
 (81, 68, A_graph_Of),
 (82, 50, A_xref06_rising),
 (83, 90, A_xref09_Com),
 (84, 125, A_xref06_Po),
 (85, 133, A_xref09_part),
 (92, 157, A_eco_pairs_1),
 (93, 158, A_eco_pairs_2),
 (94, 159, A_eco_pairs_3),
 (95, 160, A_eco_pairs_4),
 (96, 161, A_eco_pairs_5),
 (143, 84, A_ppo_Ppo),
 (145, 164, A_ppo_Rdw),
 (146, 165, A_ppo_Detour),
 (152, 22, A_graph_Check),
 (165, 129, A_ppo_Parts),
 (166, 47, A_graph_Set),
 (167, 130, A_ppo_isR),
 (168, 131, A_ppo_isW),
 (170, 195, A_ppo_by),
 (171, 132, A_xref19_Parts),
 (173, 86, A_xref19_Ppo),
 (174, 169, A_xref19_Rdw),
 (175, 170, A_xref19_Detour),
 (186, 51, A_graph_first),
 (187, 52, A_graph_threads),
 (188, 53, A_graph_rf),
 (189, 54, A_graph_co),
 (190, 55, A_graph_rmw),
 (191, 56, A_graph_Check_1),
 (192, 57, A_graph_list),
 (219, 162, A_ppo_isM),
 (220, 163, A_ppo_or),
 (221, 166, A_ppo_ploc),
 (222, 126, A_xref19_M),
 (223, 95, A_xref06_Of),
 (224, 91, A_xref19_Ploc),
 (225, 127, A_xref06_Kind),
 (226, 197, A_xref19_fre),
 (227, 198, A_xref19_rfe),
 (228, 199, A_xref19_coe),
 (231, 89, A_xref01_R_Star),
 (236, 110, A_graph_event),
 (237, 111, A_graph_write),
 (238, 112, A_graph_rmw_1),
 (239, 113, A_graph_order),
 (246, 196, A_ppo_ploc_1),
 (247, 124, A_xref19_Mine),
 (248, 155, A_cmp_Compare_int),
 (249, 154, A_cmp_Or_int),
 (265, 97, A_xref01_R_Self),
 (266, 194, A_cmp_isNaN_int),
 (276, 8, A_power_Consistent),
 (277, 6, A_xlaw20_awake),
 (292, 23, A_power_conditions),
 (293, 13, A_xlaw20_buffers),
 (294, 14, A_power_Sync),
 (295, 16, A_power_Fences),
 (311, 58, A_power_conditions_1),
 (312, 59, A_power_own),
 (313, 61, A_power_com),
 (314, 63, A_power_conditions_2),
 (315, 71, A_power_conditions_3),
 (316, 27, A_power_Hb),
 (317, 72, A_power_conditions_4),
 (318, 73, A_power_free),
 (319, 46, A_power_then),
 (320, 29, A_power_Prop),
 (321, 74, A_power_any),
 (322, 75, A_power_conditions_5),
 (323, 43, A_power_around),
 (324, 48, A_power_isW),
 (325, 49, A_power_isR),
 (348, 114, A_power_own_1),
 (349, 104, A_power_isM),
 (350, 106, A_power_around_1),
 (452, 3, A_xlaw20_PowerAny),
 (453, 9, A_xlaw20_all),
 (454, 24, A_xlaw20_same),
 (455, 25, A_xref20_Sync),
 (456, 26, A_xref20_Fences),
 (457, 28, A_xref20_Hb),
 (458, 30, A_xref20_Prop),
 (459, 31, A_xref20_Consistent),
 (460, 79, A_xref20_between),
 (461, 80, A_xref20_sets)]
def num (f : Nat) : Nat := ((tab.find? (fun r => r.1 == f)).map (·.2.1)).getD 0
def funs : Funs := fun f => (tab.find? (fun r => r.1 == f)).map (·.2.2)
theorem c11 : funB Tryz.prog num Tryz.f121 A_rel_New = true := by kernel_rfl
theorem c12 : funB Tryz.prog num Tryz.f118 A_rel_Rel_Plus = true := by kernel_rfl
theorem c13 : funB Tryz.prog num Tryz.f15 A_rel_Rel_Has = true := by kernel_rfl
theorem c14 : funB Tryz.prog num Tryz.f62 A_rel_Rel_Loops = true := by kernel_rfl
theorem c15 : funB Tryz.prog num Tryz.f70 A_rel_Rel_Pairs = true := by kernel_rfl
theorem c16 : funB Tryz.prog num Tryz.f123 A_rel_Rel_Maybe = true := by kernel_rfl
theorem c17 : funB Tryz.prog num Tryz.f76 A_rel_Rel_Len = true := by kernel_rfl
theorem c18 : funB Tryz.prog num Tryz.f69 A_rel_Rel_And = true := by kernel_rfl
theorem c22 : funB Tryz.prog num Tryz.f167 A_rel_Rel_In = true := by kernel_rfl
theorem c23 : funB Tryz.prog num Tryz.f66 A_rel_Rel_Then = true := by kernel_rfl
theorem c24 : funB Tryz.prog num Tryz.f44 A_rel_Rel_Or = true := by kernel_rfl
theorem c26 : funB Tryz.prog num Tryz.f45 A_rel_Rel_Less = true := by kernel_rfl
theorem c27 : funB Tryz.prog num Tryz.f128 A_xref01_New = true := by kernel_rfl
theorem c29 : funB Tryz.prog num Tryz.f81 A_xref01_R_Or = true := by kernel_rfl
theorem c30 : funB Tryz.prog num Tryz.f96 A_xref01_R_And = true := by kernel_rfl
theorem c31 : funB Tryz.prog num Tryz.f82 A_xref01_R_Less = true := by kernel_rfl
theorem c32 : funB Tryz.prog num Tryz.f83 A_xref01_R_Then = true := by kernel_rfl
theorem c33 : funB Tryz.prog num Tryz.f137 A_xref01_R_Back = true := by kernel_rfl
theorem c34 : funB Tryz.prog num Tryz.f134 A_xref01_R_Plus = true := by kernel_rfl
theorem c35 : funB Tryz.prog num Tryz.f135 A_xref01_R_Maybe = true := by kernel_rfl
theorem c36 : funB Tryz.prog num Tryz.f171 A_xref01_R_In = true := by kernel_rfl
theorem c37 : funB Tryz.prog num Tryz.f92 A_xref01_R_Loops = true := by kernel_rfl
theorem c39 : funB Tryz.prog num Tryz.f115 A_eco_Inner = true := by kernel_rfl
theorem c40 : funB Tryz.prog num Tryz.f64 A_eco_Outer = true := by kernel_rfl
theorem c41 : funB Tryz.prog num Tryz.f60 A_eco_Loc = true := by kernel_rfl
theorem c42 : funB Tryz.prog num Tryz.f99 A_eco_Eco = true := by kernel_rfl
theorem c44 : funB Tryz.prog num Tryz.f5 A_xlaw00_FewGraph = true := by kernel_rfl
theorem c45 : funB Tryz.prog num Tryz.f7 A_xref06_Check = true := by kernel_rfl
theorem c48 : funB Tryz.prog num Tryz.f85 A_eco_Rf = true := by kernel_rfl
theorem c49 : funB Tryz.prog num Tryz.f67 A_eco_Co = true := by kernel_rfl
theorem c50 : funB Tryz.prog num Tryz.f65 A_eco_Fr = true := by kernel_rfl
theorem c51 : funB Tryz.prog num Tryz.f107 A_rel_Rel_by = true := by kernel_rfl
theorem c52 : funB Tryz.prog num Tryz.f122 A_rel_Rel_And_1 = true := by kernel_rfl
theorem c53 : funB Tryz.prog num Tryz.f108 A_rel_Rel_Or_1 = true := by kernel_rfl
theorem c54 : funB Tryz.prog num Tryz.f109 A_rel_Rel_Less_1 = true := by kernel_rfl
theorem c55 : funB Tryz.prog num Tryz.f77 A_xref01_SamePairs = true := by kernel_rfl
theorem c56 : funB Tryz.prog num Tryz.f78 A_xref01_R_Pairs = true := by kernel_rfl
theorem c57 : funB Tryz.prog num Tryz.f116 A_eco_some = true := by kernel_rfl
theorem c58 : funB Tryz.prog num Tryz.f156 A_eco_Inner_1 = true := by kernel_rfl
theorem c59 : funB Tryz.prog num Tryz.f119 A_eco_Outer_1 = true := by kernel_rfl
theorem c60 : funB Tryz.prog num Tryz.f105 A_graph_Po = true := by kernel_rfl
theorem c61 : funB Tryz.prog num Tryz.f117 A_eco_Loc_1 = true := by kernel_rfl
theorem c63 : funB Tryz.prog num Tryz.f17 A_xref06_event = true := by kernel_rfl
theorem c64 : funB Tryz.prog num Tryz.f18 A_xref06_rf = true := by kernel_rfl
theorem c65 : funB Tryz.prog num Tryz.f19 A_xref06_co = true := by kernel_rfl
theorem c66 : funB Tryz.prog num Tryz.f20 A_xref06_rmw = true := by kernel_rfl
theorem c67 : funB Tryz.prog num Tryz.f21 A_xref06_deps = true := by kernel_rfl
theorem c69 : funB Tryz.prog num Tryz.f88 A_xref09_Rf = true := by kernel_rfl
theorem c70 : funB Tryz.prog num Tryz.f94 A_xref09_Co = true := by kernel_rfl
theorem c71 : funB Tryz.prog num Tryz.f93 A_xref09_Fr = true := by kernel_rfl
theorem c73 : funB Tryz.prog num Tryz.f136 A_xref09_Loc = true := by kernel_rfl
theorem c74 : funB Tryz.prog num Tryz.f168 A_xref09_Inner = true := by kernel_rfl
theorem c75 : funB Tryz.prog num Tryz.f87 A_xref09_Outer = true := by kernel_rfl
theorem c80 : funB Tryz.prog num Tryz.f120 A_eco_pairs = true := by kernel_rfl
theorem c81 : funB Tryz.prog num Tryz.f68 A_graph_Of = true := by kernel_rfl
theorem c82 : funB Tryz.prog num Tryz.f50 A_xref06_rising = true := by kernel_rfl
theorem c83 : funB Tryz.prog num Tryz.f90 A_xref09_Com = true := by kernel_rfl
theorem c84 : funB Tryz.prog num Tryz.f125 A_xref06_Po = true := by kernel_rfl
theorem c85 : funB Tryz.prog num Tryz.f133 A_xref09_part = true := by kernel_rfl
theorem c92 : funB Tryz.prog num Tryz.f157 A_eco_pairs_1 = true := by kernel_rfl
theorem c93 : funB Tryz.prog num Tryz.f158 A_eco_pairs_2 = true := by kernel_rfl
theorem c94 : funB Tryz.prog num Tryz.f159 A_eco_pairs_3 = true := by kernel_rfl
theorem c95 : funB Tryz.prog num Tryz.f160 A_eco_pairs_4 = true := by kernel_rfl
theorem c96 : funB Tryz.prog num Tryz.f161 A_eco_pairs_5 = true := by kernel_rfl
theorem c143 : funB Tryz.prog num Tryz.f84 A_ppo_Ppo = true := by kernel_rfl
theorem c145 : funB Tryz.prog num Tryz.f164 A_ppo_Rdw = true := by kernel_rfl
theorem c146 : funB Tryz.prog num Tryz.f165 A_ppo_Detour = true := by kernel_rfl
theorem c152 : funB Tryz.prog num Tryz.f22 A_graph_Check = true := by kernel_rfl
theorem c165 : funB Tryz.prog num Tryz.f129 A_ppo_Parts = true := by kernel_rfl
theorem c166 : funB Tryz.prog num Tryz.f47 A_graph_Set = true := by kernel_rfl
theorem c167 : funB Tryz.prog num Tryz.f130 A_ppo_isR = true := by kernel_rfl
theorem c168 : funB Tryz.prog num Tryz.f131 A_ppo_isW = true := by kernel_rfl
theorem c170 : funB Tryz.prog num Tryz.f195 A_ppo_by = true := by kernel_rfl
theorem c171 : funB Tryz.prog num Tryz.f132 A_xref19_Parts = true := by kernel_rfl
theorem c173 : funB Tryz.prog num Tryz.f86 A_xref19_Ppo = true := by kernel_rfl
theorem c174 : funB Tryz.prog num Tryz.f169 A_xref19_Rdw = true := by kernel_rfl
theorem c175 : funB Tryz.prog num Tryz.f170 A_xref19_Detour = true := by kernel_rfl
theorem c186 : funB Tryz.prog num Tryz.f51 A_graph_first = true := by kernel_rfl
theorem c187 : funB Tryz.prog num Tryz.f52 A_graph_threads = true := by kernel_rfl
theorem c188 : funB Tryz.prog num Tryz.f53 A_graph_rf = true := by kernel_rfl
theorem c189 : funB Tryz.prog num Tryz.f54 A_graph_co = true := by kernel_rfl
theorem c190 : funB Tryz.prog num Tryz.f55 A_graph_rmw = true := by kernel_rfl
theorem c191 : funB Tryz.prog num Tryz.f56 A_graph_Check_1 = true := by kernel_rfl
theorem c192 : funB Tryz.prog num Tryz.f57 A_graph_list = true := by kernel_rfl
theorem c219 : funB Tryz.prog num Tryz.f162 A_ppo_isM = true := by kernel_rfl
theorem c220 : funB Tryz.prog num Tryz.f163 A_ppo_or = true := by kernel_rfl
theorem c221 : funB Tryz.prog num Tryz.f166 A_ppo_ploc = true := by kernel_rfl
theorem c222 : funB Tryz.prog num Tryz.f126 A_xref19_M = true := by kernel_rfl
theorem c223 : funB Tryz.prog num Tryz.f95 A_xref06_Of = true := by kernel_rfl
theorem c224 : funB Tryz.prog num Tryz.f91 A_xref19_Ploc = true := by kernel_rfl
theorem c225 : funB Tryz.prog num Tryz.f127 A_xref06_Kind = true := by kernel_rfl
theorem c226 : funB Tryz.prog num Tryz.f197 A_xref19_fre = true := by kernel_rfl
theorem c227 : funB Tryz.prog num Tryz.f198 A_xref19_rfe = true := by kernel_rfl
theorem c228 : funB Tryz.prog num Tryz.f199 A_xref19_coe = true := by kernel_rfl
theorem c231 : funB Tryz.prog num Tryz.f89 A_xref01_R_Star = true := by kernel_rfl
theorem c236 : funB Tryz.prog num Tryz.f110 A_graph_event = true := by kernel_rfl
theorem c237 : funB Tryz.prog num Tryz.f111 A_graph_write = true := by kernel_rfl
theorem c238 : funB Tryz.prog num Tryz.f112 A_graph_rmw_1 = true := by kernel_rfl
theorem c239 : funB Tryz.prog num Tryz.f113 A_graph_order = true := by kernel_rfl
theorem c246 : funB Tryz.prog num Tryz.f196 A_ppo_ploc_1 = true := by kernel_rfl
theorem c247 : funB Tryz.prog num Tryz.f124 A_xref19_Mine = true := by kernel_rfl
theorem c248 : funB Tryz.prog num Tryz.f155 A_cmp_Compare_int = true := by kernel_rfl
theorem c249 : funB Tryz.prog num Tryz.f154 A_cmp_Or_int = true := by kernel_rfl
theorem c265 : funB Tryz.prog num Tryz.f97 A_xref01_R_Self = true := by kernel_rfl
theorem c266 : funB Tryz.prog num Tryz.f194 A_cmp_isNaN_int = true := by kernel_rfl
theorem c276 : funB Tryz.prog num Tryz.f8 A_power_Consistent = true := by kernel_rfl
theorem c277 : funB Tryz.prog num Tryz.f6 A_xlaw20_awake = true := by kernel_rfl
theorem c292 : funB Tryz.prog num Tryz.f23 A_power_conditions = true := by kernel_rfl
theorem c293 : funB Tryz.prog num Tryz.f13 A_xlaw20_buffers = true := by kernel_rfl
theorem c294 : funB Tryz.prog num Tryz.f14 A_power_Sync = true := by kernel_rfl
theorem c295 : funB Tryz.prog num Tryz.f16 A_power_Fences = true := by kernel_rfl
theorem c311 : funB Tryz.prog num Tryz.f58 A_power_conditions_1 = true := by kernel_rfl
theorem c312 : funB Tryz.prog num Tryz.f59 A_power_own = true := by kernel_rfl
theorem c313 : funB Tryz.prog num Tryz.f61 A_power_com = true := by kernel_rfl
theorem c314 : funB Tryz.prog num Tryz.f63 A_power_conditions_2 = true := by kernel_rfl
theorem c315 : funB Tryz.prog num Tryz.f71 A_power_conditions_3 = true := by kernel_rfl
theorem c316 : funB Tryz.prog num Tryz.f27 A_power_Hb = true := by kernel_rfl
theorem c317 : funB Tryz.prog num Tryz.f72 A_power_conditions_4 = true := by kernel_rfl
theorem c318 : funB Tryz.prog num Tryz.f73 A_power_free = true := by kernel_rfl
theorem c319 : funB Tryz.prog num Tryz.f46 A_power_then = true := by kernel_rfl
theorem c320 : funB Tryz.prog num Tryz.f29 A_power_Prop = true := by kernel_rfl
theorem c321 : funB Tryz.prog num Tryz.f74 A_power_any = true := by kernel_rfl
theorem c322 : funB Tryz.prog num Tryz.f75 A_power_conditions_5 = true := by kernel_rfl
theorem c323 : funB Tryz.prog num Tryz.f43 A_power_around = true := by kernel_rfl
theorem c324 : funB Tryz.prog num Tryz.f48 A_power_isW = true := by kernel_rfl
theorem c325 : funB Tryz.prog num Tryz.f49 A_power_isR = true := by kernel_rfl
theorem c348 : funB Tryz.prog num Tryz.f114 A_power_own_1 = true := by kernel_rfl
theorem c349 : funB Tryz.prog num Tryz.f104 A_power_isM = true := by kernel_rfl
theorem c350 : funB Tryz.prog num Tryz.f106 A_power_around_1 = true := by kernel_rfl
theorem c452 : funB Tryz.prog num Tryz.f3 A_xlaw20_PowerAny = true := by kernel_rfl
theorem c453 : funB Tryz.prog num Tryz.f9 A_xlaw20_all = true := by kernel_rfl
theorem c454 : funB Tryz.prog num Tryz.f24 A_xlaw20_same = true := by kernel_rfl
theorem c455 : funB Tryz.prog num Tryz.f25 A_xref20_Sync = true := by kernel_rfl
theorem c456 : funB Tryz.prog num Tryz.f26 A_xref20_Fences = true := by kernel_rfl
theorem c457 : funB Tryz.prog num Tryz.f28 A_xref20_Hb = true := by kernel_rfl
theorem c458 : funB Tryz.prog num Tryz.f30 A_xref20_Prop = true := by kernel_rfl
theorem c459 : funB Tryz.prog num Tryz.f31 A_xref20_Consistent = true := by kernel_rfl
theorem c460 : funB Tryz.prog num Tryz.f79 A_xref20_between = true := by kernel_rfl
theorem c461 : funB Tryz.prog num Tryz.f80 A_xref20_sets = true := by kernel_rfl
def Good (r : Nat × Nat × AFun) : Prop := num r.1 = r.2.1 ∧ ∃ fn, Tryz.prog.funcs[r.2.1]? = some fn ∧ funB Tryz.prog num fn r.2.2 = true
theorem good : ∀ r ∈ tab, Good r := by
  intro r hr
  unfold tab at hr
  rcases List.mem_cons.1 hr with rfl | hr
  · exact ⟨by kernel_rfl, _, Tryz.func121, c11⟩
  rcases List.mem_cons.1 hr with rfl | hr
  · exact ⟨by kernel_rfl, _, Tryz.func118, c12⟩
  rcases List.mem_cons.1 hr with rfl | hr
  · exact ⟨by kernel_rfl, _, Tryz.func15, c13⟩
  rcases List.mem_cons.1 hr with rfl | hr
  · exact ⟨by kernel_rfl, _, Tryz.func62, c14⟩
  rcases List.mem_cons.1 hr with rfl | hr
  · exact ⟨by kernel_rfl, _, Tryz.func70, c15⟩
  rcases List.mem_cons.1 hr with rfl | hr
  · exact ⟨by kernel_rfl, _, Tryz.func123, c16⟩
  rcases List.mem_cons.1 hr with rfl | hr
  · exact ⟨by kernel_rfl, _, Tryz.func76, c17⟩
  rcases List.mem_cons.1 hr with rfl | hr
  · exact ⟨by kernel_rfl, _, Tryz.func69, c18⟩
  rcases List.mem_cons.1 hr with rfl | hr
  · exact ⟨by kernel_rfl, _, Tryz.func167, c22⟩
  rcases List.mem_cons.1 hr with rfl | hr
  · exact ⟨by kernel_rfl, _, Tryz.func66, c23⟩
  rcases List.mem_cons.1 hr with rfl | hr
  · exact ⟨by kernel_rfl, _, Tryz.func44, c24⟩
  rcases List.mem_cons.1 hr with rfl | hr
  · exact ⟨by kernel_rfl, _, Tryz.func45, c26⟩
  rcases List.mem_cons.1 hr with rfl | hr
  · exact ⟨by kernel_rfl, _, Tryz.func128, c27⟩
  rcases List.mem_cons.1 hr with rfl | hr
  · exact ⟨by kernel_rfl, _, Tryz.func81, c29⟩
  rcases List.mem_cons.1 hr with rfl | hr
  · exact ⟨by kernel_rfl, _, Tryz.func96, c30⟩
  rcases List.mem_cons.1 hr with rfl | hr
  · exact ⟨by kernel_rfl, _, Tryz.func82, c31⟩
  rcases List.mem_cons.1 hr with rfl | hr
  · exact ⟨by kernel_rfl, _, Tryz.func83, c32⟩
  rcases List.mem_cons.1 hr with rfl | hr
  · exact ⟨by kernel_rfl, _, Tryz.func137, c33⟩
  rcases List.mem_cons.1 hr with rfl | hr
  · exact ⟨by kernel_rfl, _, Tryz.func134, c34⟩
  rcases List.mem_cons.1 hr with rfl | hr
  · exact ⟨by kernel_rfl, _, Tryz.func135, c35⟩
  rcases List.mem_cons.1 hr with rfl | hr
  · exact ⟨by kernel_rfl, _, Tryz.func171, c36⟩
  rcases List.mem_cons.1 hr with rfl | hr
  · exact ⟨by kernel_rfl, _, Tryz.func92, c37⟩
  rcases List.mem_cons.1 hr with rfl | hr
  · exact ⟨by kernel_rfl, _, Tryz.func115, c39⟩
  rcases List.mem_cons.1 hr with rfl | hr
  · exact ⟨by kernel_rfl, _, Tryz.func64, c40⟩
  rcases List.mem_cons.1 hr with rfl | hr
  · exact ⟨by kernel_rfl, _, Tryz.func60, c41⟩
  rcases List.mem_cons.1 hr with rfl | hr
  · exact ⟨by kernel_rfl, _, Tryz.func99, c42⟩
  rcases List.mem_cons.1 hr with rfl | hr
  · exact ⟨by kernel_rfl, _, Tryz.func5, c44⟩
  rcases List.mem_cons.1 hr with rfl | hr
  · exact ⟨by kernel_rfl, _, Tryz.func7, c45⟩
  rcases List.mem_cons.1 hr with rfl | hr
  · exact ⟨by kernel_rfl, _, Tryz.func85, c48⟩
  rcases List.mem_cons.1 hr with rfl | hr
  · exact ⟨by kernel_rfl, _, Tryz.func67, c49⟩
  rcases List.mem_cons.1 hr with rfl | hr
  · exact ⟨by kernel_rfl, _, Tryz.func65, c50⟩
  rcases List.mem_cons.1 hr with rfl | hr
  · exact ⟨by kernel_rfl, _, Tryz.func107, c51⟩
  rcases List.mem_cons.1 hr with rfl | hr
  · exact ⟨by kernel_rfl, _, Tryz.func122, c52⟩
  rcases List.mem_cons.1 hr with rfl | hr
  · exact ⟨by kernel_rfl, _, Tryz.func108, c53⟩
  rcases List.mem_cons.1 hr with rfl | hr
  · exact ⟨by kernel_rfl, _, Tryz.func109, c54⟩
  rcases List.mem_cons.1 hr with rfl | hr
  · exact ⟨by kernel_rfl, _, Tryz.func77, c55⟩
  rcases List.mem_cons.1 hr with rfl | hr
  · exact ⟨by kernel_rfl, _, Tryz.func78, c56⟩
  rcases List.mem_cons.1 hr with rfl | hr
  · exact ⟨by kernel_rfl, _, Tryz.func116, c57⟩
  rcases List.mem_cons.1 hr with rfl | hr
  · exact ⟨by kernel_rfl, _, Tryz.func156, c58⟩
  rcases List.mem_cons.1 hr with rfl | hr
  · exact ⟨by kernel_rfl, _, Tryz.func119, c59⟩
  rcases List.mem_cons.1 hr with rfl | hr
  · exact ⟨by kernel_rfl, _, Tryz.func105, c60⟩
  rcases List.mem_cons.1 hr with rfl | hr
  · exact ⟨by kernel_rfl, _, Tryz.func117, c61⟩
  rcases List.mem_cons.1 hr with rfl | hr
  · exact ⟨by kernel_rfl, _, Tryz.func17, c63⟩
  rcases List.mem_cons.1 hr with rfl | hr
  · exact ⟨by kernel_rfl, _, Tryz.func18, c64⟩
  rcases List.mem_cons.1 hr with rfl | hr
  · exact ⟨by kernel_rfl, _, Tryz.func19, c65⟩
  rcases List.mem_cons.1 hr with rfl | hr
  · exact ⟨by kernel_rfl, _, Tryz.func20, c66⟩
  rcases List.mem_cons.1 hr with rfl | hr
  · exact ⟨by kernel_rfl, _, Tryz.func21, c67⟩
  rcases List.mem_cons.1 hr with rfl | hr
  · exact ⟨by kernel_rfl, _, Tryz.func88, c69⟩
  rcases List.mem_cons.1 hr with rfl | hr
  · exact ⟨by kernel_rfl, _, Tryz.func94, c70⟩
  rcases List.mem_cons.1 hr with rfl | hr
  · exact ⟨by kernel_rfl, _, Tryz.func93, c71⟩
  rcases List.mem_cons.1 hr with rfl | hr
  · exact ⟨by kernel_rfl, _, Tryz.func136, c73⟩
  rcases List.mem_cons.1 hr with rfl | hr
  · exact ⟨by kernel_rfl, _, Tryz.func168, c74⟩
  rcases List.mem_cons.1 hr with rfl | hr
  · exact ⟨by kernel_rfl, _, Tryz.func87, c75⟩
  rcases List.mem_cons.1 hr with rfl | hr
  · exact ⟨by kernel_rfl, _, Tryz.func120, c80⟩
  rcases List.mem_cons.1 hr with rfl | hr
  · exact ⟨by kernel_rfl, _, Tryz.func68, c81⟩
  rcases List.mem_cons.1 hr with rfl | hr
  · exact ⟨by kernel_rfl, _, Tryz.func50, c82⟩
  rcases List.mem_cons.1 hr with rfl | hr
  · exact ⟨by kernel_rfl, _, Tryz.func90, c83⟩
  rcases List.mem_cons.1 hr with rfl | hr
  · exact ⟨by kernel_rfl, _, Tryz.func125, c84⟩
  rcases List.mem_cons.1 hr with rfl | hr
  · exact ⟨by kernel_rfl, _, Tryz.func133, c85⟩
  rcases List.mem_cons.1 hr with rfl | hr
  · exact ⟨by kernel_rfl, _, Tryz.func157, c92⟩
  rcases List.mem_cons.1 hr with rfl | hr
  · exact ⟨by kernel_rfl, _, Tryz.func158, c93⟩
  rcases List.mem_cons.1 hr with rfl | hr
  · exact ⟨by kernel_rfl, _, Tryz.func159, c94⟩
  rcases List.mem_cons.1 hr with rfl | hr
  · exact ⟨by kernel_rfl, _, Tryz.func160, c95⟩
  rcases List.mem_cons.1 hr with rfl | hr
  · exact ⟨by kernel_rfl, _, Tryz.func161, c96⟩
  rcases List.mem_cons.1 hr with rfl | hr
  · exact ⟨by kernel_rfl, _, Tryz.func84, c143⟩
  rcases List.mem_cons.1 hr with rfl | hr
  · exact ⟨by kernel_rfl, _, Tryz.func164, c145⟩
  rcases List.mem_cons.1 hr with rfl | hr
  · exact ⟨by kernel_rfl, _, Tryz.func165, c146⟩
  rcases List.mem_cons.1 hr with rfl | hr
  · exact ⟨by kernel_rfl, _, Tryz.func22, c152⟩
  rcases List.mem_cons.1 hr with rfl | hr
  · exact ⟨by kernel_rfl, _, Tryz.func129, c165⟩
  rcases List.mem_cons.1 hr with rfl | hr
  · exact ⟨by kernel_rfl, _, Tryz.func47, c166⟩
  rcases List.mem_cons.1 hr with rfl | hr
  · exact ⟨by kernel_rfl, _, Tryz.func130, c167⟩
  rcases List.mem_cons.1 hr with rfl | hr
  · exact ⟨by kernel_rfl, _, Tryz.func131, c168⟩
  rcases List.mem_cons.1 hr with rfl | hr
  · exact ⟨by kernel_rfl, _, Tryz.func195, c170⟩
  rcases List.mem_cons.1 hr with rfl | hr
  · exact ⟨by kernel_rfl, _, Tryz.func132, c171⟩
  rcases List.mem_cons.1 hr with rfl | hr
  · exact ⟨by kernel_rfl, _, Tryz.func86, c173⟩
  rcases List.mem_cons.1 hr with rfl | hr
  · exact ⟨by kernel_rfl, _, Tryz.func169, c174⟩
  rcases List.mem_cons.1 hr with rfl | hr
  · exact ⟨by kernel_rfl, _, Tryz.func170, c175⟩
  rcases List.mem_cons.1 hr with rfl | hr
  · exact ⟨by kernel_rfl, _, Tryz.func51, c186⟩
  rcases List.mem_cons.1 hr with rfl | hr
  · exact ⟨by kernel_rfl, _, Tryz.func52, c187⟩
  rcases List.mem_cons.1 hr with rfl | hr
  · exact ⟨by kernel_rfl, _, Tryz.func53, c188⟩
  rcases List.mem_cons.1 hr with rfl | hr
  · exact ⟨by kernel_rfl, _, Tryz.func54, c189⟩
  rcases List.mem_cons.1 hr with rfl | hr
  · exact ⟨by kernel_rfl, _, Tryz.func55, c190⟩
  rcases List.mem_cons.1 hr with rfl | hr
  · exact ⟨by kernel_rfl, _, Tryz.func56, c191⟩
  rcases List.mem_cons.1 hr with rfl | hr
  · exact ⟨by kernel_rfl, _, Tryz.func57, c192⟩
  rcases List.mem_cons.1 hr with rfl | hr
  · exact ⟨by kernel_rfl, _, Tryz.func162, c219⟩
  rcases List.mem_cons.1 hr with rfl | hr
  · exact ⟨by kernel_rfl, _, Tryz.func163, c220⟩
  rcases List.mem_cons.1 hr with rfl | hr
  · exact ⟨by kernel_rfl, _, Tryz.func166, c221⟩
  rcases List.mem_cons.1 hr with rfl | hr
  · exact ⟨by kernel_rfl, _, Tryz.func126, c222⟩
  rcases List.mem_cons.1 hr with rfl | hr
  · exact ⟨by kernel_rfl, _, Tryz.func95, c223⟩
  rcases List.mem_cons.1 hr with rfl | hr
  · exact ⟨by kernel_rfl, _, Tryz.func91, c224⟩
  rcases List.mem_cons.1 hr with rfl | hr
  · exact ⟨by kernel_rfl, _, Tryz.func127, c225⟩
  rcases List.mem_cons.1 hr with rfl | hr
  · exact ⟨by kernel_rfl, _, Tryz.func197, c226⟩
  rcases List.mem_cons.1 hr with rfl | hr
  · exact ⟨by kernel_rfl, _, Tryz.func198, c227⟩
  rcases List.mem_cons.1 hr with rfl | hr
  · exact ⟨by kernel_rfl, _, Tryz.func199, c228⟩
  rcases List.mem_cons.1 hr with rfl | hr
  · exact ⟨by kernel_rfl, _, Tryz.func89, c231⟩
  rcases List.mem_cons.1 hr with rfl | hr
  · exact ⟨by kernel_rfl, _, Tryz.func110, c236⟩
  rcases List.mem_cons.1 hr with rfl | hr
  · exact ⟨by kernel_rfl, _, Tryz.func111, c237⟩
  rcases List.mem_cons.1 hr with rfl | hr
  · exact ⟨by kernel_rfl, _, Tryz.func112, c238⟩
  rcases List.mem_cons.1 hr with rfl | hr
  · exact ⟨by kernel_rfl, _, Tryz.func113, c239⟩
  rcases List.mem_cons.1 hr with rfl | hr
  · exact ⟨by kernel_rfl, _, Tryz.func196, c246⟩
  rcases List.mem_cons.1 hr with rfl | hr
  · exact ⟨by kernel_rfl, _, Tryz.func124, c247⟩
  rcases List.mem_cons.1 hr with rfl | hr
  · exact ⟨by kernel_rfl, _, Tryz.func155, c248⟩
  rcases List.mem_cons.1 hr with rfl | hr
  · exact ⟨by kernel_rfl, _, Tryz.func154, c249⟩
  rcases List.mem_cons.1 hr with rfl | hr
  · exact ⟨by kernel_rfl, _, Tryz.func97, c265⟩
  rcases List.mem_cons.1 hr with rfl | hr
  · exact ⟨by kernel_rfl, _, Tryz.func194, c266⟩
  rcases List.mem_cons.1 hr with rfl | hr
  · exact ⟨by kernel_rfl, _, Tryz.func8, c276⟩
  rcases List.mem_cons.1 hr with rfl | hr
  · exact ⟨by kernel_rfl, _, Tryz.func6, c277⟩
  rcases List.mem_cons.1 hr with rfl | hr
  · exact ⟨by kernel_rfl, _, Tryz.func23, c292⟩
  rcases List.mem_cons.1 hr with rfl | hr
  · exact ⟨by kernel_rfl, _, Tryz.func13, c293⟩
  rcases List.mem_cons.1 hr with rfl | hr
  · exact ⟨by kernel_rfl, _, Tryz.func14, c294⟩
  rcases List.mem_cons.1 hr with rfl | hr
  · exact ⟨by kernel_rfl, _, Tryz.func16, c295⟩
  rcases List.mem_cons.1 hr with rfl | hr
  · exact ⟨by kernel_rfl, _, Tryz.func58, c311⟩
  rcases List.mem_cons.1 hr with rfl | hr
  · exact ⟨by kernel_rfl, _, Tryz.func59, c312⟩
  rcases List.mem_cons.1 hr with rfl | hr
  · exact ⟨by kernel_rfl, _, Tryz.func61, c313⟩
  rcases List.mem_cons.1 hr with rfl | hr
  · exact ⟨by kernel_rfl, _, Tryz.func63, c314⟩
  rcases List.mem_cons.1 hr with rfl | hr
  · exact ⟨by kernel_rfl, _, Tryz.func71, c315⟩
  rcases List.mem_cons.1 hr with rfl | hr
  · exact ⟨by kernel_rfl, _, Tryz.func27, c316⟩
  rcases List.mem_cons.1 hr with rfl | hr
  · exact ⟨by kernel_rfl, _, Tryz.func72, c317⟩
  rcases List.mem_cons.1 hr with rfl | hr
  · exact ⟨by kernel_rfl, _, Tryz.func73, c318⟩
  rcases List.mem_cons.1 hr with rfl | hr
  · exact ⟨by kernel_rfl, _, Tryz.func46, c319⟩
  rcases List.mem_cons.1 hr with rfl | hr
  · exact ⟨by kernel_rfl, _, Tryz.func29, c320⟩
  rcases List.mem_cons.1 hr with rfl | hr
  · exact ⟨by kernel_rfl, _, Tryz.func74, c321⟩
  rcases List.mem_cons.1 hr with rfl | hr
  · exact ⟨by kernel_rfl, _, Tryz.func75, c322⟩
  rcases List.mem_cons.1 hr with rfl | hr
  · exact ⟨by kernel_rfl, _, Tryz.func43, c323⟩
  rcases List.mem_cons.1 hr with rfl | hr
  · exact ⟨by kernel_rfl, _, Tryz.func48, c324⟩
  rcases List.mem_cons.1 hr with rfl | hr
  · exact ⟨by kernel_rfl, _, Tryz.func49, c325⟩
  rcases List.mem_cons.1 hr with rfl | hr
  · exact ⟨by kernel_rfl, _, Tryz.func114, c348⟩
  rcases List.mem_cons.1 hr with rfl | hr
  · exact ⟨by kernel_rfl, _, Tryz.func104, c349⟩
  rcases List.mem_cons.1 hr with rfl | hr
  · exact ⟨by kernel_rfl, _, Tryz.func106, c350⟩
  rcases List.mem_cons.1 hr with rfl | hr
  · exact ⟨by kernel_rfl, _, Tryz.func3, c452⟩
  rcases List.mem_cons.1 hr with rfl | hr
  · exact ⟨by kernel_rfl, _, Tryz.func9, c453⟩
  rcases List.mem_cons.1 hr with rfl | hr
  · exact ⟨by kernel_rfl, _, Tryz.func24, c454⟩
  rcases List.mem_cons.1 hr with rfl | hr
  · exact ⟨by kernel_rfl, _, Tryz.func25, c455⟩
  rcases List.mem_cons.1 hr with rfl | hr
  · exact ⟨by kernel_rfl, _, Tryz.func26, c456⟩
  rcases List.mem_cons.1 hr with rfl | hr
  · exact ⟨by kernel_rfl, _, Tryz.func28, c457⟩
  rcases List.mem_cons.1 hr with rfl | hr
  · exact ⟨by kernel_rfl, _, Tryz.func30, c458⟩
  rcases List.mem_cons.1 hr with rfl | hr
  · exact ⟨by kernel_rfl, _, Tryz.func31, c459⟩
  rcases List.mem_cons.1 hr with rfl | hr
  · exact ⟨by kernel_rfl, _, Tryz.func79, c460⟩
  rcases List.mem_cons.1 hr with rfl | hr
  · exact ⟨by kernel_rfl, _, Tryz.func80, c461⟩
  cases hr
theorem table : Table Tryz.prog num funs := by
  intro f A h
  unfold funs at h
  cases hf : tab.find? (fun r => r.1 == f) with
  | none => rw [hf] at h; cases h
  | some r =>
    rw [hf] at h; cases h
    have h1 := List.find?_some hf
    simp only [beq_iff_eq] at h1
    subst h1
    obtain ⟨h2, h3⟩ := good r (List.mem_of_find?_eq_some hf)
    rw [h2]; exact h3
theorem pk_eco : Pk_eco funs := ⟨rfl, rfl, rfl, rfl, rfl, rfl, rfl, rfl, rfl, rfl, rfl, rfl, rfl, rfl, rfl, rfl, rfl⟩
theorem pk_xref01 : Pk_xref01 funs := ⟨rfl, rfl, rfl, rfl, rfl, rfl, rfl, rfl, rfl⟩
theorem pk_xref06 : Pk_xref06 funs := ⟨rfl, rfl, rfl, rfl, rfl, rfl, rfl, rfl⟩
theorem pk_xref09 : Pk_xref09 funs := ⟨rfl, rfl, rfl, rfl, rfl, rfl, rfl⟩
theorem pk_xref19 : Pk_xref19 funs := ⟨rfl, rfl, rfl, rfl, rfl, rfl, rfl, rfl, rfl, rfl⟩
theorem pk_xref20 : Pk_xref20 funs := ⟨rfl, rfl, rfl, rfl, rfl, rfl, rfl⟩
theorem pk_power : Pk_power funs := ⟨rfl, rfl, rfl, rfl, rfl, rfl, rfl, rfl, rfl, rfl, rfl, rfl, rfl, rfl, rfl, rfl, rfl, rfl, rfl, rfl, rfl, rfl⟩
theorem pk_ppo : Pk_ppo funs := ⟨rfl, rfl, rfl, rfl, rfl, rfl, rfl, rfl, rfl, rfl, rfl⟩
theorem pk_rel : Pk_rel funs := ⟨rfl, rfl, rfl, rfl, rfl, rfl, rfl, rfl, rfl, rfl, rfl, rfl, rfl⟩
end Go.Proofs.YtgfjjohnfbhjcaaGreat
end
section
set_option linter.unusedVariables false
set_option linter.unusedSimpArgs false
namespace Go.Ab
open Go.RowKit
def ShR (S : List AV → Prop) (n : Nat) (asx : List AV) : Prop := ∃ rows : List (List AV), rows.length = n ∧ asx = rows.flatten ∧ ∀ r ∈ rows, S r
def ShL (S : TypeId → List AV → Prop) : List TypeId → List AV → Prop
  | [], asx => asx = []
  | t :: ts, asx => ∃ a b, asx = a ++ b ∧ S t a ∧ ShL S ts b
def Sh (P : Program) : Nat → TypeId → List AV → Prop
  | 0, _, _ => False
  | m + 1, t, asx => match P.underlying t with
    | some .bool => ∃ b, asx = [.b b]
    | some (.int k) => ∃ n, asx = [.i k n] ∧ (Lit.int k n).wf = true
    | some .string => ∃ s, asx = [.s s] ∧ s.size ≤ maxLen
    | some (.slice e) => ∃ cs n, asx = [.sl cs n .non] ∧ n ≤ maxLen ∧ ShR (Sh P m e) n cs
    | some (.pointer e) => asx = [.nilp] ∨ ∃ cs, asx = [.ptr cs] ∧ Sh P m e cs
    | some (.struct fs) => ShL (Sh P m) (fs.toList.map (·.type)) asx
    | some (.array n e) => ShR (Sh P m e) n asx
    | _ => False
def fieldsOk (P : Program) : Nat → List Field → Nat → Bool
  | o, [], n => o == n
  | o, f :: fs, n => (f.offset == o) && fieldsOk P (o + P.cellsOf f.type) fs n
def plainB (P : Program) : Nat → TypeId → Bool
  | 0, _ => false
  | m + 1, t => match P.underlying t with
    | some .bool | some (.int _) | some .string => true
    | some (.slice e) => plainB P m e
    | some (.pointer e) => plainB P m e
    | some (.struct fs) => fieldsOk P 0 fs.toList (P.cellsOf t) && fs.toList.all (fun f => plainB P m f.type)
    | some (.array n e) => (P.cellsOf t == n * P.cellsOf e) && plainB P m e
    | _ => false
section
variable {H : Type} {enc : TypeId × Value → H} {P : Program} {c : Cx}
theorem add_add' (a : Addr) (m n : Nat) : (a.add m).add n = a.add (m + n) := by
  unfold Addr.add
  by_cases hm : m = 0 <;> by_cases hn : n = 0 <;> simp [hm, hn, Nat.add_assoc]
theorem I_cell (hb : c.base = c.w.heap.size) (hJ : c.J = fun _ => True) {a : Addr} {v : Value} (h : c.w.cell? a = some v) : c.I a := .inl ⟨by rw [hb]; exact block_lt_of_cell h, by rw [hJ]; trivial⟩
theorem read_rows {S : List AV → Prop} {sz : Nat} {a : Addr} {n : Nat}
    (h : ∀ i, i < n → ∃ row rs, c.w.cells? 0 (a.add (i * sz)) sz = some row ∧ S rs ∧ Reps c false rs row ∧ ∀ v ∈ row, v.oneCell' = true) :
    ∃ cs vs, ShR S n cs ∧ Reps c false cs vs ∧ vs.length = n * sz ∧ (∀ v ∈ vs, v.oneCell' = true) ∧ ∀ j, j < n * sz → c.w.cell? (a.add j) = vs[j]? := by
  induction n with
  | zero => exact ⟨[], [], ⟨[], rfl, rfl, fun _ h => by cases h⟩, Reps.nil, by simp, (fun v (h : v ∈ ([] : List Value)) => by cases h), fun j hj => by omega⟩
  | succ n ih =>
    obtain ⟨cs, vs, ⟨rows, hl, rfl, hS⟩, hR, hlen, h1, hcell⟩ := ih fun i hi => h i (by omega)
    obtain ⟨row, rs, hc, hSr, hRr, h1r⟩ := h n (by omega)
    obtain ⟨_, hrl, hrc⟩ := World.cells?_some hc
    refine ⟨_, vs ++ row, ⟨rows ++ [rs], by simp [hl], rfl, ?_⟩, ?_, ?_, ?_, ?_⟩
    · intro r hr
      rcases List.mem_append.1 hr with hr | hr
      · exact hS r hr
      · rw [List.mem_singleton.1 hr]; exact hSr
    · simp only [List.flatten_append, List.flatten_cons, List.flatten_nil, List.append_nil]
      exact hR.append hRr
    · rw [List.length_append, hlen, hrl, Nat.succ_mul]
    · intro v hv
      rcases List.mem_append.1 hv with hv | hv
      · exact h1 v hv
      · exact h1r v hv
    · intro j hj
      rw [Nat.succ_mul] at hj
      by_cases hjn : j < n * sz
      · rw [List.getElem?_append_left (by omega)]; exact hcell j hjn
      · rw [List.getElem?_append_right (by omega), hlen, ← hrc (j - n * sz) (by omega), add_add']
        rw [show n * sz + (j - n * sz) = j by omega]
theorem read_cells (hb : c.base = c.w.heap.size) (hJ : c.J = fun _ => True) : ∀ (m : Nat) {t : TypeId} {fuel : Nat} {cs : List Value} {x : DataW H × List MemPlace},
    plainB P m t = true → DataW.trod enc P c.w 0 (fun _ => true) true fuel t cs = some x → ∃ asx, Sh P m t asx ∧ Reps c false asx cs ∧ ∀ v ∈ cs, v.oneCell' = true
  | 0, _, _, _, _, h, _ => by simp [plainB] at h
  | m + 1, t, fuel, cs, x, hp, h => by
    have one : ∀ {y : AV} {v : Value}, Rep c false y v → v.oneCell' = true → Reps c false [y] [v] ∧ ∀ u ∈ [v], u.oneCell' = true := fun hr h1 =>
      ⟨Reps.cons hr Reps.nil, fun u hu => by rw [List.mem_singleton.1 hu]; exact h1⟩
    simp only [plainB] at hp
    cases ht : P.underlying t with
    | none => rw [ht] at hp; cases hp
    | some d =>
      rw [ht] at hp
      cases d with
      | bool =>
        obtain ⟨b, rfl, _⟩ := DataW.trod_bool ht h
        exact ⟨[.b b], by simp only [Sh, ht]; exact ⟨b, rfl⟩, one (.b b) rfl⟩
      | int k =>
        obtain ⟨n, rfl, _, hw⟩ := DataW.trod_int ht h
        exact ⟨[.i k n], by simp only [Sh, ht]; exact ⟨n, rfl, hw⟩, one (.i k n) rfl⟩
      | string =>
        obtain ⟨s, rfl, _, hs⟩ := DataW.trod_string ht h
        exact ⟨[.s s], by simp only [Sh, ht]; exact ⟨s, rfl, hs⟩, one (.s s) rfl⟩
      | slice e =>
        rcases DataW.trod_slice ht h with ⟨rfl, _⟩ | ⟨a, len, cap, elems, rest, n, rfl, rfl, _, _, hl, hm, hel, hget, _, _⟩
        · refine ⟨[.sl [] 0 .non], by simp only [Sh, ht]; exact ⟨[], 0, rfl, Nat.zero_le _, [], rfl, rfl, fun _ h => by cases h⟩, one ?_ rfl⟩
          exact .sl ⟨0, 0, none⟩ [] (Nat.le_refl _) (Nat.zero_le _) (fun h => by cases h) (fun _ _ _ h => by cases h) (fun h => by omega) (fun _ h => by cases h) rfl (fun h => absurd rfl h) (fun j v h => by simp at h) (fun j x v h => by simp at h) (fun _ _ h => by cases h)
        · obtain ⟨asx, vs, hS, hR, hlen, h1, hcell⟩ := read_rows (c := c) (S := Sh P m e) (sz := P.cellsOf e) (a := a) (n := len) fun i hi => by
            have hg := hget i hi
            cases hc : c.w.cells? 0 (a.add (i * P.cellsOf e)) (P.cellsOf e) with
            | none => rw [hc] at hg; simp at hg; omega
            | some row =>
              rw [hc, Option.bind_some, List.getElem?_eq_getElem (by omega)] at hg
              obtain ⟨rs, h1, h2, h3⟩ := read_cells hb hJ m hp hg
              exact ⟨row, rs, rfl, h1, h2, h3⟩
          have hk : ∀ (j : Nat) v, vs[j]? = some v → c.I (a.add j) ∧ c.w.cell? (a.add j) = some v := fun j v hv => by
            have hj : j < len * P.cellsOf e := by rw [← hlen]; exact (List.getElem?_eq_some_iff.1 hv).1
            have := (hcell j hj).trans hv
            exact ⟨I_cell hb hJ this, this⟩
          refine ⟨[.sl asx len .non], by simp only [Sh, ht]; exact ⟨asx, len, rfl, by omega, hS⟩, one ?_ rfl⟩
          exact .sl a vs hl hm (fun h => by cases h) (fun _ _ _ h => by cases h) (fun _ => rfl) h1 hR.1 (fun _ => rfl) hk (fun j x v hx hv => hR.2 j x v hx hv) (fun _ _ h => by cases h)
      | pointer e =>
        rcases DataW.trod_pointer ht h with ⟨rfl, _⟩ | ⟨a, cs', y, n, rfl, rfl, _, hc, hd⟩
        · exact ⟨[.nilp], by simp only [Sh, ht]; exact .inl trivial, one .nilp rfl⟩
        · obtain ⟨rs, h1, h2, h3⟩ := read_cells hb hJ m hp hd
          obtain ⟨_, hl, hcell⟩ := World.cells?_some hc
          have hk : ∀ (j : Nat) v, cs'[j]? = some v → c.I (a.add j) ∧ c.w.cell? (a.add j) = some v := fun j v hv => by
            have hj : j < P.cellsOf e := by rw [← hl]; exact (List.getElem?_eq_some_iff.1 hv).1
            have := (hcell j hj).trans hv
            exact ⟨I_cell hb hJ this, this⟩
          exact ⟨[.ptr rs], by simp only [Sh, ht]; exact .inr ⟨rs, rfl, h1⟩, one (.ptr a cs' h3 h2.1 hk (fun j x v hx hv => h2.2 j x v hx hv)) rfl⟩
      | struct fs =>
        simp only [Bool.and_eq_true, List.all_eq_true] at hp
        obtain ⟨xs, n, rfl, _, hcl, hxl, hget⟩ := DataW.trod_struct ht h
        have key : ∀ (l : List Field) (o : Nat) (i : Nat), fieldsOk P o l (P.cellsOf t) = true → o ≤ cs.length → (∀ f ∈ l, plainB P m f.type = true) → (∀ j f, l[j]? = some f → DataW.trod enc P c.w 0 (fun _ => true) true n f.type ((cs.drop f.offset).take (P.cellsOf f.type)) = xs[i + j]?) → i + l.length = xs.length →
            ∃ asx, ShL (Sh P m) (l.map (·.type)) asx ∧ Reps c false asx (cs.drop o) ∧ ∀ v ∈ cs.drop o, v.oneCell' = true := by
          intro l
          induction l with
          | nil =>
            intro o i hf ho _ _ _
            simp only [fieldsOk, beq_iff_eq] at hf
            have : cs.drop o = [] := List.drop_eq_nil_of_le (by omega)
            rw [this]
            exact ⟨[], rfl, Reps.nil, fun _ h => by cases h⟩
          | cons f l ih =>
            intro o i hf ho hpl hg hlen
            simp only [fieldsOk, Bool.and_eq_true, beq_iff_eq] at hf
            obtain ⟨hfo, hf⟩ := hf
            have hg0 := hg 0 f rfl
            simp only [List.length_cons] at hlen
            rw [List.getElem?_eq_getElem (by omega), hfo] at hg0
            obtain ⟨rs, h1, h2, h3⟩ := read_cells hb hJ m (hpl f (List.mem_cons_self ..)) hg0
            have mono : ∀ (l : List Field) (o : Nat), fieldsOk P o l (P.cellsOf t) = true → o ≤ P.cellsOf t := by
              intro l
              induction l with
              | nil => intro o h; simp only [fieldsOk, beq_iff_eq] at h; omega
              | cons f l ih => intro o h; simp only [fieldsOk, Bool.and_eq_true] at h; have := ih _ h.2; omega
            have ho2 := mono _ _ hf
            obtain ⟨asx, h4, h5, h6⟩ := ih (o + P.cellsOf f.type) (i + 1) hf (by omega) (fun g hg => hpl g (List.mem_cons_of_mem _ hg)) (fun j g hj => by
              have := hg (j + 1) g (by simpa using hj)
              rwa [show i + (j + 1) = i + 1 + j by omega] at this) (by omega)
            have hsplit : cs.drop o = (cs.drop o).take (P.cellsOf f.type) ++ cs.drop (o + P.cellsOf f.type) := by
              rw [← List.drop_drop, List.take_append_drop]
            rw [hsplit]
            refine ⟨rs ++ asx, ⟨rs, asx, rfl, h1, h4⟩, h2.append h5, fun v hv => ?_⟩
            rcases List.mem_append.1 hv with hv | hv
            · exact h3 v hv
            · exact h6 v hv
        obtain ⟨asx, h1, h2, h3⟩ := key fs.toList 0 0 hp.1 (Nat.zero_le _) hp.2 (fun j f hj => by
          have := hget j f (by simpa using hj)
          rwa [show 0 + j = j by omega]) (by simp [hxl])
        exact ⟨asx, by simp only [Sh, ht]; exact h1, by simpa using h2, by simpa using h3⟩
      | array n e =>
        simp only [Bool.and_eq_true, beq_iff_eq] at hp
        obtain ⟨xs, q, rfl, _, hcl, hxl, hget⟩ := DataW.trod_array ht h
        have key : ∀ i, i ≤ n → ∃ asx, ShR (Sh P m e) i asx ∧ Reps c false asx (cs.take (i * P.cellsOf e)) ∧ ∀ v ∈ cs.take (i * P.cellsOf e), v.oneCell' = true := by
          intro i
          induction i with
          | zero => intro _; exact ⟨[], ⟨[], rfl, rfl, fun _ h => by cases h⟩, by simpa using Reps.nil, by simp⟩
          | succ i ih =>
            intro hi
            obtain ⟨asx, ⟨rows, hl, rfl, hS⟩, h2, h3⟩ := ih (by omega)
            have hg := hget i (by omega)
            rw [List.getElem?_eq_getElem (by omega)] at hg
            obtain ⟨rs, h4, h5, h6⟩ := read_cells hb hJ m hp.2 hg
            have hsplit : cs.take ((i + 1) * P.cellsOf e) = cs.take (i * P.cellsOf e) ++ (cs.drop (i * P.cellsOf e)).take (P.cellsOf e) := by
              rw [Nat.succ_mul, List.take_add]
            rw [hsplit]
            refine ⟨_, ⟨rows ++ [rs], by simp [hl], rfl, fun r hr => ?_⟩, ?_, fun v hv => ?_⟩
            · rcases List.mem_append.1 hr with hr | hr
              · exact hS r hr
              · rw [List.mem_singleton.1 hr]; exact h4
            · simp only [List.flatten_append, List.flatten_cons, List.flatten_nil, List.append_nil]
              exact h2.append h5
            · rcases List.mem_append.1 hv with hv | hv
              · exact h3 v hv
              · exact h6 v hv
        obtain ⟨asx, h1, h2, h3⟩ := key n (Nat.le_refl _)
        have hall : cs.take (n * P.cellsOf e) = cs := List.take_of_length_le (by omega)
        rw [hall] at h2 h3
        exact ⟨asx, by simp only [Sh, ht]; exact h1, h2, h3⟩
      | _ => cases hp
end
end Go.Ab
end
section
namespace Go.Ab
def CLe (c d : CS) : Prop := ∀ f asx g r, c f asx g = some r → d f asx g = some r
theorem opE_mono {c d : CS} (h : CLe c d) {al : Nat → Bool} {lo id : Nat} {op : AOp} {e : Env} {g : G} {r : AV × G} (hr : opE c al lo id op e g = some r) : opE d al lo id op e g = some r := by
  cases op with
  | call m f args =>
    simp only [opE, vCall] at hr ⊢
    split at hr
    · cases m with
      | raw => exact h _ _ _ _ hr
      | pure =>
        simp only at hr ⊢
        split at hr
        · cases hr
        · split at hr
          · cases hr
          · rename_i hc
            rw [h _ _ _ _ hc]
            exact hr
      | lock =>
        simp only at hr ⊢
        split at hr
        · cases hr
        · split at hr
          · cases hr
          · rename_i hc
            rw [h _ _ _ _ hc]
            exact hr
      | thaw =>
        simp only at hr ⊢
        split at hr
        · cases hr
        · split at hr
          · rename_i hc
            rw [h _ _ _ _ hc]
            exact hr
          · cases hr
    · cases hr
  | _ => exact hr
theorem regE_mono {c d : CS} (h : CLe c d) {draw : Bool} {base : Nat} : ∀ {os : List AOper} {j : Nat} {e : Env} {g : G} {r}, regE c draw base j os e g = some r → regE d draw base j os e g = some r
  | [], _, _, _, _, hr => hr
  | o :: os, j, e, g, r, hr => by
    simp only [regE] at hr ⊢
    split
    · rename_i hw
      simp only [hw, if_true] at hr
      split at hr
      · rename_i ho
        rw [opE_mono h ho]
        exact regE_mono h hr
      · cases hr
    · rename_i hw
      simp only [hw, Bool.false_eq_true, if_false] at hr
      exact regE_mono h hr
theorem iter_mono {f f' : Env → G → Option (Out × Env × G)} (h : ∀ e g r, f e g = some r → f' e g = some r) : ∀ {k k' : Nat} {e g r}, k ≤ k' → iter f k e g = some r → iter f' k' e g = some r
  | 0, _, _, _, _, _, hr => by simp [iter] at hr
  | k + 1, k', e, g, r, hk, hr => by
    obtain ⟨k', rfl⟩ : ∃ j, k' = j + 1 := ⟨k' - 1, by omega⟩
    simp only [iter] at hr ⊢
    split at hr
    · rename_i hf
      rw [h _ _ _ hf]
      exact iter_mono h (by omega) hr
    · rename_i hn
      cases hf : f e g with
      | none => rw [hf] at hr; cases hr
      | some q =>
        rw [hf] at hr
        obtain rfl : q = r := Option.some.inj hr
        obtain ⟨o, e', g'⟩ := q
        cases o with
        | nrm => exact absurd hf (hn _ _)
        | ext n => rw [h _ _ _ hf]
        | ret => rw [h _ _ _ hf]
theorem codeE_mono {c d : CS} (h : CLe c d) {k k' : Nat} (hk : k ≤ k') : ∀ {x : ACode} {e : Env} {g : G} {r}, codeE c k x e g = some r → codeE d k' x e g = some r := by
  intro x
  induction x with
  | skip => intro e g r hr; exact hr
  | reg draw ops =>
    intro e g r hr
    simp only [codeE] at hr ⊢
    split at hr
    · rename_i ho
      rw [regE_mono h ho]
      exact hr
    · cases hr
  | seq a b iha ihb =>
    intro e g r hr
    simp only [codeE] at hr ⊢
    split at hr
    · rename_i ho
      rw [iha ho]
      exact ihb hr
    · rename_i hn
      cases hf : codeE c k a e g with
      | none => rw [hf] at hr; cases hr
      | some q =>
        rw [hf] at hr
        obtain rfl : q = r := Option.some.inj hr
        obtain ⟨o, e', g'⟩ := q
        cases o with
        | nrm => exact absurd hf (hn _ _)
        | ext n => rw [iha hf]
        | ret => rw [iha hf]
  | cond cc t f iht ihf =>
    intro e g r hr
    simp only [codeE] at hr ⊢
    split at hr
    · split
      · rename_i hx
        simp only [hx, if_true] at hr
        exact iht hr
      · rename_i hx
        simp only [hx, Bool.false_eq_true, if_false] at hr
        exact ihf hr
    · cases hr
  | lck t cc ih =>
    intro e g r hr
    simp only [codeE] at hr ⊢
    exact ih hr
  | lckS t cc ih =>
    intro e g r hr
    simp only [codeE] at hr ⊢
    exact ih hr
  | imm t cc ih =>
    intro e g r hr
    simp only [codeE] at hr ⊢
    cases hf : frz g.hp depth (e t) with
    | none => rw [hf] at hr; cases hr
    | some v => rw [hf] at hr; exact ih hr
  | scp cc ih =>
    intro e g r hr
    simp only [codeE] at hr ⊢
    exact ih hr
  | lab =>
    intro e g r hr
    simp only [codeE] at hr ⊢
    exact hr
  | blk id cc ih =>
    intro e g r hr
    simp only [codeE] at hr ⊢
    split at hr
    · rename_i hf
      rw [ih hf]
      exact hr
    · rename_i hn
      cases hf : codeE c k cc e g with
      | none => rw [hf] at hr; cases hr
      | some q =>
        rw [hf] at hr
        obtain rfl : q = r := Option.some.inj hr
        obtain ⟨o, e', g'⟩ := q
        cases o with
        | nrm => rw [ih hf]
        | ext n => exact absurd hf (hn _ _ _)
        | ret => rw [ih hf]
  | loop cc ih =>
    intro e g r hr
    simp only [codeE] at hr ⊢
    exact iter_mono (fun _ _ _ => ih) hk hr
  | ext id => intro e g r hr; exact hr
  | ret => intro e g r hr; exact hr
theorem callE_mono (F : Funs) : ∀ {k k' : Nat}, k ≤ k' → CLe (callE F k) (callE F k')
  | 0, _, _, _, _, _, _, hr => by simp [callE] at hr
  | k + 1, k', hk, f, asx, g, r, hr => by
    obtain ⟨k', rfl⟩ : ∃ j, k' = j + 1 := ⟨k' - 1, by omega⟩
    simp only [callE] at hr ⊢
    split at hr
    · cases hr
    · rename_i fn hF
      have hm := fun {x} => codeE_mono (callE_mono F (show k ≤ k' by omega)) (show k ≤ k' by omega) (x := fn.body) (e := argEnv asx) (g := g) (r := x)
      split at hr
      · rename_i hc
        rw [hm hc]
        exact hr
      · rename_i hc
        rw [hm hc]
        exact hr
      · cases hr
open Classical in
noncomputable def lim {α : Type} (f : Nat → Option α) : Option α :=
  if h : ∃ r k, f k = some r then some (Classical.choose h) else none
theorem lim_some {α : Type} {f : Nat → Option α} (hm : ∀ k k' r, k ≤ k' → f k = some r → f k' = some r) {r : α} : lim f = some r ↔ ∃ k, f k = some r := by
  unfold lim
  constructor
  · intro h
    split at h
    · rename_i hx
      have := Classical.choose_spec hx
      rwa [Option.some.inj h] at this
    · cases h
  · rintro ⟨k, hk⟩
    rw [dif_pos ⟨r, k, hk⟩]
    obtain ⟨k', hk'⟩ := Classical.choose_spec (⟨r, k, hk⟩ : ∃ r k, f k = some r)
    have h1 := hm k (max k k') _ (by omega) hk
    have h2 := hm k' (max k k') _ (by omega) hk'
    rw [h1] at h2
    exact congrArg some (Option.some.inj h2).symm
theorem lim_ext {α : Type} {a b : Option α} (h : ∀ r, a = some r ↔ b = some r) : a = b := by
  cases a with
  | none =>
    cases b with
    | none => rfl
    | some r => exact (((h r).2 rfl).symm ▸ rfl : none = some r)
  | some r => exact ((h r).1 rfl).symm
variable (F : Funs)
noncomputable def callS : CS := fun f asx g => lim fun k => callE F k f asx g
noncomputable def codeS (x : ACode) (e : Env) (g : G) : Option (Out × Env × G) := lim fun k => codeE (callE F k) k x e g
theorem callS_some {f asx g r} : callS F f asx g = some r ↔ ∃ k, callE F k f asx g = some r :=
  lim_some fun _ _ _ hk h => callE_mono F hk _ _ _ _ h
theorem codeS_some {x e g r} : codeS F x e g = some r ↔ ∃ k, codeE (callE F k) k x e g = some r :=
  lim_some fun _ _ _ hk h => codeE_mono (callE_mono F hk) hk h
theorem callE_le (k : Nat) : CLe (callE F k) (callS F) := fun _ _ _ _ h => (callS_some F).2 ⟨k, h⟩
theorem opE_lim {al lo id op e g r} : opE (callS F) al lo id op e g = some r ↔ ∃ k, opE (callE F k) al lo id op e g = some r := by
  refine ⟨fun h => ?_, fun ⟨k, h⟩ => opE_mono (callE_le F k) h⟩
  cases op with
  | call m f args =>
    simp only [opE, vCall] at h ⊢
    split at h
    · cases m with
      | raw => exact (callS_some F).1 h
      | pure =>
        simp only at h ⊢
        split at h
        · cases h
        · split at h
          · cases h
          · rename_i hc
            obtain ⟨k, hk⟩ := (callS_some F).1 hc
            exact ⟨k, by rw [hk]; exact h⟩
      | lock =>
        simp only at h ⊢
        split at h
        · cases h
        · split at h
          · cases h
          · rename_i hc
            obtain ⟨k, hk⟩ := (callS_some F).1 hc
            exact ⟨k, by rw [hk]; exact h⟩
      | thaw =>
        simp only at h ⊢
        split at h
        · cases h
        · split at h
          · rename_i hc
            obtain ⟨k, hk⟩ := (callS_some F).1 hc
            exact ⟨k, by rw [hk]; exact h⟩
          · cases h
    · cases h
  | _ => exact ⟨0, h⟩
theorem regE_lim {draw base} : ∀ {os : List AOper} {j e g r}, regE (callS F) draw base j os e g = some r ↔ ∃ k, regE (callE F k) draw base j os e g = some r
  | [], _, _, _, _ => ⟨fun h => ⟨0, h⟩, fun ⟨_, h⟩ => h⟩
  | o :: os, j, e, g, r => by
    refine ⟨fun h => ?_, fun ⟨k, h⟩ => regE_mono (callE_le F k) h⟩
    simp only [regE] at h
    split at h
    · rename_i hw
      split at h
      · rename_i ho
        obtain ⟨k1, h1⟩ := (opE_lim F).1 ho
        obtain ⟨k2, h2⟩ := (regE_lim).1 h
        refine ⟨max k1 k2, ?_⟩
        simp only [regE]
        rw [if_pos hw, opE_mono (callE_mono F (Nat.le_max_left k1 k2)) h1]
        exact regE_mono (callE_mono F (Nat.le_max_right k1 k2)) h2
      · cases h
    · rename_i hw
      obtain ⟨k2, h2⟩ := (regE_lim).1 h
      refine ⟨k2, ?_⟩
      simp only [regE]
      rw [if_neg hw]
      exact h2
theorem codeS_skip (e g) : codeS F .skip e g = some (.nrm, e, g) := (codeS_some F).2 ⟨0, rfl⟩
theorem codeS_ext (id e g) : codeS F (.ext id) e g = some (.ext id, e, g) := (codeS_some F).2 ⟨0, rfl⟩
theorem codeS_ret (e g) : codeS F .ret e g = some (.ret, e, g) := (codeS_some F).2 ⟨0, rfl⟩
theorem codeS_reg (draw ops e g) : codeS F (.reg draw ops) e g = match regE (callS F) draw g.nx 0 ops e { g with nx := g.nx + ops.length } with
    | some (e, g) => some (.nrm, e, g)
    | none => none := by
  refine lim_ext fun r => ?_
  rw [codeS_some]
  constructor
  · rintro ⟨k, h⟩
    simp only [codeE] at h
    split at h
    · rename_i ho
      rw [(regE_lim F).2 ⟨k, ho⟩]
      exact h
    · cases h
  · intro h
    split at h
    · rename_i ho
      obtain ⟨k, hk⟩ := (regE_lim F).1 ho
      exact ⟨k, by simp only [codeE]; rw [hk]; exact h⟩
    · cases h
theorem codeS_seq (a b e g) : codeS F (.seq a b) e g = match codeS F a e g with
    | some (.nrm, e, g) => codeS F b e g
    | r => r := by
  refine lim_ext fun r => ?_
  rw [codeS_some]
  constructor
  · rintro ⟨k, h⟩
    simp only [codeE] at h
    split at h
    · rename_i ho
      rw [(codeS_some F).2 ⟨k, ho⟩]
      exact (codeS_some F).2 ⟨k, h⟩
    · rename_i hn
      rw [(codeS_some F).2 ⟨k, h⟩]
      obtain ⟨o, e', g'⟩ := r
      cases o with
      | nrm => exact absurd h (hn _ _)
      | ext n => rfl
      | ret => rfl
  · intro h
    split at h
    · rename_i ho
      obtain ⟨k1, h1⟩ := (codeS_some F).1 ho
      obtain ⟨k2, h2⟩ := (codeS_some F).1 h
      refine ⟨max k1 k2, ?_⟩
      simp only [codeE]
      rw [codeE_mono (callE_mono F (Nat.le_max_left k1 k2)) (Nat.le_max_left k1 k2) h1]
      exact codeE_mono (callE_mono F (Nat.le_max_right k1 k2)) (Nat.le_max_right k1 k2) h2
    · rename_i hn
      obtain ⟨k1, h1⟩ := (codeS_some F).1 h
      refine ⟨k1, ?_⟩
      simp only [codeE]
      rw [h1]
      obtain ⟨o, e', g'⟩ := r
      cases o with
      | nrm => exact absurd h (hn _ _)
      | ext n => rfl
      | ret => rfl
theorem codeS_cond (c t f e g) : codeS F (.cond c t f) e g = match c.ev e with
    | .b x => if x then codeS F t e g else codeS F f e g
    | _ => none := by
  refine lim_ext fun r => ?_
  rw [codeS_some]
  simp only [codeE]
  cases c.ev e with
  | b x =>
    cases x with
    | true => simp only [if_true]; exact (codeS_some F).symm
    | false => simp only [Bool.false_eq_true, if_false]; exact (codeS_some F).symm
  | _ => simp
theorem codeS_lck (t c e g) : codeS F (.lck t c) e g = codeS F c e ⟨lock g.hp (vis g.hp depth (e t)), g.nx⟩ := by
  refine lim_ext fun r => ?_
  rw [codeS_some]
  simp only [codeE]
  exact (codeS_some F).symm
theorem codeS_lckS (t c e g) : codeS F (.lckS t c) e g = codeS F c e ⟨lock g.hp (ids1 (e t)), g.nx⟩ := by
  refine lim_ext fun r => ?_
  rw [codeS_some]
  simp only [codeE]
  exact (codeS_some F).symm
theorem codeS_imm (t c e g) : codeS F (.imm t c) e g = match frz g.hp depth (e t) with
    | some v => codeS F c (upd e t v) ⟨lock g.hp (vis g.hp depth (e t)), g.nx⟩
    | none => none := by
  refine lim_ext fun r => ?_
  rw [codeS_some]
  simp only [codeE]
  cases frz g.hp depth (e t) with
  | none => simp
  | some v => exact (codeS_some F).symm
theorem codeS_scp (c e g) : codeS F (.scp c) e g = codeS F c e g := by
  refine lim_ext fun r => ?_
  rw [codeS_some]
  simp only [codeE]
  exact (codeS_some F).symm
theorem codeS_lab (e g) : codeS F .lab e g = some (.nrm, e, g) := by
  refine lim_ext fun r => ?_
  rw [codeS_some]
  simp only [codeE]
  exact ⟨fun ⟨_, h⟩ => h, fun h => ⟨0, h⟩⟩
theorem codeS_blk (id c e g) : codeS F (.blk id c) e g = match codeS F c e g with
    | some (.ext n, e, g) => some (if n = id then .nrm else .ext n, e, g)
    | r => r := by
  refine lim_ext fun r => ?_
  rw [codeS_some]
  constructor
  · rintro ⟨k, h⟩
    simp only [codeE] at h
    split at h
    · rename_i ho
      rw [(codeS_some F).2 ⟨k, ho⟩]
      exact h
    · rename_i hn
      rw [(codeS_some F).2 ⟨k, h⟩]
      obtain ⟨o, e', g'⟩ := r
      cases o with
      | nrm => rfl
      | ext n => exact absurd h (hn _ _ _)
      | ret => rfl
  · intro h
    split at h
    · rename_i ho
      obtain ⟨k1, h1⟩ := (codeS_some F).1 ho
      exact ⟨k1, by simp only [codeE]; rw [h1]; exact h⟩
    · rename_i hn
      obtain ⟨k1, h1⟩ := (codeS_some F).1 h
      refine ⟨k1, ?_⟩
      simp only [codeE]
      rw [h1]
      obtain ⟨o, e', g'⟩ := r
      cases o with
      | nrm => rfl
      | ext n => exact absurd h (hn _ _ _)
      | ret => rfl
theorem codeS_loop (c e g) : codeS F (.loop c) e g = match codeS F c e g with
    | some (.nrm, e, g) => codeS F (.loop c) e g
    | r => r := by
  refine lim_ext fun r => ?_
  rw [codeS_some]
  constructor
  · rintro ⟨k, h⟩
    simp only [codeE] at h
    cases k with
    | zero => simp [iter] at h
    | succ k =>
      simp only [iter] at h
      split at h
      · rename_i ho
        rw [(codeS_some F).2 ⟨k + 1, ho⟩]
        refine (codeS_some F).2 ⟨k + 1, ?_⟩
        simp only [codeE]
        exact iter_mono (fun _ _ _ h => h) (Nat.le_succ k) h
      · rename_i hn
        rw [(codeS_some F).2 ⟨k + 1, h⟩]
        obtain ⟨o, e', g'⟩ := r
        cases o with
        | nrm => exact absurd h (hn _ _)
        | ext n => rfl
        | ret => rfl
  · intro h
    split at h
    · rename_i ho
      obtain ⟨k1, h1⟩ := (codeS_some F).1 ho
      obtain ⟨k2, h2⟩ := (codeS_some F).1 h
      simp only [codeE] at h2
      refine ⟨max k1 k2 + 1, ?_⟩
      simp only [codeE, iter]
      rw [codeE_mono (callE_mono F (by omega : k1 ≤ max k1 k2 + 1)) (by omega : k1 ≤ max k1 k2 + 1) h1]
      exact iter_mono (fun _ _ _ h => codeE_mono (callE_mono F (by omega : k2 ≤ max k1 k2 + 1)) (by omega : k2 ≤ max k1 k2 + 1) h) (by omega) h2
    · rename_i hn
      obtain ⟨k1, h1⟩ := (codeS_some F).1 h
      refine ⟨k1 + 1, ?_⟩
      simp only [codeE, iter]
      rw [codeE_mono (callE_mono F (by omega : k1 ≤ k1 + 1)) (by omega : k1 ≤ k1 + 1) h1]
      obtain ⟨o, e', g'⟩ := r
      cases o with
      | nrm => exact absurd h (hn _ _)
      | ext n => rfl
      | ret => rfl
theorem callS_eq (f asx g) : callS F f asx g = match F f with
    | none => none
    | some fn => match codeS F fn.body (argEnv asx) g with
      | some (.nrm, e, g) | some (.ret, e, g) => (resE fn.res e g).map (·, g)
      | _ => none := by
  refine lim_ext fun r => ?_
  rw [callS_some]
  constructor
  · rintro ⟨k, h⟩
    cases k with
    | zero => simp [callE] at h
    | succ k =>
      simp only [callE] at h
      split at h
      · cases h
      · rename_i fn hF
        rw [hF]
        simp only
        split at h
        · rename_i hc
          rw [(codeS_some F).2 ⟨k, hc⟩]
          exact h
        · rename_i hc
          rw [(codeS_some F).2 ⟨k, hc⟩]
          exact h
        · cases h
  · intro h
    split at h
    · cases h
    · rename_i fn hF
      split at h
      · rename_i hc
        obtain ⟨k, hk⟩ := (codeS_some F).1 hc
        exact ⟨k + 1, by simp only [callE, hF]; rw [hk]; exact h⟩
      · rename_i hc
        obtain ⟨k, hk⟩ := (codeS_some F).1 hc
        exact ⟨k + 1, by simp only [callE, hF]; rw [hk]; exact h⟩
      · cases h
end Go.Ab
end
section
namespace Go.Ab
theorem upd_same {α : Type} (e : Nat → α) (d : Nat) (v : α) : upd e d v d = v := if_pos rfl
theorem upd_ne {α : Type} (e : Nat → α) {d k : Nat} (v : α) (h : k ≠ d) : upd e d v k = e k := if_neg h
theorem put_some (e : Env) (d : Nat) (v : AV) : put e (some d) v = upd e d v := rfl
theorem put_none (e : Env) (v : AV) : put e none v = e := rfl
theorem allow_no (base : Nat) (pre : List Nat) (id : Nat) : allow false base pre id = true := rfl
theorem allow_lt {base id : Nat} (pre : List Nat) (h : id < base) : allow true base pre id = true := by simp [allow, h]
section
variable (c : CS) (d : Bool) (b j : Nat) (dst : Option Nat) (os : List AOper) (e : Env)
def bindR (r : Option (AV × G)) : Option (Env × G) :=
  match r with
  | some (v, g) => regE c d b j os (put e dst v) g
  | none => none
def selR (w : Bool) (op : AOp) (pre : List Nat) (g : G) : Option (Env × G) :=
  if w then bindR c d b (j + 1) dst os e (opE c (allow d b pre) b (b + j) op e g) else regE c d b (j + 1) os (put e dst .undef) g
theorem selR_true (op pre g) : selR c d b j dst os e true op pre g = bindR c d b (j + 1) dst os e (opE c (allow d b pre) b (b + j) op e g) := rfl
theorem regE_nil (g : G) : regE c d b j [] e g = some (e, g) := rfl
theorem regE_cons (op : AOp) (grd : Option (Nat × Bool)) (pre : List Nat) (g : G) :
    regE c d b j ({ dst, op, grd, pre } :: os) e g = selR c d b j dst os e (wanted e grd) op pre g := by
  simp only [regE, selR, bindR]
  rfl
end
section
variable (F : Funs)
noncomputable def thenS (x : ACode) (r : Option (Out × Env × G)) : Option (Out × Env × G) :=
  match r with
  | some (.nrm, e, g) => codeS F x e g
  | r => r
noncomputable def selS (t f : ACode) (e : Env) (g : G) (v : AV) : Option (Out × Env × G) :=
  match v with
  | .b c => if c then codeS F t e g else codeS F f e g
  | _ => none
def normS (r : Option (Env × G)) : Option (Out × Env × G) :=
  match r with
  | some (e, g) => some (.nrm, e, g)
  | none => none
def blkS (id : Nat) (r : Option (Out × Env × G)) : Option (Out × Env × G) :=
  match r with
  | some (.ext n, e, g) => some (if n = id then .nrm else .ext n, e, g)
  | r => r
theorem cS_reg (draw ops e g) : codeS F (.reg draw ops) e g = normS (regE (callS F) draw g.nx 0 ops e ⟨g.hp, g.nx + ops.length⟩) := codeS_reg F draw ops e g
theorem cS_seq (a b e g) : codeS F (.seq a b) e g = thenS F b (codeS F a e g) := codeS_seq F a b e g
theorem cS_cond (c t f e g) : codeS F (.cond c t f) e g = selS F t f e g (c.ev e) := codeS_cond F c t f e g
theorem cS_blk (id c e g) : codeS F (.blk id c) e g = blkS id (codeS F c e g) := codeS_blk F id c e g
theorem cS_loop (c e g) : codeS F (.loop c) e g = thenS F (.loop c) (codeS F c e g) := codeS_loop F c e g
end
def wantV (v : AV) (w : Bool) : Bool := match v with | .b x => x == w | _ => false
theorem wanted_none (e : Env) : wanted e none = true := rfl
theorem wanted_some (e : Env) (t : Nat) (w : Bool) : wanted e (some (t, w)) = wantV (e t) w := rfl
theorem wantV_1 (x : Bool) : wantV (.b x) true = x := by cases x <;> rfl
theorem wantV_0 (x : Bool) : wantV (.b x) false = !x := by cases x <;> rfl
theorem wantV_undef (w : Bool) : wantV .undef w = false := rfl
section
variable {c : CS} {al : Nat → Bool} {lo id : Nat} {e : Env} {g : G}
theorem ev_t (n : Nat) : Opd.ev e (.t n) = e n := rfl
theorem ev_c (v : AV) : Opd.ev e (.c v) = v := rfl
theorem o_mv (x : Opd) : opE c al lo id (.mv x) e g = some (x.ev e, g) := rfl
theorem o_pick (x y z : Opd) : opE c al lo id (.pick x y z) e g = vPick (x.ev e) (y.ev e) (z.ev e) g := rfl
theorem vPick_t (a b : AV) (g : G) : vPick (.b true) a b g = some (a, g) := rfl
theorem vPick_f (a b : AV) (g : G) : vPick (.b false) a b g = some (b, g) := rfl
theorem o_new (z : List AV) : opE c al lo id (.new z) e g = some (.mp id 0, ⟨upd g.hp id (some (.cells z false)), g.nx⟩) := rfl
theorem o_box (x : Opd) : opE c al lo id (.box x) e g = vBox id (x.ev e) g := rfl
theorem vMap_some (v : AV) : vMap g (some v) = some (v, g) := rfl
theorem vMapL_some (f) (v : List AV) : vMapL f g (some v) = some (f v, g) := rfl
theorem o_build (z : List AV) (ps) : opE c al lo id (.build z ps) e g = vMapL .agg g (fill e z ps) := rfl
theorem o_ld (agg) (x : Opd) : opE c al lo id (.ld agg x) e g = vLd al agg (x.ev e) g := rfl
theorem vLd_ptr (agg cs) : vLd al agg (.ptr cs) g = vMap g (part cs 0 agg) := rfl
theorem o_st (n) (a x : Opd) : opE c al lo id (.st n a x) e g = vSt al n (a.ev e) (x.ev e) g := rfl
theorem o_nilck (x : Opd) : opE c al lo id (.nilck x) e g = vNil (x.ev e) g := rfl
theorem vNil_ptr (cs) : vNil (.ptr cs) g = some (.ptr cs, g) := rfl
theorem vNil_mp (b o) : vNil (.mp b o) g = some (.mp b o, g) := rfl
theorem vNil_fn (f a b) : vNil (.fn f a b) g = some (.fn f a b, g) := rfl
theorem o_bin (op) (x y : Opd) : opE c al lo id (.bin op x y) e g = vMap g (abin op (x.ev e) (y.ev e)) := rfl
theorem o_un (op) (x : Opd) : opE c al lo id (.un op x) e g = vMap g (aun op (x.ev e)) := rfl
theorem o_mkfn (f a b) : opE c al lo id (.mkfn f a b) e g = some (.fn f (a.map (·.ev e)) (b.map (·.ev e)), g) := rfl
theorem o_fa (off) (x : Opd) : opE c al lo id (.fa off x) e g = vFa off (x.ev e) g := rfl
theorem vFa_mp (off b o) : vFa off (.mp b o) g = some (.mp b (o + off), g) := rfl
theorem o_fld (off agg) (x : Opd) : opE c al lo id (.fld off agg x) e g = vFld off agg (x.ev e) g := rfl
theorem vFld_agg (off agg cs) : vFld off agg (.agg cs) g = vMap g (part cs off agg) := rfl
theorem o_ia (esz) (x i : Opd) : opE c al lo id (.ia esz x i) e g = vIa esz (x.ev e) (i.ev e) g := rfl
theorem vIa_sl {esz cs t k} {n : Nat} {z : Int} (h0 : 0 ≤ z) (h : z < n) : vIa esz (.sl cs n t) (.i k z) g = some (.ptr (cs.drop (z.toNat * esz)), g) := if_pos ⟨h0, h⟩
theorem vIa_ms {esz b off k} {n : Nat} {z : Int} (h0 : 0 ≤ z) (h : z < n) : vIa esz (.ms b off n) (.i k z) g = some (.mp b (off + z.toNat * esz), g) := if_pos ⟨h0, h⟩
theorem o_iaa (len esz) (x i : Opd) : opE c al lo id (.iaa len esz x i) e g = vIaa len esz (x.ev e) (i.ev e) g := rfl
theorem vIaa_ptr {esz cs k} {len : Nat} {z : Int} (h0 : 0 ≤ z) (h : z < len) : vIaa len esz (.ptr cs) (.i k z) g = some (.ptr (cs.drop (z.toNat * esz)), g) := if_pos ⟨h0, h⟩
theorem vIaa_mp {esz b off k} {len : Nat} {z : Int} (h0 : 0 ≤ z) (h : z < len) : vIaa len esz (.mp b off) (.i k z) g = some (.mp b (off + z.toNat * esz), g) := if_pos ⟨h0, h⟩
theorem o_len (x : Opd) : opE c al lo id (.len x) e g = vLen (x.ev e) g := rfl
theorem vLen_sl (cs n t) : vLen (.sl cs n t) g = some (.i .i64 n, g) := rfl
theorem vLen_ms (b o n) : vLen (.ms b o n) g = some (.i .i64 n, g) := rfl
theorem o_mx (x y : Opd) : opE c al lo id (.mx x y) e g = vMx (x.ev e) (y.ev e) g := rfl
theorem o_mn (x y : Opd) : opE c al lo id (.mn x y) e g = vMn (x.ev e) (y.ev e) g := rfl
theorem vMx_i (k l a b) : vMx (.i k a) (.i l b) g = some (.i k (if b > a then b else a), g) := rfl
theorem vMn_i (k l a b) : vMn (.i k a) (.i l b) g = some (.i k (if b < a then b else a), g) := rfl
theorem o_ext (i) (x : Opd) : opE c al lo id (.ext i x) e g = vExt i (x.ev e) g := rfl
theorem vExt_tup (i cs) : vExt i (.tup cs) g = vMap g (cs[i]?) := rfl
theorem b_add (k x y) : abin .add (.i k x) (.i k y) = some (.i k (k.wrap (x + y))) := by simp [abin, ibin]
theorem b_sub (k x y) : abin .sub (.i k x) (.i k y) = some (.i k (k.wrap (x - y))) := by simp [abin, ibin]
theorem b_mul (k x y) : abin .mul (.i k x) (.i k y) = some (.i k (k.wrap (x * y))) := by simp [abin, ibin]
theorem b_lss (k x y) : abin .lss (.i k x) (.i k y) = some (.b (decide (x < y))) := by simp [abin, ibin]
theorem b_leq (k x y) : abin .leq (.i k x) (.i k y) = some (.b (decide (x ≤ y))) := by simp [abin, ibin]
theorem b_gtr (k x y) : abin .gtr (.i k x) (.i k y) = some (.b (decide (x > y))) := by simp [abin, ibin]
theorem b_geq (k x y) : abin .geq (.i k x) (.i k y) = some (.b (decide (x ≥ y))) := by simp [abin, ibin]
theorem b_eql (k x y) : abin .eql (.i k x) (.i k y) = some (.b (x == y)) := by simp [abin, ibin]
theorem b_neq (k x y) : abin .neq (.i k x) (.i k y) = some (.b (x != y)) := by simp [abin, ibin]
end
def selB (x : Bool) (o : Option Blk) : Option Blk := if x then o else none
theorem selB_true (o) : selB true o = o := rfl
theorem rd_S (g : G) (al : Nat → Bool) (id : Nat) : rd g al id = selB (al id) (g.hp id) := rfl
section
variable {al : Nat → Bool} {g : G}
def ldS (agg : Option Nat) (off : Nat) (g : G) : Option Blk → Option (AV × G)
  | some (.cells cs _) => vMap g (part cs off agg)
  | _ => none
theorem ldS_ok (agg off g cs ro) : ldS agg off g (some (.cells cs ro)) = vMap g (part cs off agg) := rfl
theorem vLd_S (agg b off) : vLd al agg (.mp b off) g = ldS agg off g (selB (al b) (g.hp b)) := rfl
def stD (n b off len m : Nat) (ones : Bool) (cs vs : List AV) (g : G) : Option (AV × G) :=
  if len = n ∧ off + n ≤ m ∧ ones = true then some (.undef, ⟨upd g.hp b (some (.cells (splice cs off vs) false)), g.nx⟩) else none
theorem stD_ok {n b off len m : Nat} {cs vs g} (h : len = n ∧ off + n ≤ m) : stD n b off len m true cs vs g = some (.undef, ⟨upd g.hp b (some (.cells (splice cs off vs) false)), g.nx⟩) := if_pos ⟨h.1, h.2, rfl⟩
def stS (n b off : Nat) (vs : List AV) (g : G) : Option Blk → Option (AV × G)
  | some (.cells cs false) => stD n b off vs.length cs.length (vs.all one) cs vs g
  | _ => none
theorem stS_ok (n b off vs g cs) : stS n b off vs g (some (.cells cs false)) = stD n b off vs.length cs.length (vs.all one) cs vs g := rfl
theorem vSt_S (n b off x) : vSt al n (.mp b off) x g = stS n b off (cellsOf x) g (selB (al b) (g.hp b)) := by
  simp only [vSt]
  rw [rd_S]
  cases selB (al b) (g.hp b) with
  | none => rfl
  | some bl =>
    cases bl with
    | cells cs ro => cases ro <;> rfl
    | map es => rfl
    | tok l => rfl
def boxD (id : Nat) (cs : List AV) (g : G) (x : Bool) : Option (AV × G) := if x then some (.mp id 0, ⟨upd g.hp id (some (.cells cs false)), g.nx⟩) else none
theorem boxD_ok (id cs g) : boxD id cs g true = some (.mp id 0, ⟨upd g.hp id (some (.cells cs false)), g.nx⟩) := rfl
theorem vBox_S (id v) : vBox id v g = boxD id (cellsOf v) g ((cellsOf v).all one) := rfl
def faD (off len : Nat) (cs : List AV) (g : G) : Option (AV × G) := if off < len then some (.ptr (cs.drop off), g) else none
theorem faD_ok {off len : Nat} {cs g} (h : off < len) : faD off len cs g = some (.ptr (cs.drop off), g) := if_pos h
theorem vFa_S (off cs) : vFa off (.ptr cs) g = faD off cs.length cs g := rfl
def fillD (e : Env) (cs : List AV) (off n len m : Nat) (ones : Bool) (vs : List AV) (ps : List (Nat × Nat × Opd)) : Option (List AV) :=
  if len = n ∧ off + n ≤ m ∧ ones = true then fill e (splice cs off vs) ps else none
theorem fillD_ok {e cs off n len m vs ps} (h : len = n ∧ off + n ≤ m) : fillD e cs off n len m true vs ps = fill e (splice cs off vs) ps := if_pos ⟨h.1, h.2, rfl⟩
theorem fill_S (e : Env) (cs : List AV) (off n x ps) : fill e cs ((off, n, x) :: ps) = fillD e cs off n (cellsOf (x.ev e)).length cs.length ((cellsOf (x.ev e)).all one) (cellsOf (x.ev e)) ps := by
  simp only [fill, fillD]
theorem fill_nil (e cs) : fill e cs [] = some cs := rfl
theorem cellsOf_agg (cs) : cellsOf (.agg cs) = cs := rfl
theorem cellsOf_i (k n) : cellsOf (.i k n) = [.i k n] := rfl
theorem cellsOf_b (x) : cellsOf (.b x) = [.b x] := rfl
theorem cellsOf_s (x) : cellsOf (.s x) = [.s x] := rfl
theorem cellsOf_ptr (x) : cellsOf (.ptr x) = [.ptr x] := rfl
theorem cellsOf_nilp : cellsOf .nilp = [.nilp] := rfl
theorem cellsOf_sl (a b c) : cellsOf (.sl a b c) = [.sl a b c] := rfl
theorem cellsOf_mp (a b) : cellsOf (.mp a b) = [.mp a b] := rfl
theorem cellsOf_fn (a b c) : cellsOf (.fn a b c) = [.fn a b c] := rfl
theorem one_i (k n) : one (.i k n) = true := rfl
theorem one_b (x) : one (.b x) = true := rfl
theorem one_s (x) : one (.s x) = true := rfl
theorem one_ptr (x) : one (.ptr x) = true := rfl
theorem one_nilp : one .nilp = true := rfl
theorem one_sl (a b c) : one (.sl a b c) = true := rfl
theorem one_mp (a b) : one (.mp a b) = true := rfl
theorem one_fn (a b c) : one (.fn a b c) = true := rfl
theorem splice_1 (cs off v) : splice cs off [v] = cs.set off v := rfl
theorem splice_2 (a b x y) : splice [a, b] 0 [x, y] = [x, y] := rfl
theorem splice_3 (a b c x y z) : splice [a, b, c] 0 [x, y, z] = [x, y, z] := rfl
theorem part_0 (c cs) : part (c :: cs) 0 none = some c := rfl
theorem part_1 (c d cs) : part (c :: d :: cs) 1 none = some d := rfl
theorem part_2 (a c d cs) : part (a :: c :: d :: cs) 2 none = some d := rfl
def andLe (lo : Nat) (al : Nat → Bool) (i : Nat) : Bool := decide (lo ≤ i) && al i
theorem o_stL {c : CS} {al : Nat → Bool} {lo id : Nat} {e : Env} {g : G} (n a x) : opE c al lo id (.stL n a x) e g = vSt (andLe lo al) n (a.ev e) (x.ev e) g := rfl
theorem andLe_ok {lo : Nat} {al : Nat → Bool} {i : Nat} (h : lo ≤ i) : andLe lo al i = al i := by simp [andLe, h]
theorem allow_hd {base k id : Nat} (l : List Nat) (h : id = base + k) : allow true base (k :: l) id = true := by subst h; simp [allow]
theorem allow_h2 {base k k' id : Nat} (l : List Nat) (h : id = base + k) : allow true base (k' :: k :: l) id = true := by subst h; simp [allow]
theorem part_3 (a b c d : AV) (l : List AV) : part (a :: b :: c :: d :: l) 3 none = some d := rfl
theorem part_4 (a b c d e : AV) (l : List AV) : part (a :: b :: c :: d :: e :: l) 4 none = some e := rfl
theorem part_5 (a b c d e f : AV) (l : List AV) : part (a :: b :: c :: d :: e :: f :: l) 5 none = some f := rfl
theorem cellsOf_ms (a b c) : cellsOf (.ms a b c) = [.ms a b c] := rfl
theorem one_ms (a b c) : one (.ms a b c) = true := rfl
theorem drop_0 (l : List AV) : l.drop 0 = l := rfl
theorem g0_nx : g0.nx = 0 := rfl
theorem g0_hp : g0.hp = fun _ => none := rfl
theorem o_bsl {c : CS} {al : Nat → Bool} {lo id : Nat} {e : Env} {g : G} (imm n z ps) : opE c al lo id (.bsl imm n z ps) e g = vBsl id imm n (fill e z ps) g := rfl
theorem vBsl_t (id n cs) (g : G) : vBsl id true n (some cs) g = vMapL (fun cs => .sl cs n .rig) g (frzL (fun _ => none) depth cs) := rfl
theorem vBsl_f (id n cs) (g : G) : vBsl id false n (some cs) g = some (.ms id 0 n, ⟨upd g.hp id (some (.cells cs false)), g.nx⟩) := rfl
theorem o_app {c : CS} {al : Nat → Bool} {lo id : Nat} {e : Env} {g : G} (esz by' x y) : opE c al lo id (.app esz by' x y) e g = vApp al id esz by' (x.ev e) (y.ev e) g := rfl
def appD (n m esz bytes lc ld : Nat) (r : Option (AV × G)) : Option (AV × G) := if (n + m) * bytes ≤ 2 ^ 46 ∧ n + m ≤ 2 ^ 62 ∧ lc = n * esz ∧ ld = m * esz then r else none
theorem appD_ok {n m esz bytes lc ld r} (h : (n + m) * bytes ≤ 2 ^ 46 ∧ n + m ≤ 2 ^ 62 ∧ lc = n * esz ∧ ld = m * esz) : appD n m esz bytes lc ld r = r := if_pos h
theorem vApp_rig {id esz bytes cs n ds m t2} (h : m ≠ 0) : vApp al id esz bytes (.sl cs n .rig) (.sl ds m t2) g = appD n m esz bytes cs.length ds.length (some (.sl (cs ++ ds) (n + m) (.own id esz), ⟨upd g.hp id (some (.tok true)), g.nx⟩)) := by
  simp only [vApp, vSrc, if_neg h]; rfl
theorem vApp_rig0 {id esz bytes cs n ds t2} : vApp al id esz bytes (.sl cs n .rig) (.sl ds 0 t2) g = appD n 0 esz bytes cs.length ds.length (some (.sl cs n .rig, g)) := by
  simp only [vApp, vSrc, if_true]; rfl
def appK (id esz tk n : Nat) (cs : List AV) (g : G) : Option Blk → Option (AV × G)
  | some (.tok true) => some (.sl cs n (.own id esz), ⟨upd (upd g.hp tk (some (.tok false))) id (some (.tok true)), g.nx⟩)
  | _ => none
theorem appK_ok (id esz tk n cs g) : appK id esz tk n cs g (some (.tok true)) = some (.sl cs n (.own id esz), ⟨upd (upd g.hp tk (some (.tok false))) id (some (.tok true)), g.nx⟩) := rfl
theorem vApp_own {id esz bytes cs n tk ds m t2} : vApp al id esz bytes (.sl cs n (.own tk esz)) (.sl ds m t2) g = appD n m esz bytes cs.length ds.length (appK id esz tk (n + m) (cs ++ ds) g (selB (al tk) (g.hp tk))) := by
  simp only [vApp, vSrc, rd_S]
  unfold appD appK
  split
  · cases selB (al tk) (g.hp tk) with
    | none => rfl
    | some b =>
      cases b with
      | tok x => cases x <;> simp
      | cells _ _ => rfl
      | map _ => rfl
  · rfl
theorem o_eqn {c : CS} {al : Nat → Bool} {lo id : Nat} {e : Env} {g : G} (neg x y) : opE c al lo id (.eqn neg x y) e g = vMap g (negb neg (aeqn (x.ev e) (y.ev e))) := rfl
theorem o_eqb {c : CS} {al : Nat → Bool} {lo id : Nat} {e : Env} {g : G} (neg x y) : opE c al lo id (.eqb neg x y) e g = vMap g (negb neg (aeqb (x.ev e) (y.ev e))) := rfl
theorem o_eqa {c : CS} {al : Nat → Bool} {lo id : Nat} {e : Env} {g : G} (neg ks x y) : opE c al lo id (.eqa neg ks x y) e g = vMap g (negb neg (aeqa ks (x.ev e) (y.ev e))) := rfl
theorem aeqn_pn (cs) : aeqn (.ptr cs) .nilp = some false := rfl
theorem aeqn_np (cs) : aeqn .nilp (.ptr cs) = some false := rfl
theorem aeqn_mn (a b) : aeqn (.mp a b) .nilp = some false := rfl
theorem aeqn_nn : aeqn .nilp .nilp = some true := rfl
theorem aeqb_bb (x y) : aeqb (.b x) (.b y) = some (x == y) := rfl
theorem negb_t (x) : negb true (some x) = some (.b (!x)) := rfl
theorem negb_f (x) : negb false (some x) = some (.b x) := rfl
theorem aun_not (x) : aun .not (.b x) = some (.b !x) := rfl
end
end Go.Ab
end
section
set_option linter.unusedVariables false
namespace Go.Ab
section
variable (F : Funs)
def W (c : ACode) (e : Env) (g : G) (Q : Out → Env → G → Prop) : Prop := ∃ o e' g', codeS F c e g = some (o, e', g') ∧ Q o e' g'
def WR (d : Bool) (b j : Nat) (ops : List AOper) (e : Env) (g : G) (K : Env → G → Prop) : Prop := ∃ e' g', regE (callS F) d b j ops e g = some (e', g') ∧ K e' g'
def thenQ (b : ACode) (Q : Out → Env → G → Prop) : Out → Env → G → Prop
  | .nrm, e, g => W F b e g Q
  | o, e, g => Q o e g
def selW (t f : ACode) (e : Env) (g : G) (Q : Out → Env → G → Prop) : AV → Prop
  | .b true => W F t e g Q
  | .b false => W F f e g Q
  | _ => False
def blkQ (id : Nat) (Q : Out → Env → G → Prop) : Out → Env → G → Prop
  | .ext n, e, g => if n = id then Q .nrm e g else Q (.ext n) e g
  | o, e, g => Q o e g
def nrmQ (Q : Out → Env → G → Prop) (e : Env) (g : G) : Prop := Q .nrm e g
def bindO (d : Bool) (b j : Nat) (dst : Option Nat) (os : List AOper) (e : Env) (K : Env → G → Prop) : Option (AV × G) → Prop
  | some (v, g) => WR F d b j os (put e dst v) g K
  | none => False
def selO (d : Bool) (b j : Nat) (dst : Option Nat) (os : List AOper) (e : Env) (op : AOp) (pre : List Nat) (g : G) (K : Env → G → Prop) (w : Bool) : Prop :=
  if w then bindO F d b (j + 1) dst os e K (opE (callS F) (allow d b pre) b (b + j) op e g) else WR F d b (j + 1) os (put e dst .undef) g K
end
section
variable {F : Funs}
theorem W_skip {e g Q} : W F .skip e g Q = Q .nrm e g := by
  unfold W; rw [codeS_skip]; apply propext
  exact ⟨fun ⟨o, e', g', h, q⟩ => by cases h; exact q, fun q => ⟨_, _, _, rfl, q⟩⟩
theorem W_ext {id e g Q} : W F (.ext id) e g Q = Q (.ext id) e g := by
  unfold W; rw [codeS_ext]; apply propext
  exact ⟨fun ⟨o, e', g', h, q⟩ => by cases h; exact q, fun q => ⟨_, _, _, rfl, q⟩⟩
theorem W_ret {e g Q} : W F .ret e g Q = Q .ret e g := by
  unfold W; rw [codeS_ret]; apply propext
  exact ⟨fun ⟨o, e', g', h, q⟩ => by cases h; exact q, fun q => ⟨_, _, _, rfl, q⟩⟩
theorem W_seq {a b e g Q} : W F (.seq a b) e g Q = W F a e g (thenQ F b Q) := by
  unfold W; rw [cS_seq]; apply propext
  constructor
  · intro ⟨o, e', g', h, q⟩
    cases hc : codeS F a e g with
    | none => rw [hc] at h; cases h
    | some r =>
      obtain ⟨o1, e1, g1⟩ := r
      rw [hc] at h
      refine ⟨o1, e1, g1, rfl, ?_⟩
      cases o1 with
      | nrm => exact ⟨o, e', g', h, q⟩
      | ext n => cases h; exact q
      | ret => cases h; exact q
  · intro ⟨o, e', g', h, q⟩
    rw [h]
    cases o with
    | nrm => exact q
    | ext n => exact ⟨_, _, _, rfl, q⟩
    | ret => exact ⟨_, _, _, rfl, q⟩
theorem thenQ_nrm {b Q e g} : thenQ F b Q .nrm e g = W F b e g Q := rfl
theorem thenQ_ext {b Q n e g} : thenQ F b Q (.ext n) e g = Q (.ext n) e g := rfl
theorem thenQ_ret {b Q e g} : thenQ F b Q .ret e g = Q .ret e g := rfl
theorem W_cond {c t f e g Q} : W F (.cond c t f) e g Q = selW F t f e g Q (c.ev e) := by
  unfold W; rw [cS_cond]; apply propext
  generalize c.ev e = v
  cases v <;> simp only [selS, selW] <;> try (constructor <;> (intro h; first | exact h.elim | (obtain ⟨_, _, _, h, _⟩ := h; cases h)))
  rename_i x
  cases x <;> simp [W]
theorem selW_true {t f e g Q} : selW F t f e g Q (.b true) = W F t e g Q := rfl
theorem selW_false {t f e g Q} : selW F t f e g Q (.b false) = W F f e g Q := rfl
theorem W_scp {c e g Q} : W F (.scp c) e g Q = W F c e g Q := by unfold W; rw [codeS_scp]
theorem W_lab {e g Q} : W F .lab e g Q = Q .nrm e g := by
  unfold W; rw [codeS_lab]; apply propext
  exact ⟨fun ⟨o, e', g', h, q⟩ => by cases h; exact q, fun q => ⟨_, _, _, rfl, q⟩⟩
theorem W_blk {id c e g Q} : W F (.blk id c) e g Q = W F c e g (blkQ id Q) := by
  unfold W; rw [cS_blk]; apply propext
  constructor
  · intro ⟨o, e', g', h, q⟩
    cases hc : codeS F c e g with
    | none => rw [hc] at h; cases h
    | some r =>
      obtain ⟨o1, e1, g1⟩ := r
      rw [hc] at h
      refine ⟨o1, e1, g1, rfl, ?_⟩
      cases o1 with
      | nrm => cases h; exact q
      | ext n =>
        cases h
        show if n = id then _ else _
        split
        · rename_i hn; rw [if_pos hn] at q; exact q
        · rename_i hn; rw [if_neg hn] at q; exact q
      | ret => cases h; exact q
  · intro ⟨o, e', g', h, q⟩
    rw [h]
    cases o with
    | nrm => exact ⟨_, _, _, rfl, q⟩
    | ext n =>
      refine ⟨_, _, _, rfl, ?_⟩
      have q : if n = id then Q .nrm e' g' else Q (.ext n) e' g' := q
      split
      · rename_i hn; rw [if_pos hn] at q; exact q
      · rename_i hn; rw [if_neg hn] at q; exact q
    | ret => exact ⟨_, _, _, rfl, q⟩
theorem blkQ_nrm {id Q e g} : blkQ id Q .nrm e g = Q .nrm e g := rfl
theorem blkQ_ret {id Q e g} : blkQ id Q .ret e g = Q .ret e g := rfl
theorem blkQ_same {id Q e g} : blkQ id Q (.ext id) e g = Q .nrm e g := if_pos rfl
theorem blkQ_ne {id n Q e g} (h : n ≠ id) : blkQ id Q (.ext n) e g = Q (.ext n) e g := if_neg h
theorem W_reg {d ops e g Q} : W F (.reg d ops) e g Q = WR F d g.nx 0 ops e ⟨g.hp, g.nx + ops.length⟩ (nrmQ Q) := by
  unfold W WR; rw [cS_reg]; apply propext
  constructor
  · intro ⟨o, e', g', h, q⟩
    cases hc : regE (callS F) d g.nx 0 ops e ⟨g.hp, g.nx + ops.length⟩ with
    | none => rw [hc] at h; cases h
    | some r =>
      rw [hc] at h
      cases h
      exact ⟨_, _, rfl, q⟩
  · intro ⟨e', g', h, q⟩
    rw [h]
    exact ⟨.nrm, e', g', rfl, q⟩
theorem nrmQ_is {Q e g} : nrmQ Q e g = Q .nrm e g := rfl
theorem WR_nil {d b j e g K} : WR F d b j [] e g K = K e g := by
  unfold WR; apply propext
  simp only [regE_nil]
  exact ⟨fun ⟨e', g', h, q⟩ => by cases h; exact q, fun q => ⟨_, _, rfl, q⟩⟩
theorem WR_cons {d b j dst op grd pre os e g K} : WR F d b j ({ dst, op, grd, pre } :: os) e g K = selO F d b j dst os e op pre g K (wanted e grd) := by
  unfold WR; rw [regE_cons]
  generalize wanted e grd = w
  cases w
  · rfl
  · rw [selR_true]
    show _ = bindO _ _ _ _ _ _ _ _ _
    cases opE (callS F) (allow d b pre) b (b + j) op e g with
    | none =>
      apply propext
      constructor
      · intro ⟨_, _, h, _⟩; cases h
      · intro h; exact False.elim h
    | some r => rfl
theorem selO_true {d b j dst os e op pre g K} : selO F d b j dst os e op pre g K true = bindO F d b (j + 1) dst os e K (opE (callS F) (allow d b pre) b (b + j) op e g) := rfl
theorem selO_false {d b j dst os e op pre g K} : selO F d b j dst os e op pre g K false = WR F d b (j + 1) os (put e dst .undef) g K := rfl
theorem bindO_some {d b j dst os e K v g} : bindO F d b j dst os e K (some (v, g)) = WR F d b j os (put e dst v) g K := rfl
theorem W_mono {c e g} {Q Q' : Out → Env → G → Prop} (h : W F c e g Q) (hq : ∀ o e g, Q o e g → Q' o e g) : W F c e g Q' := by
  obtain ⟨o, e', g', h1, h2⟩ := h; exact ⟨o, e', g', h1, hq _ _ _ h2⟩
def loopQ (I : Nat → Env → G → Prop) (m : Nat) (Q : Out → Env → G → Prop) : Out → Env → G → Prop
  | .nrm, e, g => ∃ m', m' < m ∧ I m' e g
  | o, e, g => Q o e g
theorem loopQ_nrm {I m Q e g} : loopQ I m Q .nrm e g = ∃ m', m' < m ∧ I m' e g := rfl
theorem loopQ_ext {I m Q n e g} : loopQ I m Q (.ext n) e g = Q (.ext n) e g := rfl
theorem loopQ_ret {I m Q e g} : loopQ I m Q .ret e g = Q .ret e g := rfl
theorem W_loop {c e g Q} (I : Nat → Env → G → Prop) (n : Nat) (h0 : I n e g) (h : ∀ m e g, I m e g → W F c e g (loopQ I m Q)) : W F (.loop c) e g Q := by
  have key : ∀ m e g, I m e g → W F (.loop c) e g Q := by
    intro m
    induction m using Nat.strongRecOn with
    | _ m ih =>
      intro e g hI
      obtain ⟨o, e1, g1, h1, h2⟩ := h m e g hI
      unfold W
      rw [cS_loop, h1]
      cases o with
      | nrm =>
        obtain ⟨m', hm, hI'⟩ := h2
        exact ih m' hm e1 g1 hI'
      | ext n => exact ⟨_, _, _, rfl, h2⟩
      | ret => exact ⟨_, _, _, rfl, h2⟩
  exact key n e g h0
noncomputable def pureS (F : Funs) (f : Nat) (asx : List AV) : Option AV := match callS F f asx g0 with
  | some (v, g) => frz g.hp depth v
  | none => none
noncomputable def vPure (F : Funs) (al : Nat → Bool) (f : AV) (args : List AV) (g : G) : Option (AV × G) := vCall (callS F) al 0 .pure f args g
theorem o_pure {al lo id e g} (f : Opd) (asx : List Opd) : opE (callS F) al lo id (.call .pure f asx) e g = vPure F al (f.ev e) (asx.map (·.ev e)) g := rfl
theorem vPure_ok {al : Nat → Bool} {fid : Nat} {fst caps args bs : List AV} {g : G} {v : AV} (h1 : frzL (rd g al) depth (fst ++ args ++ caps) = some bs) (h2 : pureS F fid bs = some v) (h3 : (flat v || ((fst ++ args ++ caps).flatMap (vis (rd g al) depth)).isEmpty) = true) :
    vPure F al (.fn fid fst caps) args g = some (v, g) := by
  unfold pureS at h2
  split at h2
  · rename_i v0 g' hc
    have hc' : callS F fid bs ⟨fun _ => none, 0⟩ = some (v0, g') := hc
    unfold vPure vCall
    simp only [h1, hc', h2, h3, if_true]
  · cases h2
def retQ (rs : List ARes) (v : AV) : Out → Env → G → Prop
  | .ext _, _, _ => False
  | _, e, g => (match resE rs e g with | some v0 => frz g.hp depth v0 | none => none) = some v
theorem retQ_nrm {rs v e g} : retQ rs v .nrm e g = ((match resE rs e g with | some v0 => frz g.hp depth v0 | none => none) = some v) := rfl
theorem retQ_ret {rs v e g} : retQ rs v .ret e g = ((match resE rs e g with | some v0 => frz g.hp depth v0 | none => none) = some v) := rfl
theorem pure_of {f : Nat} {fn : AFun} {asx : List AV} {v : AV} (hF : F f = some fn) (h : W F fn.body (argEnv asx) g0 (retQ fn.res v)) : pureS F f asx = some v := by
  obtain ⟨o, e, g, h1, h2⟩ := h
  unfold pureS
  rw [callS_eq, hF]
  simp only [h1]
  cases o with
  | ext n => exact h2.elim
  | nrm =>
    have h2 : (match resE fn.res e g with | some v0 => frz g.hp depth v0 | none => none) = some v := h2
    cases hr : resE fn.res e g with
    | none => rw [hr] at h2; cases h2
    | some v0 => rw [hr] at h2; simp only [hr, Option.map_some]; exact h2
  | ret =>
    have h2 : (match resE fn.res e g with | some v0 => frz g.hp depth v0 | none => none) = some v := h2
    cases hr : resE fn.res e g with
    | none => rw [hr] at h2; cases h2
    | some v0 => rw [hr] at h2; simp only [hr, Option.map_some]; exact h2
end
theorem argEnv_0 (a l) : argEnv (a :: l) 0 = a := rfl
theorem argEnv_1 (a b l) : argEnv (a :: b :: l) 1 = b := rfl
theorem argEnv_2 (a b c l) : argEnv (a :: b :: c :: l) 2 = c := rfl
theorem argEnv_3 (a b c d l) : argEnv (a :: b :: c :: d :: l) 3 = d := rfl
theorem argEnv_4 (a b c d e l) : argEnv (a :: b :: c :: d :: e :: l) 4 = e := rfl
theorem argEnv_5 (a b c d e f l) : argEnv (a :: b :: c :: d :: e :: f :: l) 5 = f := rfl
theorem res_1 (n e g) : resE [.t n] e g = some (e n) := rfl
theorem res_2 (n m e g) : resE [.t n, .t m] e g = some (.tup [e n, e m]) := rfl
theorem frz_flat {hp} {d : Nat} {v : AV} (h : flat v = true) : frz hp (d + 1) v = some v := by cases v <;> first | (cases h; done) | simp only [frz]
theorem frzL_flat {hp} {d : Nat} : ∀ {cs : List AV}, cs.all flat = true → frzL hp (d + 1) cs = some cs
  | [], _ => by simp only [frzL]
  | c :: cs, h => by
    simp only [List.all_cons, Bool.and_eq_true] at h
    simp only [frzL, frz_flat h.1, frzL_flat h.2]
theorem frzL_nil (hp d) : frzL hp d [] = some [] := by simp only [frzL]
def consO (c : Option AV) (cs : Option (List AV)) : Option (List AV) := match c, cs with
  | some c, some cs => some (c :: cs)
  | _, _ => none
theorem consO_ok (c cs) : consO (some c) (some cs) = some (c :: cs) := rfl
theorem frzL_cons (hp d c cs) : frzL hp d (c :: cs) = consO (frz hp d c) (frzL hp d cs) := by
  simp only [frzL]
  cases frz hp d c <;> cases frzL hp d cs <;> rfl
theorem frz_d_i (hp k n) : frz hp depth (.i k n) = some (.i k n) := by show frz hp (8 + 1) _ = _; simp only [frz]
theorem frz_d_b (hp x) : frz hp depth (.b x) = some (.b x) := by show frz hp (8 + 1) _ = _; simp only [frz]
theorem frz_d_s (hp x) : frz hp depth (.s x) = some (.s x) := by show frz hp (8 + 1) _ = _; simp only [frz]
theorem frz_d_nilp (hp) : frz hp depth .nilp = some .nilp := by show frz hp (8 + 1) _ = _; simp only [frz]
theorem frz_d_ptr (hp cs) : frz hp depth (.ptr cs) = some (.ptr cs) := by show frz hp (8 + 1) _ = _; simp only [frz]
theorem frz_d_sl (hp cs n t) : frz hp depth (.sl cs n t) = some (.sl cs n .non) := by show frz hp (8 + 1) _ = _; simp only [frz]
theorem frz_d_mp {hp : Nat → Option Blk} {id off cs ro ds} (h : hp id = some (.cells cs ro)) (hf : frzL hp 8 (cs.drop off) = some ds) : frz hp depth (.mp id off) = some (.ptr ds) := by
  show frz hp (8 + 1) _ = _
  simp only [frz, h, hf, Option.map_some]
theorem frz_d_fn0 (hp f) : frz hp depth (.fn f [] []) = some (.fn f [] []) := by show frz hp (8 + 1) _ = _; simp only [frz, frzL]
noncomputable def frzB (hp : Nat → Option Blk) (off : Nat) (cs : List AV) (x : Bool) : Option (List AV) := if x then some (cs.drop off) else frzL hp 8 (cs.drop off)
noncomputable def frzP (hp : Nat → Option Blk) (off : Nat) (f : List AV → AV) : Option Blk → Option AV
  | some (.cells cs _) => (frzB hp off cs (cs.all flat)).map f
  | _ => none
theorem frzB_eq (hp : Nat → Option Blk) (off : Nat) (cs : List AV) : frzB hp off cs (cs.all flat) = frzL hp 8 (cs.drop off) := by
  unfold frzB
  split
  · rename_i hf
    refine (frzL_flat ?_).symm
    rw [List.all_eq_true] at hf ⊢
    exact fun x hx => hf x (List.mem_of_mem_drop hx)
  · rfl
theorem frz_P (hp : Nat → Option Blk) (id off : Nat) : frz hp depth (.mp id off) = frzP hp off .ptr (hp id) := by
  show frz hp (8 + 1) _ = _
  simp only [frz]
  unfold frzP
  simp only [frzB_eq]
  cases hp id with
  | none => rfl
  | some b => cases b <;> rfl
theorem frz_Q (hp : Nat → Option Blk) (id off n : Nat) : frz hp depth (.ms id off n) = frzP hp off (fun cs => .sl cs n .non) (hp id) := by
  show frz hp (8 + 1) _ = _
  simp only [frz]
  unfold frzP
  simp only [frzB_eq]
  cases hp id with
  | none => rfl
  | some b => cases b <;> rfl
theorem frzP_cells (hp off f cs ro) : frzP hp off f (some (.cells cs ro)) = (frzB hp off cs (cs.all flat)).map f := rfl
theorem frzB_true (hp off cs) : frzB hp off cs true = some (cs.drop off) := rfl
theorem map_some' (f : List AV → AV) (cs : List AV) : (some cs).map f = some (f cs) := rfl
noncomputable def purD (g : G) (vs : List Nat) : Option AV → Option (AV × G)
  | some v => if flat v || vs.isEmpty then some (v, g) else none
  | none => none
def purE (g : G) (v : AV) (x : Bool) : Option (AV × G) := if x then some (v, g) else none
theorem purD_some (g vs v) : purD g vs (some v) = purE g v (flat v || vs.isEmpty) := rfl
theorem purE_true (g v) : purE g v true = some (v, g) := rfl
noncomputable def purS (F : Funs) (f : Nat) (g : G) (vs : List Nat) : Option (List AV) → Option (AV × G)
  | some bs => purD g vs (pureS F f bs)
  | none => none
theorem purS_some (F f g vs bs) : purS F f g vs (some bs) = purD g vs (pureS F f bs) := rfl
theorem vPure_S (F : Funs) (al : Nat → Bool) (fid : Nat) (fst args caps : List AV) (g : G) :
    vPure F al (.fn fid fst caps) args g = purS F fid g ((fst ++ args ++ caps).flatMap (vis (rd g al) depth)) (frzL (rd g al) depth (fst ++ args ++ caps)) := by
  unfold vPure vCall
  simp only
  cases frzL (rd g al) depth (fst ++ args ++ caps) with
  | none => rfl
  | some bs =>
    rw [purS_some]
    unfold pureS g0
    simp only
    cases callS F fid bs ⟨fun _ => none, 0⟩ with
    | none => rfl
    | some r =>
      obtain ⟨v, g'⟩ := r
      simp only
      cases frz g'.hp depth v with
      | none => rfl
      | some v' => rfl
theorem flat_i (k n) : flat (.i k n) = true := rfl
theorem flat_b (x) : flat (.b x) = true := rfl
theorem flat_s (x) : flat (.s x) = true := rfl
theorem flat_nilp : flat .nilp = true := rfl
theorem flat_ptr (x) : flat (.ptr x) = false := rfl
theorem flat_sl (a b c) : flat (.sl a b c) = false := rfl
theorem flat_agg (a) : flat (.agg a) = false := rfl
theorem flat_tup (a) : flat (.tup a) = false := rfl
theorem vis_i (hp k n) : vis hp depth (.i k n) = [] := by show vis hp (8 + 1) _ = _; simp only [vis]
theorem vis_b (hp x) : vis hp depth (.b x) = [] := by show vis hp (8 + 1) _ = _; simp only [vis]
theorem vis_s (hp x) : vis hp depth (.s x) = [] := by show vis hp (8 + 1) _ = _; simp only [vis]
theorem vis_nilp (hp) : vis hp depth .nilp = [] := by show vis hp (8 + 1) _ = _; simp only [vis]
theorem vis_ptr (hp x) : vis hp depth (.ptr x) = [] := by show vis hp (8 + 1) _ = _; simp only [vis]
theorem vis_sl (hp a b c) : vis hp depth (.sl a b c) = [] := by show vis hp (8 + 1) _ = _; simp only [vis]
theorem vis_fn0 (hp f) : vis hp depth (.fn f [] []) = [] := by show vis hp (8 + 1) _ = _; simp only [vis, List.flatMap_nil, List.append_nil]
theorem isEmpty_nil : ([] : List Nat).isEmpty = true := rfl
def midQ (M : Env → G → Prop) : Out → Env → G → Prop
  | .nrm, e, g => M e g
  | _, _, _ => False
theorem midQ_nrm {M e g} : midQ M .nrm e g = M e g := rfl
theorem midQ_then {F : Funs} {rest Q} {M : Env → G → Prop} (h2 : ∀ e g, M e g → W F rest e g Q) (o e g) (h : midQ M o e g) : thenQ F rest Q o e g := by
  cases o with
  | nrm => exact h2 e g h
  | ext n => exact h.elim
  | ret => exact h.elim
theorem W_cut {F : Funs} {c rest e g Q} (M : Env → G → Prop) (h1 : W F c e g (midQ M)) (h2 : ∀ e g, M e g → W F rest e g Q) : W F c e g (thenQ F rest Q) := W_mono h1 (midQ_then h2)
theorem frz_b_inv {hp : Nat → Option Blk} {k : Nat} {v : AV} {b : Bool} (h : frz hp (k + 1) v = some (.b b)) : v = .b b := by
  cases v with
  | b x => simp only [frz] at h; cases h; rfl
  | agg cs => simp only [frz] at h; cases hf : frzL hp k cs <;> rw [hf] at h <;> cases h
  | tup cs => simp only [frz] at h; cases hf : frzL hp k cs <;> rw [hf] at h <;> cases h
  | mp id off =>
    simp only [frz] at h
    split at h
    · cases hf : frzL hp k (List.drop off _) <;> rw [hf] at h <;> cases h
    · cases h
  | ms id off n =>
    simp only [frz] at h
    split at h
    · cases hf : frzL hp k (List.drop off _) <;> rw [hf] at h <;> cases h
    · cases h
  | fn f asx bs => simp only [frz] at h; split at h <;> cases h
  | ifc t w => simp only [frz] at h; cases hf : frz hp k w <;> rw [hf] at h <;> cases h
  | _ => simp only [frz] at h; cases h
theorem pureS_bool {F : Funs} {f : Nat} {asx : List AV} {b : Bool} (h : pureS F f asx = some (.b b)) : ∃ k g', callE F k f asx g0 = some (.b b, g') := by
  unfold pureS at h
  split at h
  · rename_i v g hc
    have := frz_b_inv (k := 8) h
    subst this
    obtain ⟨k, hk⟩ := (callS_some F).1 hc
    exact ⟨k, g, hk⟩
  · cases h
def retB (rs : List ARes) (P : Bool → Prop) : Out → Env → G → Prop
  | .ext _, _, _ => False
  | _, e, g => ∃ b, resE rs e g = some (.b b) ∧ P b
theorem retB_nrm {rs P e g} : retB rs P .nrm e g = (∃ b, resE rs e g = some (.b b) ∧ P b) := rfl
theorem retB_ret {rs P e g} : retB rs P .ret e g = (∃ b, resE rs e g = some (.b b) ∧ P b) := rfl
theorem pureB_of {F : Funs} {f : Nat} {fn : AFun} {asx : List AV} {P : Bool → Prop} (hF : F f = some fn) (h : W F fn.body (argEnv asx) g0 (retB fn.res P)) : ∃ b, pureS F f asx = some (.b b) ∧ P b := by
  obtain ⟨o, e, g, h1, h2⟩ := h
  have key : ∀ (b : Bool), resE fn.res e g = some (.b b) → pureS F f asx = some (.b b) ∨ ∃ n, o = .ext n := by
    intro b hb
    cases o with
    | ext n => exact .inr ⟨n, rfl⟩
    | nrm =>
      left
      unfold pureS
      rw [callS_eq, hF]
      simp only [h1, hb, Option.map_some, frz_d_b]
    | ret =>
      left
      unfold pureS
      rw [callS_eq, hF]
      simp only [h1, hb, Option.map_some, frz_d_b]
  cases o with
  | ext n => exact h2.elim
  | nrm =>
    obtain ⟨b, hb, hP⟩ := h2
    rcases key b hb with h | ⟨n, h⟩
    · exact ⟨b, h, hP⟩
    · cases h
  | ret =>
    obtain ⟨b, hb, hP⟩ := h2
    rcases key b hb with h | ⟨n, h⟩
    · exact ⟨b, h, hP⟩
    · cases h
theorem blk_cut {F : Funs} {c rest : ACode} {id : Nat} {e : Env} {g : G} {Q : Out → Env → G → Prop} (M : Env → G → Prop) (h1 : W F c e g (blkQ id (midQ M))) (h2 : ∀ e g, M e g → W F rest e g Q) : W F c e g (blkQ id (thenQ F rest Q)) := by
  refine W_mono h1 fun o e g h => ?_
  cases o with
  | nrm => exact h2 e g h
  | ret => exact h.elim
  | ext n =>
    have h : if n = id then midQ M .nrm e g else midQ M (.ext n) e g := h
    show if n = id then thenQ F rest Q .nrm e g else thenQ F rest Q (.ext n) e g
    by_cases hn : n = id
    · rw [if_pos hn] at h ⊢; exact h2 e g h
    · rw [if_neg hn] at h; exact h.elim
def midR (Q : Out → Env → G → Prop) (M : Env → G → Prop) : Out → Env → G → Prop
  | .nrm, e, g => M e g
  | .ret, e, g => Q .ret e g
  | .ext _, _, _ => False
theorem midR_nrm {Q M e g} : midR Q M .nrm e g = M e g := rfl
theorem midR_ret {Q M e g} : midR Q M .ret e g = Q .ret e g := rfl
theorem blk_cutR {F : Funs} {c rest : ACode} {id : Nat} {e : Env} {g : G} {Q : Out → Env → G → Prop} (M : Env → G → Prop) (h1 : W F c e g (blkQ id (midR Q M))) (h2 : ∀ e g, M e g → W F rest e g Q) : W F c e g (blkQ id (thenQ F rest Q)) := by
  refine W_mono h1 fun o e g h => ?_
  cases o with
  | nrm => exact h2 e g h
  | ret => exact h
  | ext n =>
    have h : if n = id then midR Q M .nrm e g else midR Q M (.ext n) e g := h
    show if n = id then thenQ F rest Q .nrm e g else thenQ F rest Q (.ext n) e g
    by_cases hn : n = id
    · rw [if_pos hn] at h ⊢; exact h2 e g h
    · rw [if_neg hn] at h; exact h.elim
set_option maxRecDepth 10000 in
theorem wp : type_of% (And.intro (And.intro (And.intro (And.intro (And.intro (And.intro (And.intro @W_skip (And.intro @W_ext @W_ret)) (And.intro (And.intro @W_seq @thenQ_nrm) (And.intro @thenQ_ext @thenQ_ret))) (And.intro (And.intro (And.intro @W_cond @selW_true) (And.intro @selW_false @W_blk)) (And.intro (And.intro @blkQ_nrm @blkQ_ret) (And.intro @blkQ_same @blkQ_ne)))) (And.intro (And.intro (And.intro @W_reg (And.intro @nrmQ_is @WR_nil)) (And.intro (And.intro @WR_cons @selO_true) (And.intro @selO_false @bindO_some))) (And.intro (And.intro (And.intro @loopQ_nrm @loopQ_ext) (And.intro @loopQ_ret @wanted_none)) (And.intro (And.intro @wanted_some @wantV_1) (And.intro @wantV_0 @wantV_undef))))) (And.intro (And.intro (And.intro (And.intro @ev_t (And.intro @ev_c @put_some)) (And.intro (And.intro @put_none @upd_same) (And.intro @upd_ne @List.length_cons.{0}))) (And.intro (And.intro (And.intro @List.length_nil.{0} @List.map_cons.{0, 0}) (And.intro @List.map_nil.{0, 0} @allow_no)) (And.intro (And.intro @allow_lt @argEnv_0) (And.intro @argEnv_1 @argEnv_2)))) (And.intro (And.intro (And.intro (And.intro @argEnv_3 @argEnv_4) (And.intro @argEnv_5 @res_1)) (And.intro (And.intro @res_2 @retQ_nrm) (And.intro @retQ_ret @o_mv))) (And.intro (And.intro (And.intro @o_pick @vPick_t) (And.intro @vPick_f @o_new)) (And.intro (And.intro @o_box @vBox_S) (And.intro @boxD_ok @vMap_some)))))) (And.intro (And.intro (And.intro (And.intro (And.intro @vMapL_some (And.intro @o_build @o_ld)) (And.intro (And.intro @vLd_ptr @vLd_S) (And.intro @ldS_ok @selB_true))) (And.intro (And.intro (And.intro @o_st @vSt_S) (And.intro @stS_ok @stD_ok)) (And.intro (And.intro @o_nilck @vNil_ptr) (And.intro @vNil_mp @vNil_fn)))) (And.intro (And.intro (And.intro (And.intro @o_bin @o_un) (And.intro @o_mkfn @o_fa)) (And.intro (And.intro @vFa_mp @vFa_S) (And.intro @faD_ok @o_fld))) (And.intro (And.intro (And.intro @vFld_agg @o_ia) (And.intro @vIa_sl @vIa_ms)) (And.intro (And.intro @o_iaa @vIaa_ptr) (And.intro @vIaa_mp @o_len))))) (And.intro (And.intro (And.intro (And.intro @vLen_sl (And.intro @vLen_ms @o_mx)) (And.intro (And.intro @o_mn @vMx_i) (And.intro @vMn_i @o_ext))) (And.intro (And.intro (And.intro @vExt_tup @b_add) (And.intro @b_sub @b_mul)) (And.intro (And.intro @b_lss @b_leq) (And.intro @b_gtr @b_geq)))) (And.intro (And.intro (And.intro (And.intro @b_eql @b_neq) (And.intro @o_pure @List.nil_append.{0})) (And.intro (And.intro @List.append_nil.{0} @List.cons_append.{0}) (And.intro @frz_d_i @frz_d_b))) (And.intro (And.intro (And.intro @frz_d_s @frz_d_nilp) (And.intro @frz_d_ptr @frz_d_sl)) (And.intro (And.intro @frz_d_fn0 @Bool.not_true) (And.intro @Bool.not_false @Bool.true_and))))))) (And.intro (And.intro (And.intro (And.intro (And.intro (And.intro @Bool.and_true (And.intro @Bool.false_and @Bool.and_false)) (And.intro (And.intro @decide_true @decide_false) (And.intro @beq_self_eq_true.{0} @Bool.true_eq_false))) (And.intro (And.intro (And.intro @Bool.false_eq_true @Nat.zero_add) (And.intro @Nat.add_zero @Int.toNat_natCast)) (And.intro (And.intro @ge_iff_le.{0} @gt_iff_lt.{0}) (And.intro @fill_S @fillD_ok)))) (And.intro (And.intro (And.intro (And.intro @fill_nil @cellsOf_agg) (And.intro @cellsOf_i @cellsOf_b)) (And.intro (And.intro @cellsOf_s @cellsOf_ptr) (And.intro @cellsOf_nilp @cellsOf_sl))) (And.intro (And.intro (And.intro @cellsOf_mp @cellsOf_fn) (And.intro @one_i @one_b)) (And.intro (And.intro @one_s @one_ptr) (And.intro @one_nilp @one_sl))))) (And.intro (And.intro (And.intro (And.intro @one_mp (And.intro @one_fn @List.all_cons.{0})) (And.intro (And.intro @List.all_nil.{0} @splice_1) (And.intro @splice_2 @splice_3))) (And.intro (And.intro (And.intro @part_0 @part_1) (And.intro @part_2 @drop_0)) (And.intro (And.intro @g0_nx @g0_hp) (And.intro @List.set_cons_zero.{0} @List.set_cons_succ.{0})))) (And.intro (And.intro (And.intro (And.intro @List.length_append.{0} @List.length_replicate.{0}) (And.intro @eq_self.{1} @true_and)) (And.intro (And.intro @and_true @vPure_S) (And.intro @purS_some @purD_some))) (And.intro (And.intro (And.intro @purE_true @frzL_cons) (And.intro @frzL_nil @consO_ok)) (And.intro (And.intro @flat_i @flat_b) (And.intro @flat_s @flat_nilp)))))) (And.intro (And.intro (And.intro (And.intro (And.intro @flat_ptr (And.intro @flat_sl @flat_agg)) (And.intro (And.intro @flat_tup @vis_i) (And.intro @vis_b @vis_s))) (And.intro (And.intro (And.intro @vis_nilp @vis_ptr) (And.intro @vis_sl @vis_fn0)) (And.intro (And.intro @List.flatMap_cons.{0, 0} @List.flatMap_nil.{0, 0}) (And.intro @isEmpty_nil @Bool.true_or)))) (And.intro (And.intro (And.intro (And.intro @Bool.false_or @Bool.or_true) (And.intro @Bool.or_false @frz_P)) (And.intro (And.intro @frz_Q @frzP_cells) (And.intro @frzB_true @map_some'))) (And.intro (And.intro (And.intro @rd_S @o_bsl) (And.intro @vBsl_t @vBsl_f)) (And.intro (And.intro @o_app @appD_ok) (And.intro @vApp_rig @vApp_rig0))))) (And.intro (And.intro (And.intro (And.intro @appK_ok (And.intro @vApp_own @o_eqn)) (And.intro (And.intro @o_eqb @o_eqa) (And.intro @aeqn_pn @aeqn_np))) (And.intro (And.intro (And.intro @aeqn_mn @aeqn_nn) (And.intro @aeqb_bb @negb_t)) (And.intro (And.intro @negb_f @aun_not) (And.intro @midQ_nrm @part_3)))) (And.intro (And.intro (And.intro (And.intro @part_4 @part_5) (And.intro @cellsOf_ms @one_ms)) (And.intro (And.intro @Int.toNat_zero @Nat.zero_mul) (And.intro @o_stL @andLe_ok))) (And.intro (And.intro (And.intro @allow_hd @allow_h2) (And.intro @retB_nrm @retB_ret)) (And.intro (And.intro @midR_nrm @midR_ret) (And.intro @W_scp @W_lab)))))))) := (And.intro (And.intro (And.intro (And.intro (And.intro (And.intro (And.intro @W_skip (And.intro @W_ext @W_ret)) (And.intro (And.intro @W_seq @thenQ_nrm) (And.intro @thenQ_ext @thenQ_ret))) (And.intro (And.intro (And.intro @W_cond @selW_true) (And.intro @selW_false @W_blk)) (And.intro (And.intro @blkQ_nrm @blkQ_ret) (And.intro @blkQ_same @blkQ_ne)))) (And.intro (And.intro (And.intro @W_reg (And.intro @nrmQ_is @WR_nil)) (And.intro (And.intro @WR_cons @selO_true) (And.intro @selO_false @bindO_some))) (And.intro (And.intro (And.intro @loopQ_nrm @loopQ_ext) (And.intro @loopQ_ret @wanted_none)) (And.intro (And.intro @wanted_some @wantV_1) (And.intro @wantV_0 @wantV_undef))))) (And.intro (And.intro (And.intro (And.intro @ev_t (And.intro @ev_c @put_some)) (And.intro (And.intro @put_none @upd_same) (And.intro @upd_ne @List.length_cons.{0}))) (And.intro (And.intro (And.intro @List.length_nil.{0} @List.map_cons.{0, 0}) (And.intro @List.map_nil.{0, 0} @allow_no)) (And.intro (And.intro @allow_lt @argEnv_0) (And.intro @argEnv_1 @argEnv_2)))) (And.intro (And.intro (And.intro (And.intro @argEnv_3 @argEnv_4) (And.intro @argEnv_5 @res_1)) (And.intro (And.intro @res_2 @retQ_nrm) (And.intro @retQ_ret @o_mv))) (And.intro (And.intro (And.intro @o_pick @vPick_t) (And.intro @vPick_f @o_new)) (And.intro (And.intro @o_box @vBox_S) (And.intro @boxD_ok @vMap_some)))))) (And.intro (And.intro (And.intro (And.intro (And.intro @vMapL_some (And.intro @o_build @o_ld)) (And.intro (And.intro @vLd_ptr @vLd_S) (And.intro @ldS_ok @selB_true))) (And.intro (And.intro (And.intro @o_st @vSt_S) (And.intro @stS_ok @stD_ok)) (And.intro (And.intro @o_nilck @vNil_ptr) (And.intro @vNil_mp @vNil_fn)))) (And.intro (And.intro (And.intro (And.intro @o_bin @o_un) (And.intro @o_mkfn @o_fa)) (And.intro (And.intro @vFa_mp @vFa_S) (And.intro @faD_ok @o_fld))) (And.intro (And.intro (And.intro @vFld_agg @o_ia) (And.intro @vIa_sl @vIa_ms)) (And.intro (And.intro @o_iaa @vIaa_ptr) (And.intro @vIaa_mp @o_len))))) (And.intro (And.intro (And.intro (And.intro @vLen_sl (And.intro @vLen_ms @o_mx)) (And.intro (And.intro @o_mn @vMx_i) (And.intro @vMn_i @o_ext))) (And.intro (And.intro (And.intro @vExt_tup @b_add) (And.intro @b_sub @b_mul)) (And.intro (And.intro @b_lss @b_leq) (And.intro @b_gtr @b_geq)))) (And.intro (And.intro (And.intro (And.intro @b_eql @b_neq) (And.intro @o_pure @List.nil_append.{0})) (And.intro (And.intro @List.append_nil.{0} @List.cons_append.{0}) (And.intro @frz_d_i @frz_d_b))) (And.intro (And.intro (And.intro @frz_d_s @frz_d_nilp) (And.intro @frz_d_ptr @frz_d_sl)) (And.intro (And.intro @frz_d_fn0 @Bool.not_true) (And.intro @Bool.not_false @Bool.true_and))))))) (And.intro (And.intro (And.intro (And.intro (And.intro (And.intro @Bool.and_true (And.intro @Bool.false_and @Bool.and_false)) (And.intro (And.intro @decide_true @decide_false) (And.intro @beq_self_eq_true.{0} @Bool.true_eq_false))) (And.intro (And.intro (And.intro @Bool.false_eq_true @Nat.zero_add) (And.intro @Nat.add_zero @Int.toNat_natCast)) (And.intro (And.intro @ge_iff_le.{0} @gt_iff_lt.{0}) (And.intro @fill_S @fillD_ok)))) (And.intro (And.intro (And.intro (And.intro @fill_nil @cellsOf_agg) (And.intro @cellsOf_i @cellsOf_b)) (And.intro (And.intro @cellsOf_s @cellsOf_ptr) (And.intro @cellsOf_nilp @cellsOf_sl))) (And.intro (And.intro (And.intro @cellsOf_mp @cellsOf_fn) (And.intro @one_i @one_b)) (And.intro (And.intro @one_s @one_ptr) (And.intro @one_nilp @one_sl))))) (And.intro (And.intro (And.intro (And.intro @one_mp (And.intro @one_fn @List.all_cons.{0})) (And.intro (And.intro @List.all_nil.{0} @splice_1) (And.intro @splice_2 @splice_3))) (And.intro (And.intro (And.intro @part_0 @part_1) (And.intro @part_2 @drop_0)) (And.intro (And.intro @g0_nx @g0_hp) (And.intro @List.set_cons_zero.{0} @List.set_cons_succ.{0})))) (And.intro (And.intro (And.intro (And.intro @List.length_append.{0} @List.length_replicate.{0}) (And.intro @eq_self.{1} @true_and)) (And.intro (And.intro @and_true @vPure_S) (And.intro @purS_some @purD_some))) (And.intro (And.intro (And.intro @purE_true @frzL_cons) (And.intro @frzL_nil @consO_ok)) (And.intro (And.intro @flat_i @flat_b) (And.intro @flat_s @flat_nilp)))))) (And.intro (And.intro (And.intro (And.intro (And.intro @flat_ptr (And.intro @flat_sl @flat_agg)) (And.intro (And.intro @flat_tup @vis_i) (And.intro @vis_b @vis_s))) (And.intro (And.intro (And.intro @vis_nilp @vis_ptr) (And.intro @vis_sl @vis_fn0)) (And.intro (And.intro @List.flatMap_cons.{0, 0} @List.flatMap_nil.{0, 0}) (And.intro @isEmpty_nil @Bool.true_or)))) (And.intro (And.intro (And.intro (And.intro @Bool.false_or @Bool.or_true) (And.intro @Bool.or_false @frz_P)) (And.intro (And.intro @frz_Q @frzP_cells) (And.intro @frzB_true @map_some'))) (And.intro (And.intro (And.intro @rd_S @o_bsl) (And.intro @vBsl_t @vBsl_f)) (And.intro (And.intro @o_app @appD_ok) (And.intro @vApp_rig @vApp_rig0))))) (And.intro (And.intro (And.intro (And.intro @appK_ok (And.intro @vApp_own @o_eqn)) (And.intro (And.intro @o_eqb @o_eqa) (And.intro @aeqn_pn @aeqn_np))) (And.intro (And.intro (And.intro @aeqn_mn @aeqn_nn) (And.intro @aeqb_bb @negb_t)) (And.intro (And.intro @negb_f @aun_not) (And.intro @midQ_nrm @part_3)))) (And.intro (And.intro (And.intro (And.intro @part_4 @part_5) (And.intro @cellsOf_ms @one_ms)) (And.intro (And.intro @Int.toNat_zero @Nat.zero_mul) (And.intro @o_stL @andLe_ok))) (And.intro (And.intro (And.intro @allow_hd @allow_h2) (And.intro @retB_nrm @retB_ret)) (And.intro (And.intro @midR_nrm @midR_ret) (And.intro @W_scp @W_lab))))))))
end Go.Ab
end
section
set_option linter.unusedVariables false
set_option linter.unusedSimpArgs false
namespace Go.Ab
open Go.RowKit
def c0 (num : Nat → Nat) (w : World) : Cx := ⟨num, w.heap.size, fun _ => True, w, fun _ => (0, 0), fun _ => none⟩
theorem row_calls {P : Program} {num : Nat → Nat} {F : Funs} (hT : Table P num F) (hm : P.follows .mixedOrders = true) {f : Nat} {asx : List AV} {b : Bool} (h : pureS F f asx = some (.b b)) {w : World} {vargs : List Value} (hr : Reps (c0 num w) true asx vargs) :
    Calls P (num f) vargs.toArray w (fun e w' => e = .returned (.bool b) ∧ Below w.heap.size w w') := by
  obtain ⟨k, g', hk⟩ := pureS_bool h
  have K : Ok (c0 num w) 0 := {
    basele := Nat.le_refl _
    cells := fun _ _ _ h => by cases h
    maps := fun _ _ h => by cases h
    toks := fun _ h => by cases h
    inj := fun _ _ _ h => by obtain ⟨_, h, _⟩ := h; cases h
    fresh := fun _ _ => rfl }
  have := ((callE_ok hT hm k).2 f asx g0 _ _ hk).2 (c0 num w) vargs rfl rfl K hr
  refine Calls.mono this.1 fun e w' ⟨val, c', h1, h2, E, _, _, hrep⟩ => ?_
  cases hrep
  exact ⟨h1, h2 ▸ E.below⟩
def intsC (l : List Int) : List AV := l.map fun v => .i .i64 v
def pairsC (l : List (Int × Int)) : List AV := l.flatMap fun p => [.i .i64 p.1, .i .i64 p.2]
end Go.Ab
end
section
set_option linter.unusedVariables false
set_option linter.unusedSimpArgs false
namespace Go.Ab
abbrev Rw := Nat → BitVec 64
def U (x : BitVec 64) : AV := .i .u64 (x.toNat : Int)
def rowsC (R : Rw) : List AV := (List.range 40).map fun a => U (R a)
def relC (n : Nat) (R : Rw) : List AV := .i .i64 n :: rowsC R
theorem rowsC_len (R : Rw) : (rowsC R).length = 40 := by simp [rowsC]
theorem relC_len (n : Nat) (R : Rw) : (relC n R).length = 41 := by simp [relC, rowsC_len]
theorem rowsC_get {R : Rw} {a : Nat} (h : a < 40) : (rowsC R)[a]? = some (U (R a)) := by
  simp [rowsC, h]
theorem relC_n (n : Nat) (R : Rw) : part (relC n R) 0 none = some (.i .i64 n) := rfl
theorem relC_row {n : Nat} {R : Rw} {a : Nat} (h : a < 40) : part (relC n R) (0 + 1 + a * 1) none = some (U (R a)) := by
  rw [show 0 + 1 + a * 1 = a + 1 by omega]
  simp only [part, relC, List.getElem?_cons_succ, rowsC_get h]
theorem relC_drop1 (n : Nat) (R : Rw) : (relC n R).drop 1 = rowsC R := rfl
theorem relC_row' {R : Rw} {a : Nat} (h : a < 40) : part ((rowsC R).drop (a * 1)) 0 none = some (U (R a)) := by
  simp only [part, List.getElem?_drop, Nat.mul_one, Nat.add_zero, rowsC_get h]
theorem relC_set {n : Nat} {R : Rw} {a : Nat} {x : BitVec 64} (h : a < 40) : splice (relC n R) (0 + 1 + a * 1) [U x] = relC n (upd R a x) := by
  rw [show 0 + 1 + a * 1 = a + 1 by omega]
  show (relC n R).set (a + 1) (U x) = _
  simp only [relC, List.set_cons_succ]
  congr 1
  refine List.ext_getElem? fun i => ?_
  rw [List.getElem?_set]
  by_cases hi : i < 40
  · rw [rowsC_get hi]
    by_cases ha : a = i
    · subst ha
      rw [if_pos rfl, if_pos (by rw [rowsC_len]; exact h), rowsC_get hi, upd_same]
    · have : i ≠ a := fun h => ha h.symm
      rw [if_neg ha, rowsC_get hi, upd_ne _ _ this]
  · have h1 : (rowsC R)[i]? = none := by rw [List.getElem?_eq_none]; rw [rowsC_len]; omega
    have h2 : (rowsC (upd R a x))[i]? = none := by rw [List.getElem?_eq_none]; rw [rowsC_len]; omega
    rw [h2, h1]
    have : a ≠ i := by omega
    simp [this]
theorem relC_set' {n : Nat} {R : Rw} {a : Nat} {x : BitVec 64} (h : a < 40) : (relC n R).set (0 + 1 + a * 1) (U x) = relC n (upd R a x) := relC_set h
theorem cellsOf_U (x : BitVec 64) : cellsOf (U x) = [U x] := rfl
theorem one_U (x : BitVec 64) : one (U x) = true := rfl
theorem relC_flat (n : Nat) (R : Rw) : (relC n R).all flat = true := by
  simp [relC, rowsC, U, flat]
theorem relC_one (n : Nat) (R : Rw) : (relC n R).all one = true := by
  simp [relC, rowsC, U, one]
def bit (b : Nat) : BitVec 64 := 1#64 <<< b
theorem u64_wrap {x : Nat} (h : x < 2 ^ 64) : IntKind.u64.wrap (x : Int) = x := by
  simp [IntKind.wrap, IntKind.bits, IntKind.signed, IntKind.min, IntKind.max]
  omega
theorem ofU (x : BitVec 64) : BitVec.ofInt IntKind.u64.bits (x.toNat : Int) = x := by
  show BitVec.ofInt 64 _ = _
  apply BitVec.eq_of_toNat_eq
  simp
theorem u_or (x y : BitVec 64) : abin .or (U x) (U y) = some (U (x ||| y)) := by
  simp only [abin, U, ibin, if_true, ofU]
  show some (AV.i .u64 (IntKind.u64.wrap (((x ||| y : BitVec 64).toNat : Nat) : Int))) = _
  rw [u64_wrap (x ||| y : BitVec 64).isLt]
theorem u_and (x y : BitVec 64) : abin .and (U x) (U y) = some (U (x &&& y)) := by
  simp only [abin, U, ibin, if_true, ofU]
  show some (AV.i .u64 (IntKind.u64.wrap (((x &&& y : BitVec 64).toNat : Nat) : Int))) = _
  rw [u64_wrap (x &&& y : BitVec 64).isLt]
theorem u_andNot (x y : BitVec 64) : abin .andNot (U x) (U y) = some (U (x &&& ~~~ y)) := by
  simp only [abin, U, ibin, if_true, ofU]
  show some (AV.i .u64 (IntKind.u64.wrap (((x &&& ~~~ y : BitVec 64).toNat : Nat) : Int))) = _
  rw [u64_wrap (x &&& ~~~ y : BitVec 64).isLt]
theorem u_shl {b : Int} (h0 : 0 ≤ b) (h : b < 40) : abin .shl (.i .u64 1) (.i .i64 b) = some (U (bit b.toNat)) := by
  obtain ⟨k, rfl⟩ : ∃ k : Nat, b = k := ⟨b.toNat, by omega⟩
  have hk : k < 40 := by omega
  simp only [abin, ishift]
  rw [if_neg (by omega)]
  rw [show min ((k : Int)).toNat IntKind.u64.bits = k by show min k 64 = k; omega]
  have h2 : (2 ^ k : Nat) < 2 ^ 64 := Nat.pow_lt_pow_right (by omega) (by omega)
  have : (1 : Int) * 2 ^ k = ((2 ^ k : Nat) : Int) := by simp
  rw [this, u64_wrap h2]
  simp only [U, bit, Int.toNat_natCast, BitVec.toNat_shiftLeft, Nat.shiftLeft_eq]
  congr 2
  rw [show (1#64).toNat = 1 from rfl, Nat.one_mul, Nat.mod_eq_of_lt h2]
theorem u_test {x : BitVec 64} {b : Int} (h0 : 0 ≤ b) (h : b < 40) : ∃ y : BitVec 64, abin .shr (U x) (.i .i64 b) = some (U y) ∧ abin .and (U y) (.i .u64 1) = some (U (y &&& 1#64)) ∧ abin .neq (U (y &&& 1#64)) (.i .u64 0) = some (.b (x.getLsbD b.toNat)) := by
  obtain ⟨k, rfl⟩ : ∃ k : Nat, b = k := ⟨b.toNat, by omega⟩
  have hk : k < 40 := by omega
  refine ⟨x >>> k, ?_, u_and _ 1#64, ?_⟩
  · simp only [abin, ishift, U]
    rw [if_neg (by omega)]
    rw [show min ((k : Int)).toNat IntKind.u64.bits = k by show min k 64 = k; omega]
    simp only [BitVec.toNat_ushiftRight, Nat.shiftRight_eq_div_pow]
    congr 2
    have : (2 : Int) ^ k = ((2 ^ k : Nat) : Int) := by simp
    rw [this, Int.fdiv_eq_ediv_of_nonneg _ (Int.natCast_nonneg _)]
    norm_cast
  · rw [show (AV.i .u64 0) = U 0#64 from rfl]
    simp only [U, b_neq]
    congr 2
    simp only [Int.toNat_natCast]
    have key : ((x >>> k) &&& 1#64).toNat = if x.getLsbD k then 1 else 0 := by
      rw [BitVec.toNat_and, BitVec.toNat_ushiftRight]
      simp [Nat.and_one_is_mod, BitVec.getLsbD, Nat.testBit, Nat.and_comm]
      split <;> omega
    rw [key]
    split <;> simp_all
theorem splice_rel (n : Nat) (R : Rw) : splice (.i .i64 0 :: List.replicate 40 (.i .u64 0)) 0 (relC n R) = relC n R := by
  have h : ∀ (cs vs : List AV) (a b : AV), vs.length = cs.length → splice (a :: cs) 0 (b :: vs) = b :: vs := by
    intro cs vs a b h
    cases vs with
    | nil => cases cs <;> first | rfl | simp at h
    | cons v vs =>
      show [] ++ (b :: v :: vs) ++ List.drop (0 + (b :: v :: vs).length) (a :: cs) = _
      rw [List.drop_eq_nil_of_le (by simp at h ⊢; omega)]
      simp
  exact h _ _ _ _ (by simp [rowsC_len])
theorem part_rel (n : Nat) (R : Rw) : part (relC n R) 0 (some 41) = some (.agg (relC n R)) := by
  simp [part, relC_len]
  rw [List.take_of_length_le (by rw [relC_len]; omega)]
theorem frz_U (hp x) : frz hp depth (U x) = some (U x) := frz_d_i hp .u64 _
theorem flat_U (x) : flat (U x) = true := rfl
theorem vis_U (hp x) : vis hp depth (U x) = [] := vis_i hp .u64 _
theorem relC_congr {n : Nat} {R S : Rw} (h : ∀ a, a < 40 → R a = S a) : relC n R = relC n S := by
  unfold relC rowsC
  congr 1
  exact List.map_congr_left fun a ha => by rw [h a (List.mem_range.1 ha)]
theorem part_rows (R : Rw) : part (rowsC R) 0 (some 40) = some (.agg (rowsC R)) := by
  simp [part, rowsC_len]
  rw [List.take_of_length_le (by rw [rowsC_len]; omega)]
theorem cellsEq_U : ∀ l : List (BitVec 64), cellsEq (List.replicate l.length 0) (l.map U) (List.replicate l.length (.i .u64 0)) = some (l.all (· == 0#64))
  | [] => rfl
  | x :: l => by
    simp only [List.length_cons, List.replicate_succ, List.map_cons, cellsEq, cellsEq_U l, List.all_cons]
    show (match cellEq 0 (U x) (.i .u64 0), some (l.all (· == 0#64)) with | some a, some b => some (a && b) | _, _ => none) = _
    have : cellEq 0 (U x) (.i .u64 0) = some (x == 0#64) := by
      simp only [U, cellEq, if_true]
      congr 1
      by_cases h : x = 0#64
      · subst h; rfl
      · have : x.toNat ≠ 0 := fun h' => h (BitVec.eq_of_toNat_eq (by simpa using h'))
        rw [Bool.eq_iff_iff]
        simp [h]; omega
    rw [this]
def noneR (R : Rw) : Bool := (List.range 40).all fun a => R a == 0#64
theorem eqa_rows (R : Rw) : aeqa (List.replicate 40 0) (.agg (rowsC R)) (.agg (List.replicate 40 (.i .u64 0))) = some (noneR R) := by
  have := cellsEq_U ((List.range 40).map R)
  simp only [List.length_map, List.length_range, List.map_map] at this
  show cellsEq _ _ _ = _
  unfold rowsC noneR
  rw [show (fun a => U (R a)) = U ∘ R from rfl, this, List.all_map]
  rfl
set_option maxRecDepth 10000 in
theorem rl : type_of% (And.intro (And.intro (And.intro (And.intro @relC_n @relC_row) (And.intro @relC_row' (And.intro @relC_drop1 @relC_len))) (And.intro (And.intro @rowsC_len (And.intro @relC_one @relC_flat)) (And.intro @cellsOf_U (And.intro @one_U @frz_U)))) (And.intro (And.intro (And.intro @flat_U @vis_U) (And.intro @relC_set' (And.intro @u_shl @u_or))) (And.intro (And.intro @u_and (And.intro @u_andNot @part_rel)) (And.intro @splice_rel (And.intro @part_rows @eqa_rows))))) := (And.intro (And.intro (And.intro (And.intro @relC_n @relC_row) (And.intro @relC_row' (And.intro @relC_drop1 @relC_len))) (And.intro (And.intro @rowsC_len (And.intro @relC_one @relC_flat)) (And.intro @cellsOf_U (And.intro @one_U @frz_U)))) (And.intro (And.intro (And.intro @flat_U @vis_U) (And.intro @relC_set' (And.intro @u_shl @u_or))) (And.intro (And.intro @u_and (And.intro @u_andNot @part_rel)) (And.intro @splice_rel (And.intro @part_rows @eqa_rows)))))
end Go.Ab
end
section
set_option linter.unusedVariables false
set_option linter.unusedSimpArgs false
namespace Go.Ab
variable {F : Funs}
def has (n : Nat) (R : Rw) (a b : Int) : Bool := decide (0 ≤ a ∧ a < n ∧ 0 ≤ b ∧ b < n) && (R a.toNat).getLsbD b.toNat
theorem sp_has (pk : Pk_rel F) {n : Nat} (hn : n ≤ 40) (R : Rw) (a b : Int) : pureS F 13 [.ptr (relC n R), .i .i64 a, .i .i64 b] = some (.b (has n R a b)) := by
  refine pure_of pk.rel_Rel_Has ?_
  have hl := relC_len n R
  by_cases h1 : 0 ≤ a
  · by_cases h2 : a < n
    · by_cases h3 : 0 ≤ b
      · by_cases h4 : b < n
        · obtain ⟨y, hy1, hy2, hy3⟩ := u_test (x := R a.toNat) h3 (by omega)
          have h5 : (0 : Int) ≤ a := h1
          simp (disch := omega) only [A_rel_Rel_Has, wp, Nat.reduceAdd, Nat.reduceMul, Nat.reduceSub, h1, h2, h3, h4, hl, drop_0, relC_n, relC_drop1, relC_row', hy1, hy2, hy3]
          simp [has, h1, h2, h3, h4]
        · simp (disch := omega) only [A_rel_Rel_Has, wp, Nat.reduceAdd, Nat.reduceMul, Nat.reduceSub, h1, h2, h3, h4, hl, drop_0, relC_n]
          simp [has, h4]
      · simp (disch := omega) only [A_rel_Rel_Has, wp, Nat.reduceAdd, Nat.reduceMul, Nat.reduceSub, h1, h2, h3, hl, drop_0, relC_n]
        simp [has, h3]
    · simp (disch := omega) only [A_rel_Rel_Has, wp, Nat.reduceAdd, Nat.reduceMul, Nat.reduceSub, h1, h2, hl, drop_0, relC_n]
      simp [has, h2]
  · simp (disch := omega) only [A_rel_Rel_Has, wp, Nat.reduceAdd, Nat.reduceMul, Nat.reduceSub, h1, hl, drop_0, relC_n]
    simp [has, h1]
end Go.Ab
end
section
set_option linter.unusedVariables false
set_option linter.unusedSimpArgs false
namespace Go.Ab
variable {F : Funs}
theorem pairsC_len (l : List (Int × Int)) : (pairsC l).length = l.length * 2 := by
  induction l with
  | nil => rfl
  | cons p l ih => simp only [pairsC, List.flatMap_cons, List.length_append, List.length_cons, List.length_nil] at ih ⊢; omega
theorem pairs_part : ∀ {l : List (Int × Int)} {k : Nat} (h : k < l.length), part ((pairsC l).drop (k * 2)) 0 (some 2) = some (.agg [.i .i64 (l.getD k (0, 0)).1, .i .i64 (l.getD k (0, 0)).2])
  | p :: l, 0, _ => by simp [pairsC, part]
  | p :: l, k + 1, h => by
    have := pairs_part (l := l) (k := k) (by simpa using h)
    simp only [List.getD_cons_succ]
    rw [← this]
    simp [pairsC, Nat.succ_mul]
def inR (n : Nat) (p : Int × Int) : Bool := decide (0 ≤ p.1 ∧ p.1 < n ∧ 0 ≤ p.2 ∧ p.2 < n)
def addR (n : Nat) (R : Rw) (p : Int × Int) : Rw := if inR n p then upd R p.1.toNat (R p.1.toNat ||| bit p.2.toNat) else R
def newR (n : Nat) (l : List (Int × Int)) : Rw := l.foldl (addR n) (fun _ => 0)
def clamp (n : Int) : Nat := (max 0 (min n 40)).toNat
theorem clamp_le (n : Int) : clamp n ≤ 40 := by unfold clamp; omega
theorem newR_take {n : Nat} {l : List (Int × Int)} {k : Nat} (h : k < l.length) : newR n (l.take (k + 1)) = addR n (newR n (l.take k)) (l.getD k (0, 0)) := by
  unfold newR
  rw [List.take_add_one, List.foldl_append, List.getElem?_eq_getElem h, List.getD_eq_getElem?_getD, List.getElem?_eq_getElem h]
  rfl
theorem i64_wrap {x : Int} (h : -9223372036854775808 ≤ x) (h2 : x ≤ 9223372036854775807) : IntKind.i64.wrap x = x := by
  simp [IntKind.wrap, IntKind.bits, IntKind.signed, IntKind.min, IntKind.max]
  omega
set_option maxHeartbeats 1000000 in
theorem sp_new (pk : Pk_rel F) (n : Int) (l : List (Int × Int)) (t : Tok) (hlen : l.length < 9000000000000000000) : pureS F 11 [.i .i64 n, .sl (pairsC l) l.length t] = some (.ptr (relC (clamp n) (newR (clamp n) l))) := by
  refine pure_of pk.rel_New ?_
  have hc : (if (40 : Int) < n then (40 : Int) else n) = min n 40 := by split <;> omega
  have hc0 : (if (0 : Int) < min n 40 then min n 40 else 0) = clamp n := by unfold clamp; split <;> omega
  have hz : AV.i .i64 (clamp n) :: List.replicate 40 (.i .u64 0) = relC (clamp n) (fun _ => 0) := rfl
  simp (disch := omega) only [A_rel_New, wp, Nat.reduceAdd, Nat.reduceMul, Nat.reduceSub, hc, hc0, hz, relC_one, List.all_append, List.all_replicate]
  refine W_loop (fun m e g => ∃ k, m = l.length - k ∧ k ≤ l.length ∧ e 13 = .sl (pairsC l) l.length t ∧ e 14 = .i .i64 l.length ∧ e 15 = .i .i64 k ∧ e 5 = .mp 5 0 ∧ g.hp 5 = some (.cells (relC (clamp n) (newR (clamp n) (l.take k))) false) ∧ 5 < g.nx) l.length ?_ ?_
  · refine ⟨0, rfl, Nat.zero_le _, ?_⟩
    simp (disch := omega) only [wp, Nat.reduceAdd, Nat.reduceMul, Nat.reduceSub]
    exact ⟨rfl, rfl, by omega⟩
  · rintro m e g ⟨k, rfl, hk, h13, h14, h15, h5, hg, hn⟩
    have hcl := clamp_le n
    by_cases hk' : k < l.length
    · have hk1 : (k : Int) < l.length := by omega
      have hp := pairs_part hk'
      have hw : IntKind.i64.wrap ((k : Int) + 1) = ((k + 1 : Nat) : Int) := by rw [i64_wrap (by omega) (by omega)]; omega
      have ht := newR_take (n := clamp n) hk'
      have n1 : 5 ≠ g.nx + 1 + 2 := by omega
      have n2 : g.nx + 1 + 2 ≠ 5 := by omega
      generalize l.getD k (0, 0) = p at hp ht
      obtain ⟨a, b⟩ := p
      by_cases h1 : 0 ≤ a
      · by_cases h2 : a < clamp n
        · by_cases h3 : 0 ≤ b
          · by_cases h4 : b < clamp n
            · simp (disch := omega) only [wp, Nat.reduceAdd, Nat.reduceMul, Nat.reduceSub, h13, h14, h15, h5, hk1, hp, hg, h1, h2, h3, h4, hw, relC_n, relC_row, u_shl, u_or, relC_len, cellsOf_U, one_U, relC_set']
              refine ⟨_, ?_, k + 1, rfl, by omega, rfl, ?_, by show 5 < _; omega⟩
              · omega
              · rw [ht]
                simp [addR, inR, h1, h2, h3, h4]
            · simp (disch := omega) only [wp, Nat.reduceAdd, Nat.reduceMul, Nat.reduceSub, h13, h14, h15, h5, hk1, hp, hg, h1, h2, h3, h4, hw, relC_n]
              refine ⟨_, ?_, k + 1, rfl, by omega, rfl, ?_, by show 5 < _; omega⟩
              · omega
              · rw [ht]
                simp [addR, inR, h4]
          · simp (disch := omega) only [wp, Nat.reduceAdd, Nat.reduceMul, Nat.reduceSub, h13, h14, h15, h5, hk1, hp, hg, h1, h2, h3, hw, relC_n]
            refine ⟨_, ?_, k + 1, rfl, by omega, rfl, ?_, by show 5 < _; omega⟩
            · omega
            · rw [ht]
              simp [addR, inR, h3]
        · simp (disch := omega) only [wp, Nat.reduceAdd, Nat.reduceMul, Nat.reduceSub, h13, h14, h15, h5, hk1, hp, hg, h1, h2, hw, relC_n]
          refine ⟨_, ?_, k + 1, rfl, by omega, rfl, ?_, by show 5 < _; omega⟩
          · omega
          · rw [ht]
            simp [addR, inR, h2]
      · simp (disch := omega) only [wp, Nat.reduceAdd, Nat.reduceMul, Nat.reduceSub, h13, h14, h15, h5, hk1, hp, hg, h1, hw, relC_n]
        refine ⟨_, ?_, k + 1, rfl, by omega, rfl, ?_, by show 5 < _; omega⟩
        · omega
        · rw [ht]
          simp [addR, inR, h1]
    · have : k = l.length := by omega
      subst this
      have hk1 : ¬ ((l.length : Int) < l.length) := by omega
      simp (disch := omega) only [wp, Nat.reduceAdd, Nat.reduceMul, Nat.reduceSub, h13, h14, h15, h5, hk1, hg, relC_flat, List.take_length]
end Go.Ab
end
section
set_option linter.unusedVariables false
set_option linter.unusedSimpArgs false
namespace Go.Ab
variable {F : Funs}
theorem succ_wrap {k : Nat} (h : k < 9000000000000000000) : IntKind.i64.wrap ((k : Int) + 1) = ((k + 1 : Nat) : Int) := by rw [i64_wrap (by omega) (by omega)]; omega
def stepP (n b : Nat) (R : Rw) (a : Nat) : Rw := if has n R a b then upd R a (R a ||| R b) else R
def rowP (n b k : Nat) (R : Rw) : Rw := (List.range k).foldl (stepP n b) R
def plusK (n k : Nat) (R : Rw) : Rw := (List.range k).foldl (fun R b => rowP n b n R) R
def plusR (n : Nat) (R : Rw) : Rw := plusK n n R
theorem rowP_succ (n b k R) : rowP n b (k + 1) R = stepP n b (rowP n b k R) k := by simp [rowP, List.range_succ]
theorem plusK_succ (n k R) : plusK n (k + 1) R = rowP n k n (plusK n k R) := by simp [plusK, List.range_succ]
set_option maxHeartbeats 1000000 in
theorem sp_plus (pk : Pk_rel F) {n : Nat} (hn : n ≤ 40) (R : Rw) : pureS F 12 [.ptr (relC n R)] = some (.ptr (relC n (plusR n R))) := by
  refine pure_of pk.rel_Rel_Plus ?_
  simp (disch := omega) only [A_rel_Rel_Plus, wp, Nat.reduceAdd, Nat.reduceMul, Nat.reduceSub, rl]
  refine W_loop (fun m e g => ∃ k, m = n - k ∧ k ≤ n ∧ e 0 = .ptr (relC n R) ∧ e 12 = .i .i64 n ∧ e 13 = .i .i64 k ∧ e 3 = .mp 4 0 ∧ g.hp 4 = some (.cells (relC n (plusK n k R)) false) ∧ 4 < g.nx) n ?_ ?_
  · refine ⟨0, rfl, Nat.zero_le _, ?_⟩
    simp (disch := omega) only [wp, Nat.reduceAdd, Nat.reduceMul, Nat.reduceSub]
    exact ⟨rfl, rfl, by omega⟩
  · rintro m e g ⟨k, rfl, hk, h0, h12, h13, h3, hg, hnx⟩
    by_cases hk' : k < n
    · have hk1 : (k : Int) < n := by omega
      have hw := succ_wrap (k := k) (by omega)
      simp (disch := omega) only [wp, Nat.reduceAdd, Nat.reduceMul, Nat.reduceSub, h0, h12, h13, h3, hk1, rl]
      refine W_loop (fun m e g => ∃ j, m = n - j ∧ j ≤ n ∧ e 0 = .ptr (relC n R) ∧ e 12 = .i .i64 n ∧ e 13 = .i .i64 k ∧ e 3 = .mp 4 0 ∧ e 4 = .i .i64 k ∧ e 19 = .i .i64 n ∧ e 20 = .i .i64 j ∧ g.hp 4 = some (.cells (relC n (rowP n k j (plusK n k R))) false) ∧ 4 < g.nx) n ?_ ?_
      · refine ⟨0, rfl, Nat.zero_le _, ?_⟩
        simp (disch := omega) only [wp, Nat.reduceAdd, Nat.reduceMul, Nat.reduceSub, h0, h12, h13, h3, hg]
        exact ⟨rfl, rfl, by omega⟩
      · rintro m e g ⟨j, rfl, hj, h0, h12, h13, h3, h4, h19, h20, hg, hnx⟩
        by_cases hj' : j < n
        · have hj1 : (j : Int) < n := by omega
          have hwj := succ_wrap (k := j) (by omega)
          by_cases hh : has n (rowP n k j (plusK n k R)) j k = true
          · simp (disch := omega) only [wp, Nat.reduceAdd, Nat.reduceMul, Nat.reduceSub, h0, h12, h13, h3, h4, h19, h20, hj1, hg, rl, sp_has pk hn, hh, hwj]
            refine ⟨_, ?_, j + 1, rfl, by omega, rfl, ?_, by show 4 < _; omega⟩
            · omega
            · rw [rowP_succ, stepP, if_pos hh]
          · simp (disch := omega) only [wp, Nat.reduceAdd, Nat.reduceMul, Nat.reduceSub, h0, h12, h13, h3, h4, h19, h20, hj1, hg, rl, sp_has pk hn, hh, hwj]
            refine ⟨_, ?_, j + 1, rfl, by omega, rfl, ?_, by show 4 < _; omega⟩
            · omega
            · rw [rowP_succ, stepP, if_neg hh]
        · obtain rfl : j = n := by omega
          have hj1 : ¬ ((j : Int) < j) := by omega
          simp (disch := omega) only [wp, Nat.reduceAdd, Nat.reduceMul, Nat.reduceSub, h0, h12, h13, h3, h4, h19, h20, hj1, hg, hw]
          refine ⟨_, ?_, k + 1, rfl, by omega, rfl, ?_, by show 4 < _; omega⟩
          · omega
          · rw [plusK_succ]
    · obtain rfl : k = n := by omega
      have hk1 : ¬ ((k : Int) < k) := by omega
      simp (disch := omega) only [wp, Nat.reduceAdd, Nat.reduceMul, Nat.reduceSub, h0, h12, h13, h3, hk1, hg, rl]
      rfl
end Go.Ab
end
section
set_option linter.unusedVariables false
set_option linter.unusedSimpArgs false
namespace Go.Ab
variable {F : Funs}
theorem sp_len (pk : Pk_rel F) {n : Nat} (R : Rw) : pureS F 17 [.ptr (relC n R)] = some (.i .i64 n) := by
  refine pure_of pk.rel_Rel_Len ?_
  simp (disch := omega) only [A_rel_Rel_Len, wp, Nat.reduceAdd, Nat.reduceMul, Nat.reduceSub, rl]
def maybeK (k : Nat) (R : Rw) : Rw := (List.range k).foldl (fun R a => upd R a (R a ||| bit a)) R
theorem maybeK_succ (k R) : maybeK (k + 1) R = upd (maybeK k R) k (maybeK k R k ||| bit k) := by simp [maybeK, List.range_succ]
set_option maxHeartbeats 1000000 in
theorem sp_maybe (pk : Pk_rel F) {n : Nat} (hn : n ≤ 40) (R : Rw) : pureS F 16 [.ptr (relC n R)] = some (.ptr (relC n (maybeK n R))) := by
  refine pure_of pk.rel_Rel_Maybe ?_
  simp (disch := omega) only [A_rel_Rel_Maybe, wp, Nat.reduceAdd, Nat.reduceMul, Nat.reduceSub, rl]
  refine W_loop (fun m e g => ∃ k, m = n - k ∧ k ≤ n ∧ e 11 = .i .i64 n ∧ e 12 = .i .i64 k ∧ e 3 = .mp 4 0 ∧ g.hp 4 = some (.cells (relC n (maybeK k R)) false) ∧ 4 < g.nx) n ?_ ?_
  · refine ⟨0, rfl, Nat.zero_le _, ?_⟩
    simp (disch := omega) only [wp, Nat.reduceAdd, Nat.reduceMul, Nat.reduceSub]
    exact ⟨rfl, rfl, by omega⟩
  · rintro m e g ⟨k, rfl, hk, h11, h12, h3, hg, hnx⟩
    by_cases hk' : k < n
    · have hk1 : (k : Int) < n := by omega
      have hw := succ_wrap (k := k) (by omega)
      simp (disch := omega) only [wp, Nat.reduceAdd, Nat.reduceMul, Nat.reduceSub, h11, h12, h3, hk1, hg, rl, hw]
      refine ⟨_, ?_, k + 1, rfl, by omega, rfl, ?_, by show 4 < _; omega⟩
      · omega
      · rw [maybeK_succ]
    · obtain rfl : k = n := by omega
      have hk1 : ¬ ((k : Int) < k) := by omega
      simp (disch := omega) only [wp, Nat.reduceAdd, Nat.reduceMul, Nat.reduceSub, h11, h12, h3, hk1, hg, rl]
def loopsR (n : Nat) (R : Rw) : Bool := (List.range n).any fun a => has n (plusR n R) a a
set_option maxHeartbeats 1000000 in
theorem sp_loops (pk : Pk_rel F) {n : Nat} (hn : n ≤ 40) (R : Rw) : pureS F 14 [.ptr (relC n R)] = some (.b (loopsR n R)) := by
  refine pure_of pk.rel_Rel_Loops ?_
  simp (disch := omega) only [A_rel_Rel_Loops, wp, Nat.reduceAdd, Nat.reduceMul, Nat.reduceSub, rl, sp_plus pk hn]
  refine W_loop (fun m e g => ∃ k, m = n - k ∧ k ≤ n ∧ e 10 = .i .i64 n ∧ e 11 = .i .i64 k ∧ e 3 = .ptr (relC n (plusR n R)) ∧ ∀ a, a < k → has n (plusR n R) a a = false) n ?_ ?_
  · refine ⟨0, rfl, Nat.zero_le _, ?_⟩
    simp (disch := omega) only [wp, Nat.reduceAdd, Nat.reduceMul, Nat.reduceSub]
    exact ⟨rfl, fun a ha => absurd ha (Nat.not_lt_zero _)⟩
  · rintro m e g ⟨k, rfl, hk, h10, h11, h3, hall⟩
    by_cases hk' : k < n
    · have hk1 : (k : Int) < n := by omega
      have hw := succ_wrap (k := k) (by omega)
      by_cases hh : has n (plusR n R) k k = true
      · simp (disch := omega) only [wp, Nat.reduceAdd, Nat.reduceMul, Nat.reduceSub, h10, h11, h3, hk1, rl, hw, sp_has pk hn, hh]
        have : loopsR n R = true := List.any_eq_true.2 ⟨k, List.mem_range.2 hk', hh⟩
        rw [this]
      · simp (disch := omega) only [wp, Nat.reduceAdd, Nat.reduceMul, Nat.reduceSub, h10, h11, h3, hk1, rl, hw, sp_has pk hn, hh]
        refine ⟨_, ?_, k + 1, rfl, by omega, rfl, fun a ha => ?_⟩
        · omega
        · by_cases hak : a = k
          · subst hak; simpa using hh
          · exact hall a (by omega)
    · obtain rfl : k = n := by omega
      have hk1 : ¬ ((k : Int) < k) := by omega
      simp (disch := omega) only [wp, Nat.reduceAdd, Nat.reduceMul, Nat.reduceSub, h10, h11, h3, hk1, rl]
      have : loopsR k R = false := List.any_eq_false.2 fun a ha => by rw [hall a (List.mem_range.1 ha)]; simp
      rw [this]
def rowPr (n : Nat) (R : Rw) (a j : Nat) : List (Int × Int) := ((List.range j).filter fun (b : Nat) => has n R a b).map fun (b : Nat) => ((a : Int), (b : Int))
def pairsK (n k : Nat) (R : Rw) : List (Int × Int) := (List.range k).flatMap fun a => rowPr n R a n
def pairsR (n : Nat) (R : Rw) : List (Int × Int) := pairsK n n R
theorem pairsK_succ (n k R) : pairsK n (k + 1) R = pairsK n k R ++ rowPr n R k n := by simp [pairsK, List.range_succ]
theorem rowPr_succ (n R a j) : rowPr n R a (j + 1) = if has n R a j then rowPr n R a j ++ [((a : Int), (j : Int))] else rowPr n R a j := by
  unfold rowPr
  rw [List.range_succ, List.filter_append, List.filter_cons]
  split <;> simp
def partL (n k j : Nat) (R : Rw) : List (Int × Int) := pairsK n k R ++ rowPr n R k j
theorem partL_0 (n k R) : partL n k 0 R = pairsK n k R := by simp [partL, rowPr]
theorem partL_n (n k R) : partL n k n R = pairsK n (k + 1) R := (pairsK_succ n k R).symm
theorem partL_succ (n k j R) : partL n k (j + 1) R = if has n R k j then partL n k j R ++ [((k : Int), (j : Int))] else partL n k j R := by
  unfold partL
  rw [rowPr_succ]; split <;> simp
theorem pairsC_app (l m : List (Int × Int)) : pairsC (l ++ m) = pairsC l ++ pairsC m := by simp [pairsC]
theorem pairsC_one (a b : Int) : pairsC [(a, b)] = [.i .i64 a, .i .i64 b] := rfl
def Live (g : G) (esz : Nat) (t : Tok) : Prop := t = .rig ∨ ∃ τ, t = .own τ esz ∧ g.hp τ = some (.tok true) ∧ τ < g.nx
set_option maxHeartbeats 1000000 in
theorem sp_pairs (pk : Pk_rel F) {n : Nat} (hn : n ≤ 40) (R : Rw) : pureS F 15 [.ptr (relC n R)] = some (.sl (pairsC (pairsR n R)) (pairsR n R).length .non) := by
  refine pure_of pk.rel_Rel_Pairs ?_
  simp (disch := omega) only [A_rel_Rel_Pairs, wp, Nat.reduceAdd, Nat.reduceMul, Nat.reduceSub, rl]
  refine W_loop (fun m e g => ∃ k t, m = n - k ∧ k ≤ n ∧ e 0 = .ptr (relC n R) ∧ e 9 = .i .i64 n ∧ e 10 = .i .i64 k ∧ e 3 = .sl (pairsC (pairsK n k R)) (pairsK n k R).length t ∧ Live g 2 t ∧ (pairsK n k R).length ≤ 40 * k) n ?_ ?_
  · refine ⟨0, .rig, rfl, Nat.zero_le _, ?_⟩
    simp (disch := omega) only [wp, Nat.reduceAdd, Nat.reduceMul, Nat.reduceSub]
    exact ⟨rfl, rfl, .inl rfl, Nat.zero_le _⟩
  · rintro m e g ⟨k, t, rfl, hk, h0, h9, h10, h3, ht, hl⟩
    by_cases hk' : k < n
    · have hk1 : (k : Int) < n := by omega
      have hw := succ_wrap (k := k) (by omega)
      simp (disch := omega) only [wp, Nat.reduceAdd, Nat.reduceMul, Nat.reduceSub, h0, h9, h10, h3, hk1, rl]
      refine W_loop (fun m e g => ∃ j t, m = n - j ∧ j ≤ n ∧ e 0 = .ptr (relC n R) ∧ e 9 = .i .i64 n ∧ e 10 = .i .i64 k ∧ e 4 = .i .i64 k ∧ e 16 = .i .i64 n ∧ e 17 = .i .i64 j ∧ e 3 = .sl (pairsC (partL n k j R)) (partL n k j R).length t ∧ Live g 2 t ∧ (partL n k j R).length ≤ 40 * k + j) n ?_ ?_
      · refine ⟨0, t, rfl, Nat.zero_le _, ?_⟩
        simp (disch := omega) only [wp, Nat.reduceAdd, Nat.reduceMul, Nat.reduceSub, h0, h9, h10, h3]
        rw [partL_0]
        refine ⟨rfl, rfl, ?_, by omega⟩
        rcases ht with rfl | ⟨τ, rfl, hτ, hlt⟩
        · exact .inl rfl
        · exact .inr ⟨τ, rfl, hτ, Nat.lt_of_lt_of_le hlt (by dsimp only; omega)⟩
      · rintro m e g ⟨j, t, rfl, hj, h0, h9, h10, h4, h16, h17, h3, ht, hl⟩
        have hLn := partL_succ n k j R
        by_cases hj' : j < n
        · have hj1 : (j : Int) < n := by omega
          have hwj := succ_wrap (k := j) (by omega)
          by_cases hh : has n R k j = true
          · rw [if_pos hh] at hLn
            rcases ht with rfl | ⟨τ, rfl, hτ, hlt⟩
            · simp (disch := omega) only [wp, Nat.reduceAdd, Nat.reduceMul, Nat.reduceSub, h0, h9, h10, h4, h16, h17, h3, hj1, rl, sp_has pk hn, hh, hwj, pairsC_len]
              refine ⟨n - (j + 1), ?_, j + 1, ?_⟩
              · omega
              · rw [hLn, pairsC_app, pairsC_one, List.length_append]
                exact ⟨_, rfl, by omega, rfl, rfl, .inr ⟨_, rfl, upd_same _ _ _, by dsimp only; omega⟩, by simp; omega⟩
            · simp (disch := omega) only [wp, Nat.reduceAdd, Nat.reduceMul, Nat.reduceSub, h0, h9, h10, h4, h16, h17, h3, hj1, rl, sp_has pk hn, hh, hwj, pairsC_len, hτ]
              refine ⟨n - (j + 1), ?_, j + 1, ?_⟩
              · omega
              · rw [hLn, pairsC_app, pairsC_one, List.length_append]
                exact ⟨_, rfl, by omega, rfl, rfl, .inr ⟨_, rfl, upd_same _ _ _, by dsimp only; omega⟩, by simp; omega⟩
          · rw [if_neg hh] at hLn
            simp (disch := omega) only [wp, Nat.reduceAdd, Nat.reduceMul, Nat.reduceSub, h0, h9, h10, h4, h16, h17, h3, hj1, rl, sp_has pk hn, hh, hwj]
            refine ⟨_, ?_, j + 1, t, rfl, by omega, rfl, ?_⟩
            · omega
            · rw [hLn]
              refine ⟨rfl, ?_, by omega⟩
              rcases ht with rfl | ⟨τ, rfl, hτ, hlt⟩
              · exact .inl rfl
              · exact .inr ⟨τ, rfl, hτ, Nat.lt_of_lt_of_le hlt (by dsimp only; omega)⟩
        · obtain rfl : j = n := by omega
          have hj1 : ¬ ((j : Int) < j) := by omega
          simp (disch := omega) only [wp, Nat.reduceAdd, Nat.reduceMul, Nat.reduceSub, h0, h9, h10, h4, h16, h17, h3, hj1, hw]
          refine ⟨_, ?_, k + 1, t, rfl, by omega, rfl, ?_⟩
          · omega
          · rw [← partL_n]
            refine ⟨rfl, ?_, by omega⟩
            rcases ht with rfl | ⟨τ, rfl, hτ, hlt⟩
            · exact .inl rfl
            · exact .inr ⟨τ, rfl, hτ, Nat.lt_of_lt_of_le hlt (by dsimp only; omega)⟩
    · obtain rfl : k = n := by omega
      have hk1 : ¬ ((k : Int) < k) := by omega
      simp (disch := omega) only [wp, Nat.reduceAdd, Nat.reduceMul, Nat.reduceSub, h0, h9, h10, h3, hk1, rl]
      rfl
end Go.Ab
end
section
set_option linter.unusedVariables false
set_option linter.unusedSimpArgs false
namespace Go.Ab
variable {F : Funs}
def byK (φ : BitVec 64 → BitVec 64 → BitVec 64) (R S : Rw) (k : Nat) : Rw := fun a => if a < k then φ (R a) (S a) else 0
theorem byK_succ (φ R S k) : upd (byK φ R S k) k (φ (R k) (S k)) = byK φ R S (k + 1) := by
  funext a
  unfold upd byK
  by_cases h : a = k
  · subst h; simp
  · rw [if_neg h]
    by_cases h2 : a < k
    · rw [if_pos h2, if_pos (by omega)]
    · rw [if_neg h2, if_neg (by omega)]
theorem maxI (n m : Nat) : (if (n : Int) < m then (m : Int) else n) = ((max n m : Nat) : Int) := by split <;> omega
set_option maxHeartbeats 1000000 in
theorem sp_by (pk : Pk_rel F) {n m : Nat} (hn : n ≤ 40) (hm : m ≤ 40) (R S : Rw) {fid : Nat} {φ : BitVec 64 → BitVec 64 → BitVec 64} (hφ : ∀ x y, pureS F fid [U x, U y] = some (U (φ x y))) :
    pureS F 51 [.ptr (relC n R), .ptr (relC m S), .fn fid [] []] = some (.ptr (relC (max n m) fun a => φ (R a) (S a))) := by
  refine pure_of pk.rel_Rel_by ?_
  have hz : AV.i .i64 (max n m : Nat) :: List.replicate 40 (.i .u64 0) = relC (max n m) (byK φ R S 0) := rfl
  simp (disch := omega) only [A_rel_Rel_by, wp, Nat.reduceAdd, Nat.reduceMul, Nat.reduceSub, rl, maxI, hz, List.all_append, List.all_replicate]
  refine W_loop (fun q e g => ∃ k, q = 40 - k ∧ k ≤ 40 ∧ e 0 = .ptr (relC n R) ∧ e 1 = .ptr (relC m S) ∧ e 2 = .fn fid [] [] ∧ e 20 = .i .i64 k ∧ e 7 = .mp 11 0 ∧ g.hp 11 = some (.cells (relC (max n m) (byK φ R S k)) false) ∧ 11 < g.nx) 40 ?_ ?_
  · refine ⟨0, rfl, Nat.zero_le _, ?_⟩
    simp (disch := omega) only [wp, Nat.reduceAdd, Nat.reduceMul, Nat.reduceSub]
    exact ⟨rfl, by omega⟩
  · rintro q e g ⟨k, rfl, hk, h0, h1, h2, h20, h7, hg, hnx⟩
    by_cases hk' : k < 40
    · have hk1 : (k : Int) < 40 := by omega
      have hw := succ_wrap (k := k) (by omega)
      simp (disch := omega) only [wp, Nat.reduceAdd, Nat.reduceMul, Nat.reduceSub, h0, h1, h2, h20, h7, hk1, hg, rl, hw, hφ, byK_succ]
      refine ⟨40 - (k + 1), ?_, k + 1, rfl, by omega, rfl, rfl, by first | omega | (dsimp only; omega)⟩
      omega
    · obtain rfl : k = 40 := by omega
      have hk1 : ¬ (((40 : Nat) : Int) < 40) := by omega
      simp (disch := omega) only [wp, Nat.reduceAdd, Nat.reduceMul, Nat.reduceSub, h0, h1, h2, h20, h7, hg, rl, hk1]
      rw [relC_congr (R := byK φ R S 40) (S := fun a => φ (R a) (S a)) (fun a ha => by simp [byK, ha])]
theorem sp_or1 (pk : Pk_rel F) (x y : BitVec 64) : pureS F 53 [U x, U y] = some (U (x ||| y)) := by
  refine pure_of pk.rel_Rel_Or_1 ?_
  simp (disch := omega) only [A_rel_Rel_Or_1, wp, Nat.reduceAdd, Nat.reduceMul, Nat.reduceSub, rl]
theorem sp_and1 (pk : Pk_rel F) (x y : BitVec 64) : pureS F 52 [U x, U y] = some (U (x &&& y)) := by
  refine pure_of pk.rel_Rel_And_1 ?_
  simp (disch := omega) only [A_rel_Rel_And_1, wp, Nat.reduceAdd, Nat.reduceMul, Nat.reduceSub, rl]
structure RelLs (F : Funs) : Prop where
  rel_Rel_In : F 22 = some A_rel_Rel_In
  rel_Rel_Less : F 26 = some A_rel_Rel_Less
  rel_Rel_Less_1 : F 54 = some A_rel_Rel_Less_1
theorem sp_less1 (pk : RelLs F) (x y : BitVec 64) : pureS F 54 [U x, U y] = some (U (x &&& ~~~ y)) := by
  refine pure_of pk.rel_Rel_Less_1 ?_
  simp (disch := omega) only [A_rel_Rel_Less_1, wp, Nat.reduceAdd, Nat.reduceMul, Nat.reduceSub, rl]
def orR (R S : Rw) : Rw := fun a => R a ||| S a
def andR (R S : Rw) : Rw := fun a => R a &&& S a
def lessR (R S : Rw) : Rw := fun a => R a &&& ~~~ S a
theorem sp_or (pk : Pk_rel F) {n m : Nat} (hn : n ≤ 40) (hm : m ≤ 40) (R S : Rw) : pureS F 24 [.ptr (relC n R), .ptr (relC m S)] = some (.ptr (relC (max n m) (orR R S))) := by
  refine pure_of pk.rel_Rel_Or ?_
  simp (disch := omega) only [A_rel_Rel_Or, wp, Nat.reduceAdd, Nat.reduceMul, Nat.reduceSub, rl, sp_by pk hn hm R S (sp_or1 pk)]
  rfl
theorem sp_and (pk : Pk_rel F) {n m : Nat} (hn : n ≤ 40) (hm : m ≤ 40) (R S : Rw) : pureS F 18 [.ptr (relC n R), .ptr (relC m S)] = some (.ptr (relC (max n m) (andR R S))) := by
  refine pure_of pk.rel_Rel_And ?_
  simp (disch := omega) only [A_rel_Rel_And, wp, Nat.reduceAdd, Nat.reduceMul, Nat.reduceSub, rl, sp_by pk hn hm R S (sp_and1 pk)]
  rfl
theorem sp_less (ls : RelLs F) (pk : Pk_rel F) {n m : Nat} (hn : n ≤ 40) (hm : m ≤ 40) (R S : Rw) : pureS F 26 [.ptr (relC n R), .ptr (relC m S)] = some (.ptr (relC (max n m) (lessR R S))) := by
  refine pure_of ls.rel_Rel_Less ?_
  simp (disch := omega) only [A_rel_Rel_Less, wp, Nat.reduceAdd, Nat.reduceMul, Nat.reduceSub, rl, sp_by pk hn hm R S (sp_less1 ls)]
  rfl
theorem sp_in (ls : RelLs F) (pk : Pk_rel F) {n m : Nat} (hn : n ≤ 40) (hm : m ≤ 40) (R S : Rw) : pureS F 22 [.ptr (relC n R), .ptr (relC m S)] = some (.b (noneR (lessR R S))) := by
  refine pure_of ls.rel_Rel_In ?_
  simp (disch := omega) only [A_rel_Rel_In, wp, Nat.reduceAdd, Nat.reduceMul, Nat.reduceSub, rl, sp_less ls pk hn hm]
def stepT (n a : Nat) (R S : Rw) (T : Rw) (b : Nat) : Rw := if has n R a b then upd T a (T a ||| S b) else T
def rowT (n a k : Nat) (R S T : Rw) : Rw := (List.range k).foldl (stepT n a R S) T
def thenK (n k : Nat) (R S : Rw) : Rw := (List.range k).foldl (fun T a => rowT n a n R S T) (fun _ => 0)
def thenR (n : Nat) (R S : Rw) : Rw := thenK n n R S
theorem rowT_succ (n a k R S T) : rowT n a (k + 1) R S T = stepT n a R S (rowT n a k R S T) k := by simp [rowT, List.range_succ]
theorem thenK_succ (n k R S) : thenK n (k + 1) R S = rowT n k n R S (thenK n k R S) := by simp [thenK, List.range_succ]
set_option maxHeartbeats 1000000 in
theorem sp_then (pk : Pk_rel F) {n m : Nat} (hn : n ≤ 40) (hm : m ≤ 40) (R S : Rw) : pureS F 23 [.ptr (relC n R), .ptr (relC m S)] = some (.ptr (relC (max n m) (thenR n R S))) := by
  refine pure_of pk.rel_Rel_Then ?_
  have hz : AV.i .i64 (max n m : Nat) :: List.replicate 40 (.i .u64 0) = relC (max n m) (thenK n 0 R S) := rfl
  simp (disch := omega) only [A_rel_Rel_Then, wp, Nat.reduceAdd, Nat.reduceMul, Nat.reduceSub, rl, maxI, hz, List.all_append, List.all_replicate]
  refine W_loop (fun q e g => ∃ k, q = n - k ∧ k ≤ n ∧ e 0 = .ptr (relC n R) ∧ e 1 = .ptr (relC m S) ∧ e 22 = .i .i64 n ∧ e 23 = .i .i64 k ∧ e 5 = .mp 11 0 ∧ g.hp 11 = some (.cells (relC (max n m) (thenK n k R S)) false) ∧ 11 < g.nx) n ?_ ?_
  · refine ⟨0, rfl, Nat.zero_le _, ?_⟩
    simp (disch := omega) only [wp, Nat.reduceAdd, Nat.reduceMul, Nat.reduceSub]
    exact ⟨rfl, by omega⟩
  · rintro q e g ⟨k, rfl, hk, h0, h1, h22, h23, h5, hg, hnx⟩
    by_cases hk' : k < n
    · have hk1 : (k : Int) < n := by omega
      have hw := succ_wrap (k := k) (by omega)
      simp (disch := omega) only [wp, Nat.reduceAdd, Nat.reduceMul, Nat.reduceSub, h0, h1, h22, h23, h5, hk1, rl]
      refine W_loop (fun q e g => ∃ j, q = n - j ∧ j ≤ n ∧ e 0 = .ptr (relC n R) ∧ e 1 = .ptr (relC m S) ∧ e 22 = .i .i64 n ∧ e 23 = .i .i64 k ∧ e 6 = .i .i64 k ∧ e 29 = .i .i64 n ∧ e 30 = .i .i64 j ∧ e 5 = .mp 11 0 ∧ g.hp 11 = some (.cells (relC (max n m) (rowT n k j R S (thenK n k R S))) false) ∧ 11 < g.nx) n ?_ ?_
      · refine ⟨0, rfl, Nat.zero_le _, ?_⟩
        simp (disch := omega) only [wp, Nat.reduceAdd, Nat.reduceMul, Nat.reduceSub, h0, h1, h22, h23, h5, hg]
        exact ⟨rfl, rfl, by omega⟩
      · rintro q e g ⟨j, rfl, hj, h0, h1, h22, h23, h6, h29, h30, h5, hg, hnx⟩
        by_cases hj' : j < n
        · have hj1 : (j : Int) < n := by omega
          have hwj := succ_wrap (k := j) (by omega)
          by_cases hh : has n R k j = true
          · simp (disch := omega) only [wp, Nat.reduceAdd, Nat.reduceMul, Nat.reduceSub, h0, h1, h22, h23, h6, h29, h30, h5, hj1, hg, rl, sp_has pk hn, hh, hwj]
            refine ⟨n - (j + 1), ?_, j + 1, rfl, by omega, rfl, ?_, by first | omega | (dsimp only; omega)⟩
            · omega
            · rw [rowT_succ, stepT, if_pos hh]
          · simp (disch := omega) only [wp, Nat.reduceAdd, Nat.reduceMul, Nat.reduceSub, h0, h1, h22, h23, h6, h29, h30, h5, hj1, hg, rl, sp_has pk hn, hh, hwj]
            refine ⟨n - (j + 1), ?_, j + 1, rfl, by omega, rfl, ?_, by first | omega | (dsimp only; omega)⟩
            · omega
            · rw [rowT_succ, stepT, if_neg hh]
        · obtain rfl : j = n := by omega
          have hj1 : ¬ ((j : Int) < j) := by omega
          simp (disch := omega) only [wp, Nat.reduceAdd, Nat.reduceMul, Nat.reduceSub, h0, h1, h22, h23, h6, h29, h30, h5, hj1, hg, hw]
          refine ⟨j - (k + 1), ?_, k + 1, rfl, by omega, rfl, ?_, by first | omega | (dsimp only; omega)⟩
          · omega
          · rw [thenK_succ]
    · obtain rfl : k = n := by omega
      have hk1 : ¬ ((k : Int) < k) := by omega
      simp (disch := omega) only [wp, Nat.reduceAdd, Nat.reduceMul, Nat.reduceSub, h0, h1, h22, h23, h5, hk1, hg, rl]
      rfl
theorem pairsR_mem {n : Nat} {R : Rw} {p : Int × Int} (h : p ∈ pairsR n R) : 0 ≤ p.1 ∧ p.1 < n ∧ 0 ≤ p.2 ∧ p.2 < n := by
  simp only [pairsR, pairsK, rowPr, List.mem_flatMap, List.mem_map, List.mem_filter, List.mem_range] at h
  obtain ⟨a, ha, b, ⟨hb, _⟩, rfl⟩ := h
  simp only
  omega
theorem pairsK_len (n k : Nat) (R : Rw) : (pairsK n k R).length ≤ k * n := by
  induction k with
  | zero => simp [pairsK]
  | succ k ih =>
    rw [pairsK_succ, List.length_append, Nat.succ_mul]
    have : (rowPr n R k n).length ≤ n := by
      unfold rowPr
      rw [List.length_map]
      exact Nat.le_trans (List.length_filter_le _ _) (by simp)
    omega
theorem pairsR_len {n : Nat} (hn : n ≤ 40) (R : Rw) : (pairsR n R).length ≤ 1600 := by
  have h1 := pairsK_len n n R
  have h2 : n * n ≤ 40 * 40 := Nat.mul_le_mul hn hn
  show (pairsK n n R).length ≤ 1600
  omega
end Go.Ab
end
section
set_option linter.unusedVariables false
set_option linter.unusedSimpArgs false
namespace Go.Ab
def hb (R : Rw) (a b : Nat) : Bool := (R a).getLsbD b
def hN (n : Nat) (R : Rw) (a b : Nat) : Bool := decide (a < n) && decide (b < n) && hb R a b
def Wf (n : Nat) (R : Rw) : Prop := ∀ a b, hb R a b = true → a < n ∧ b < n
theorem has_N (n : Nat) (R : Rw) (a b : Nat) : has n R a b = hN n R a b := by
  unfold has hN hb
  have : decide (0 ≤ (a : Int) ∧ (a : Int) < n ∧ 0 ≤ (b : Int) ∧ (b : Int) < n) = (decide (a < n) && decide (b < n)) := by
    rw [Bool.eq_iff_iff]; simp
  rw [this]; rfl
theorem hN_wf {n : Nat} {R : Rw} (h : Wf n R) (a b : Nat) : hN n R a b = hb R a b := by
  unfold hN
  cases hh : hb R a b with
  | false => simp
  | true => obtain ⟨h1, h2⟩ := h a b hh; simp [h1, h2]
theorem hN_lt {n : Nat} {R : Rw} {a b : Nat} (h : hN n R a b = true) : a < n ∧ b < n := by
  simp [hN] at h; omega
theorem rw_ext {R S : Rw} (h : ∀ a b, b < 64 → hb R a b = hb S a b) : R = S := by
  funext a
  exact BitVec.eq_of_getLsbD_eq fun b hb' => h a b hb'
theorem bit_get {a b : Nat} (ha : a < 64) : (bit a).getLsbD b = decide (b = a) := by
  unfold bit
  rw [BitVec.getLsbD_shiftLeft]
  by_cases h : b = a
  · subst h; simp [ha]
  · by_cases h2 : b < a
    · simp [h, h2]
    · have : b - a ≠ 0 := by omega
      simp [h, h2]
      intro _
      omega
theorem hb_upd (R : Rw) (x : BitVec 64) (c a b : Nat) : hb (upd R c x) a b = if a = c then x.getLsbD b else hb R a b := by
  unfold hb upd; split <;> rfl
theorem hb_zero (a b : Nat) : hb (fun _ => 0) a b = false := by simp [hb]
theorem hb_add {n : Nat} (hn : n ≤ 40) (R : Rw) (p : Int × Int) (a b : Nat) : hb (addR n R p) a b = (hb R a b || (inR n p && decide (p = ((a : Int), (b : Int))))) := by
  unfold addR
  by_cases h : inR n p = true
  · rw [if_pos h, hb_upd, h]
    obtain ⟨x, y⟩ := p
    simp only [inR, decide_eq_true_eq] at h
    by_cases ha : a = x.toNat
    · subst ha
      rw [if_pos rfl, BitVec.getLsbD_or, bit_get (by omega)]
      congr 1
      simp only [Bool.true_and]
      rw [decide_eq_decide]
      simp only [Prod.mk.injEq]
      omega
    · rw [if_neg ha]
      have : ¬ ((x, y) = ((a : Int), (b : Int))) := by simp only [Prod.mk.injEq]; omega
      simp [this]
  · rw [if_neg h]
    simp only [Bool.not_eq_true] at h
    simp [h]
theorem hb_new {n : Nat} (hn : n ≤ 40) (l : List (Int × Int)) (a b : Nat) : hb (newR n l) a b = (decide (a < n) && decide (b < n) && l.any fun p => decide (p = ((a : Int), (b : Int)))) := by
  have key : ∀ (l : List (Int × Int)) (R : Rw), hb (l.foldl (addR n) R) a b = (hb R a b || (decide (a < n) && decide (b < n) && l.any fun p => decide (p = ((a : Int), (b : Int))))) := by
    intro l
    induction l with
    | nil => intro R; simp
    | cons p l ih =>
      intro R
      rw [List.foldl_cons, ih, hb_add hn, List.any_cons]
      by_cases hp : p = ((a : Int), (b : Int))
      · subst hp
        have : inR n ((a : Int), (b : Int)) = (decide (a < n) && decide (b < n)) := by
          unfold inR; rw [Bool.eq_iff_iff]; simp
        rw [this]
        cases hb R a b <;> cases decide (a < n) <;> cases decide (b < n) <;> simp
      · simp [hp]
  unfold newR
  rw [key l, hb_zero]; rfl
theorem wf_new {n : Nat} (hn : n ≤ 40) (l : List (Int × Int)) : Wf n (newR n l) := by
  intro a b h
  rw [hb_new hn] at h
  simp at h; omega
theorem hb_or (R S : Rw) (a b : Nat) : hb (orR R S) a b = (hb R a b || hb S a b) := by simp [hb, orR]
theorem hb_and (R S : Rw) (a b : Nat) : hb (andR R S) a b = (hb R a b && hb S a b) := by simp [hb, andR]
theorem hb_less (R S : Rw) (a b : Nat) : hb (lessR R S) a b = (hb R a b && !hb S a b) := by
  unfold hb lessR
  rw [BitVec.getLsbD_and, BitVec.getLsbD_not]
  by_cases h : b < 64
  · simp [h]
  · simp [BitVec.getLsbD_of_ge (R a) b (by omega)]
theorem wf_or {n : Nat} {R S : Rw} (h : Wf n R) (k : Wf n S) : Wf n (orR R S) := fun a b hh => by
  rw [hb_or, Bool.or_eq_true] at hh; exact hh.elim (h a b) (k a b)
theorem wf_and {n : Nat} {R S : Rw} (h : Wf n R) : Wf n (andR R S) := fun a b hh => by
  rw [hb_and, Bool.and_eq_true] at hh; exact h a b hh.1
theorem wf_less {n : Nat} {R S : Rw} (h : Wf n R) : Wf n (lessR R S) := fun a b hh => by
  rw [hb_less, Bool.and_eq_true] at hh; exact h a b hh.1
theorem noneR_iff {n : Nat} {R : Rw} (hn : n ≤ 40) (h : Wf n R) : noneR R = true ↔ ∀ a b, hb R a b = false := by
  unfold noneR
  rw [List.all_eq_true]
  simp only [List.mem_range, beq_iff_eq]
  constructor
  · intro hh a b
    by_cases ha : a < 40
    · unfold hb; rw [hh a ha]; simp
    · cases hc : hb R a b with
      | false => rfl
      | true => obtain ⟨h1, h2⟩ := h a b hc; omega
  · intro hh a _
    refine BitVec.eq_of_getLsbD_eq fun b _ => ?_
    have := hh a b
    unfold hb at this
    rw [this]; simp
theorem in_iff {n : Nat} {R S : Rw} (hn : n ≤ 40) (h : Wf n R) : noneR (lessR R S) = true ↔ ∀ a b, hb R a b = true → hb S a b = true := by
  rw [noneR_iff hn (wf_less h)]
  simp only [hb_less]
  constructor
  · intro hh a b h1
    have := hh a b
    rw [h1] at this
    simpa using this
  · intro hh a b
    cases h1 : hb R a b with
    | false => rfl
    | true => simp [hh a b h1]
theorem hb_maybeK (R : Rw) (k a b : Nat) (hk : k ≤ 64) : hb (maybeK k R) a b = (hb R a b || (decide (a < k) && decide (b = a))) := by
  induction k with
  | zero => simp [maybeK]
  | succ k ih =>
    rw [maybeK_succ, hb_upd]
    by_cases h : a = k
    · subst h
      rw [if_pos rfl, BitVec.getLsbD_or, bit_get (by omega)]
      have := ih (by omega)
      unfold hb at this ⊢
      rw [this]; simp
    · rw [if_neg h, ih (by omega)]
      have : decide (a < k) = decide (a < k + 1) := by rw [decide_eq_decide]; omega
      rw [this]
theorem wf_maybe {n : Nat} {R : Rw} (hn : n ≤ 40) (h : Wf n R) : Wf n (maybeK n R) := fun a b hh => by
  rw [hb_maybeK _ _ _ _ (by omega)] at hh
  simp at hh
  rcases hh with hh | hh
  · exact h a b hh
  · omega
theorem hb_rowT (n a : Nat) (R S T : Rw) (k : Nat) (x y : Nat) : hb (rowT n a k R S T) x y = (hb T x y || (decide (x = a) && (List.range k).any fun b => hN n R a b && hb S b y)) := by
  induction k with
  | zero => simp [rowT]
  | succ k ih =>
    rw [rowT_succ, stepT, List.range_succ, List.any_append, has_N]
    by_cases hh : hN n R a k = true
    · rw [if_pos hh, hb_upd]
      by_cases hx : x = a
      · subst hx
        rw [if_pos rfl, BitVec.getLsbD_or]
        have := ih
        unfold hb at this ⊢
        rw [this]
        simp [hh, Bool.or_assoc, hb]
      · rw [if_neg hx, ih]; simp [hx]
    · rw [if_neg hh, ih]
      simp [hh]
theorem hb_thenK (n : Nat) (R S : Rw) (k : Nat) (x y : Nat) : hb (thenK n k R S) x y = (decide (x < k) && (List.range n).any fun b => hN n R x b && hb S b y) := by
  induction k with
  | zero => simp [thenK, hb]
  | succ k ih =>
    rw [thenK_succ, hb_rowT, ih]
    by_cases hx : x = k
    · subst hx; simp
    · have : decide (x < k) = decide (x < k + 1) := by rw [decide_eq_decide]; omega
      rw [this]; simp [hx]
theorem hb_then {n : Nat} {R S : Rw} (hR : Wf n R) (a b : Nat) : hb (thenR n R S) a b = true ↔ ∃ c, hb R a c = true ∧ hb S c b = true := by
  unfold thenR
  rw [hb_thenK]
  simp only [Bool.and_eq_true, decide_eq_true_eq, List.any_eq_true, List.mem_range, hN_wf hR]
  constructor
  · rintro ⟨_, c, _, h1, h2⟩; exact ⟨c, h1, h2⟩
  · rintro ⟨c, h1, h2⟩; obtain ⟨h3, h4⟩ := hR a c h1; exact ⟨h3, c, h4, h1, h2⟩
theorem wf_then {n : Nat} {R S : Rw} (hR : Wf n R) (hS : Wf n S) : Wf n (thenR n R S) := fun a b h => by
  obtain ⟨c, h1, h2⟩ := (hb_then hR a b).1 h
  exact ⟨(hR a c h1).1, (hS c b h2).2⟩
theorem mem_pairsR {n : Nat} {R : Rw} {p : Int × Int} : p ∈ pairsR n R ↔ ∃ a b : Nat, p = ((a : Int), (b : Int)) ∧ hN n R a b = true := by
  simp only [pairsR, pairsK, rowPr, List.mem_flatMap, List.mem_map, List.mem_filter, List.mem_range]
  constructor
  · rintro ⟨a, ha, b, ⟨hb, hh⟩, rfl⟩
    exact ⟨a, b, rfl, by rw [← has_N]; exact hh⟩
  · rintro ⟨a, b, rfl, hh⟩
    obtain ⟨h1, h2⟩ := hN_lt hh
    exact ⟨a, h1, b, ⟨h2, by rw [has_N]; exact hh⟩, rfl⟩
inductive Thru (r : Nat → Nat → Prop) (k : Nat) : Nat → Nat → Prop
  | one {a b} : r a b → Thru r k a b
  | join {a c b} : c < k → Thru r k a c → Thru r k c b → Thru r k a b
theorem Thru.mono {r : Nat → Nat → Prop} {k k' : Nat} (h : k ≤ k') {a b : Nat} (t : Thru r k a b) : Thru r k' a b := by
  induction t with
  | one h => exact .one h
  | join hc _ _ ih1 ih2 => exact .join (by omega) ih1 ih2
theorem hb_rowP {n b : Nat} (hb' : b < n) (R : Rw) (hR : Wf n R) (k : Nat) (hk : k ≤ n) (x y : Nat) : hb (rowP n b k R) x y = (hb R x y || (decide (x < k) && hb R x b && hb R b y)) := by
  induction k generalizing x y with
  | zero => simp [rowP]
  | succ k ih =>
    have ih := fun x y => ih (by omega) x y
    have hwf : Wf n (rowP n b k R) := fun x y h => by
      rw [ih] at h
      simp at h
      rcases h with h | ⟨⟨_, h1⟩, h2⟩
      · exact hR x y h
      · exact ⟨(hR x b h1).1, (hR b y h2).2⟩
    have hrow : rowP n b k R b = R b := by
      refine BitVec.eq_of_getLsbD_eq fun y _ => ?_
      have := ih b y
      unfold hb at this
      rw [this]
      cases (R b).getLsbD y <;> cases (R b).getLsbD b <;> simp
    rw [rowP_succ, stepP, has_N, hN_wf hwf, ih k b]
    have hkb : (hb R k b || (decide (k < k) && hb R k b && hb R b b)) = hb R k b := by simp
    rw [hkb]
    by_cases hh : hb R k b = true
    · rw [if_pos hh, hb_upd]
      by_cases hx : x = k
      · subst hx
        rw [if_pos rfl, BitVec.getLsbD_or, hrow]
        have := ih x y
        unfold hb at this hh ⊢
        rw [this]
        simp [hh]
      · rw [if_neg hx, ih]
        have : decide (x < k) = decide (x < k + 1) := by rw [decide_eq_decide]; omega
        rw [this]
    · rw [if_neg hh, ih]
      by_cases hx : x = k
      · subst hx; simp [hh]
      · have : decide (x < k) = decide (x < k + 1) := by rw [decide_eq_decide]; omega
        rw [this]
theorem wf_plusK {n : Nat} {R : Rw} (hR : Wf n R) : ∀ k, k ≤ n → Wf n (plusK n k R)
  | 0, _ => hR
  | k + 1, h => fun x y hh => by
    have ih := wf_plusK hR k (by omega)
    rw [plusK_succ, hb_rowP (by omega) _ ih n (Nat.le_refl _)] at hh
    simp at hh
    rcases hh with hh | ⟨⟨h0, h1⟩, h2⟩
    · exact ih x y hh
    · exact ⟨h0, (ih k y h2).2⟩
theorem wf_plus {n : Nat} {R : Rw} (hR : Wf n R) : Wf n (plusR n R) := wf_plusK hR n (Nat.le_refl _)
inductive Steps' (r : Nat → Nat → Prop) : Nat → Nat → Prop
  | one {a b} : r a b → Steps' r a b
  | join {a c b} : Steps' r a c → Steps' r c b → Steps' r a b
end Go.Ab
end
section
set_option linter.unusedVariables false
set_option linter.unusedSimpArgs false
namespace Go.Ab
variable {F : Funs}
def place (v n : Int) : Int := v % n
end Go.Ab
end
section
set_option linter.unusedVariables false
set_option linter.unusedSimpArgs false
namespace Go.Ab
variable {F : Funs}
theorem rowPr_none {n : Nat} {R : Rw} {a : Nat} (h : ∀ b, ¬ hN n R a b = true) : (rowPr n R a n).length = 0 := by
  unfold rowPr
  rw [List.filter_eq_nil_iff.2 fun b _ => by rw [has_N]; exact h b]; rfl
end Go.Ab
end
section
set_option linter.unusedVariables false
set_option linter.unusedSimpArgs false
namespace Go.Ab
variable {F : Funs}
theorem pairsK_zero {n : Nat} {R : Rw} : ∀ k, (∀ a, a < k → (rowPr n R a n).length = 0) → (pairsK n k R).length = 0
  | 0, _ => by simp [pairsK]
  | k + 1, h => by rw [pairsK_succ, List.length_append, pairsK_zero k (fun a ha => h a (by omega)), h k (by omega)]
theorem pairs_none {k : Nat} {R : Rw} (h : ∀ a b, hb R a b = false) : (((pairsR k R).length : Int) == 0) = true := by
  have : (pairsR k R).length = 0 := by
    refine pairsK_zero k fun x _ => rowPr_none fun y => ?_
    unfold hN; rw [h]; simp
  rw [this]; rfl
end Go.Ab
end
section
set_option linter.unusedVariables false
set_option linter.unusedSimpArgs false
namespace Go.Ab
variable {F : Funs}
theorem ints_part {l : List Int} {k : Nat} (h : k < l.length) : part ((intsC l).drop (k * 1)) 0 none = some (.i .i64 (l.getD k 0)) := by
  simp only [part, intsC, List.getElem?_drop, Nat.mul_one, Nat.add_zero, List.getElem?_map, List.getElem?_eq_getElem h, Option.map_some, List.getD_eq_getElem?_getD, Option.getD_some]
theorem Steps'.mono {r s : Nat → Nat → Prop} (h : ∀ a b, r a b → s a b) {a b : Nat} (t : Steps' r a b) : Steps' s a b := by
  induction t with
  | one h' => exact .one (h _ _ h')
  | join _ _ i1 i2 => exact .join i1 i2
theorem Steps'.first {r : Nat → Nat → Prop} {a b : Nat} (t : Steps' r a b) : r a b ∨ ∃ c, r a c ∧ Steps' r c b := by
  induction t with
  | one h => exact .inl h
  | @join a c b t1 t2 i1 i2 =>
    rcases i1 with h | ⟨d, h1, h2⟩
    · exact .inr ⟨c, h, t2⟩
    · exact .inr ⟨d, h1, .join h2 t2⟩
end Go.Ab
end
section
set_option linter.unusedVariables false
set_option linter.unusedSimpArgs false
namespace Go.Ab
noncomputable def thawS (F : Funs) (f : Nat) (asx : List AV) : Option (List AV) := match callS F f asx g0 with
  | some (.mp b 0, g) => match g.hp b with
    | some (.cells cs false) => if cs.all flat then some cs else none
    | _ => none
  | _ => none
noncomputable def vThaw (F : Funs) (al : Nat → Bool) (id : Nat) (f : AV) (args : List AV) (g : G) : Option (AV × G) := vCall (callS F) al id .thaw f args g
theorem o_thaw {F : Funs} {al lo id e g} (f : Opd) (asx : List Opd) : opE (callS F) al lo id (.call .thaw f asx) e g = vThaw F al id (f.ev e) (asx.map (·.ev e)) g := rfl
theorem vis_flat {hp : Nat → Option Blk} {d : Nat} {v : AV} (h : flat v = true) : vis hp (d + 1) v = [] := by cases v <;> first | (cases h; done) | simp only [vis]
theorem vThaw_ok {F : Funs} {al : Nat → Bool} {id fid : Nat} {fst caps args bs cs : List AV} {g : G} (h1 : frzL (rd g al) depth (fst ++ args ++ caps) = some bs) (h2 : thawS F fid bs = some cs) (h3 : ((fst ++ args ++ caps).flatMap (vis (rd g al) depth)).isEmpty = true) :
    vThaw F al id (.fn fid fst caps) args g = some (.mp id 0, ⟨upd g.hp id (some (.cells cs false)), g.nx⟩) := by
  unfold thawS at h2
  split at h2
  · rename_i b g' hc
    split at h2
    · rename_i cs0 hb
      split at h2
      · rename_i hf
        cases h2
        have hc' : callS F fid bs ⟨fun _ => none, 0⟩ = some (.mp b 0, g') := hc
        have hfz : frzL g'.hp depth cs = some cs := frzL_flat (d := 8) hf
        have hv : cs.flatMap (vis g'.hp depth) = [] := by
          rw [List.flatMap_eq_nil_iff]
          intro v hv
          exact vis_flat (d := 8) (List.all_eq_true.1 hf v hv)
        unfold vThaw vCall
        simp only [h1, hc', hb, hfz, h3, hv]
        simp
      · cases h2
    · cases h2
  · cases h2
def retT (rs : List ARes) (cs : List AV) : Out → Env → G → Prop
  | .ext _, _, _ => False
  | _, e, g => ∃ b, resE rs e g = some (.mp b 0) ∧ g.hp b = some (.cells cs false)
theorem retT_nrm {rs cs e g} : retT rs cs .nrm e g = (∃ b, resE rs e g = some (.mp b 0) ∧ g.hp b = some (.cells cs false)) := rfl
theorem retT_ret {rs cs e g} : retT rs cs .ret e g = (∃ b, resE rs e g = some (.mp b 0) ∧ g.hp b = some (.cells cs false)) := rfl
section
variable {F : Funs}
theorem retT_call {f : Nat} {fn : AFun} {asx cs : List AV} (hF : F f = some fn) (h : W F fn.body (argEnv asx) g0 (retT fn.res cs)) : ∃ b g, callS F f asx g0 = some (.mp b 0, g) ∧ g.hp b = some (.cells cs false) := by
  obtain ⟨o, e, g, h1, h2⟩ := h
  rw [callS_eq, hF]
  simp only [h1]
  cases o with
  | ext n => exact h2.elim
  | nrm =>
    obtain ⟨b, h3, h4⟩ := h2
    exact ⟨b, g, by simp only [h3, Option.map_some], h4⟩
  | ret =>
    obtain ⟨b, h3, h4⟩ := h2
    exact ⟨b, g, by simp only [h3, Option.map_some], h4⟩
theorem thaw_of {f : Nat} {fn : AFun} {asx cs : List AV} (hF : F f = some fn) (hf : cs.all flat = true) (h : W F fn.body (argEnv asx) g0 (retT fn.res cs)) : thawS F f asx = some cs := by
  obtain ⟨b, g, h1, h2⟩ := retT_call hF h
  unfold thawS
  rw [h1]
  simp only [h2, hf, if_true]
theorem pure_of_thaw {f : Nat} {fn : AFun} {asx cs : List AV} (hF : F f = some fn) (hf : cs.all flat = true) (h : W F fn.body (argEnv asx) g0 (retT fn.res cs)) : pureS F f asx = some (.ptr cs) := by
  obtain ⟨b, g, h1, h2⟩ := retT_call hF h
  unfold pureS
  rw [h1]
  exact frz_d_mp h2 (frzL_flat hf)
end
theorem vThaw_S {F : Funs} {al : Nat → Bool} {id fid : Nat} {args : List AV} {g : G} {bs cs : List AV} (h1 : frzL (rd g al) depth args = some bs) (h2 : thawS F fid bs = some cs) (h3 : (args.flatMap (vis (rd g al) depth)) = []) :
    vThaw F al id (.fn fid [] []) args g = some (.mp id 0, ⟨upd g.hp id (some (.cells cs false)), g.nx⟩) :=
  vThaw_ok (by rw [List.nil_append, List.append_nil]; exact h1) h2 (by rw [List.nil_append, List.append_nil, h3]; rfl)
end Go.Ab
end
section
set_option linter.unusedVariables false
set_option linter.unusedSimpArgs false
namespace Go.Ab
noncomputable def vRaw (F : Funs) (al : Nat → Bool) (id : Nat) (f : AV) (args : List AV) (g : G) : Option (AV × G) := vCall (callS F) al id .raw f args g
theorem o_raw {F : Funs} {al lo id e g} (f : Opd) (asx : List Opd) : opE (callS F) al lo id (.call .raw f asx) e g = vRaw F al id (f.ev e) (asx.map (·.ev e)) g := rfl
theorem vRaw_fn {F : Funs} {al id fid fst caps args g} : vRaw F al id (.fn fid fst caps) args g = callS F fid (fst ++ args ++ caps) g := rfl
theorem bindO_call {F : Funs} {d b j dst os e K fid asx g} (P : AV → G → Prop) (h : ∃ v g', callS F fid asx g = some (v, g') ∧ P v g') (hk : ∀ v g', P v g' → WR F d b j os (put e dst v) g' K) : bindO F d b j dst os e K (callS F fid asx g) := by
  obtain ⟨v, g', h1, h2⟩ := h
  rw [h1]
  exact hk v g' h2
def retP (rs : List ARes) (P : AV → G → Prop) : Out → Env → G → Prop
  | .ext _, _, _ => False
  | _, e, g => ∃ v, resE rs e g = some v ∧ P v g
theorem retP_nrm {rs P e g} : retP rs P .nrm e g = (∃ v, resE rs e g = some v ∧ P v g) := rfl
theorem retP_ret {rs P e g} : retP rs P .ret e g = (∃ v, resE rs e g = some v ∧ P v g) := rfl
theorem raw_of {F : Funs} {f : Nat} {fn : AFun} {asx : List AV} {g : G} {P : AV → G → Prop} (hF : F f = some fn) (h : W F fn.body (argEnv asx) g (retP fn.res P)) : ∃ v g', callS F f asx g = some (v, g') ∧ P v g' := by
  obtain ⟨o, e, g', h1, h2⟩ := h
  rw [callS_eq, hF]
  simp only [h1]
  cases o with
  | ext n => exact h2.elim
  | nrm =>
    obtain ⟨v, h3, h4⟩ := h2
    exact ⟨v, g', by simp only [h3, Option.map_some], h4⟩
  | ret =>
    obtain ⟨v, h3, h4⟩ := h2
    exact ⟨v, g', by simp only [h3, Option.map_some], h4⟩
theorem res_0 (e g) : resE [] e g = some (.tup []) := rfl
def mgS (k : ByteArray) (g : G) : Option Blk → Option (AV × G)
  | some (.map es) => vMap g (mlook es k)
  | _ => none
theorem o_mget {c : CS} {al : Nat → Bool} {lo id : Nat} {e : Env} {g : G} (m k) : opE c al lo id (.mget m k) e g = vMget al (m.ev e) (k.ev e) g := rfl
theorem vMget_S {al : Nat → Bool} {g : G} (b k) : vMget al (.mm b) (.s k) g = mgS k g (selB (al b) (g.hp b)) := by
  simp only [vMget, rd_S]
  cases selB (al b) (g.hp b) with
  | none => rfl
  | some bl => cases bl <;> rfl
theorem mgS_map (k g es) : mgS k g (some (.map es)) = vMap g (mlook es k) := rfl
theorem o_mkmap {c : CS} {al : Nat → Bool} {lo id : Nat} {e : Env} {g : G} : opE c al lo id .mkmap e g = some (.mm id, ⟨upd g.hp id (some (.map [])), g.nx⟩) := rfl
theorem o_mput {c : CS} {al : Nat → Bool} {lo id : Nat} {e : Env} {g : G} (m k v) : opE c al lo id (.mput m k v) e g = vMput al (m.ev e) (k.ev e) (v.ev e) g := rfl
def mpO (b : Nat) (k : ByteArray) (v : AV) (es : List (AV × AV)) (g : G) (x : Bool) : Option AV → Option (AV × G)
  | none => if x then some (.undef, ⟨upd g.hp b (some (.map (es ++ [(.s k, v)]))), g.nx⟩) else none
  | some _ => none
def mpS (b : Nat) (k : ByteArray) (v : AV) (g : G) (x : Bool) : Option Blk → Option (AV × G)
  | some (.map es) => mpO b k v es g x (mlook es k)
  | _ => none
theorem vMput_S {al : Nat → Bool} {g : G} (b k v) : vMput al (.mm b) (.s k) v g = mpS b k v g (one v) (selB (al b) (g.hp b)) := by
  simp only [vMput, rd_S]
  cases selB (al b) (g.hp b) with
  | none => rfl
  | some bl =>
    cases bl with
    | map es => simp only [mpS]; cases mlook es k <;> rfl
    | cells _ _ => rfl
    | tok _ => rfl
theorem mpS_map (b k v g x es) : mpS b k v g x (some (.map es)) = mpO b k v es g x (mlook es k) := rfl
theorem mpO_none (b k v es g) : mpO b k v es g true none = some (.undef, ⟨upd g.hp b (some (.map (es ++ [(.s k, v)]))), g.nx⟩) := rfl
theorem frz_d_agg {hp cs ds} (h : frzL hp 8 cs = some ds) : frz hp depth (.agg cs) = some (.agg ds) := by
  show frz hp (8 + 1) _ = _
  simp only [frz, h, Option.map_some]
end Go.Ab
end
section
set_option linter.unusedVariables false
set_option linter.unusedSimpArgs false
namespace Go.Ab
structure Ev where
  th : Int
  kd : Int
  md : Int
  lc : Int
  vl : Int
  ex : Bool
structure Gr where
  locs : Int
  evs : List Ev
  rf : List Int
  co : List (List Int)
  rmw : List (Int × Int)
  data : List (Int × Int)
  ctrl : List (Int × Int)
  ctrli : List (Int × Int)
def ev0 : Ev := ⟨0, 0, 0, 0, 0, false⟩
def evC (e : Ev) : List AV := [.i .i64 e.th, .i .i64 e.kd, .i .i64 e.md, .i .i64 e.lc, .i .i64 e.vl, .b e.ex]
def evsC (l : List Ev) : List AV := l.flatMap evC
def coC (l : List (List Int)) : List AV := l.map fun c => .sl (intsC c) c.length .non
def grC (g : Gr) : List AV := [.i .i64 g.locs, .sl (evsC g.evs) g.evs.length .non, .sl (intsC g.rf) g.rf.length .non, .sl (coC g.co) g.co.length .non,
  .sl (pairsC g.rmw) g.rmw.length .non, .sl (pairsC g.data) g.data.length .non, .sl (pairsC g.ctrl) g.ctrl.length .non, .sl (pairsC g.ctrli) g.ctrli.length .non]
theorem evsC_len (l : List Ev) : (evsC l).length = l.length * 6 := by
  induction l with
  | nil => rfl
  | cons p l ih => simp only [evsC, List.flatMap_cons, List.length_append, List.length_cons, evC, List.length_nil] at ih ⊢; omega
theorem ev_part : ∀ {l : List Ev} {k : Nat} (h : k < l.length), part ((evsC l).drop (k * 6)) 0 (some 6) = some (.agg (evC (l.getD k ev0)))
  | p :: l, 0, _ => by simp [evsC, part, evC]
  | p :: l, k + 1, h => by
    have := ev_part (l := l) (k := k) (by simpa using h)
    simp only [List.getD_cons_succ]
    rw [← this]
    simp [evsC, Nat.succ_mul, evC]
theorem coC_len (l : List (List Int)) : (coC l).length = l.length := by simp [coC]
theorem co_part {l : List (List Int)} {k : Nat} (h : k < l.length) : part ((coC l).drop (k * 1)) 0 none = some (.sl (intsC (l.getD k [])) (l.getD k []).length .non) := by
  simp only [part, coC, List.getElem?_drop, Nat.mul_one, Nat.add_zero, List.getElem?_map, List.getElem?_eq_getElem h, Option.map_some, List.getD_eq_getElem?_getD, Option.getD_some]
theorem splice_ev (e : Ev) : splice (List.replicate 5 (AV.i .i64 0) ++ [.b false]) 0 (evC e) = evC e := rfl
theorem part_22 (a b : AV) : part [a, b] 0 (some 2) = some (.agg [a, b]) := rfl
theorem evC_len (e : Ev) : (evC e).length = 6 := rfl
theorem evC_one (e : Ev) : (evC e).all one = true := rfl
theorem evC_flat (e : Ev) : (evC e).all flat = true := rfl
theorem evC_all (e : Ev) : part (evC e) 0 (some 6) = some (.agg (evC e)) := rfl
theorem ev_th (e : Ev) : part (evC e) 0 none = some (.i .i64 e.th) := rfl
theorem ev_kd (e : Ev) : part (evC e) 1 none = some (.i .i64 e.kd) := rfl
theorem ev_md (e : Ev) : part (evC e) 2 none = some (.i .i64 e.md) := rfl
theorem ev_lc (e : Ev) : part (evC e) 3 none = some (.i .i64 e.lc) := rfl
theorem ev_vl (e : Ev) : part (evC e) 4 none = some (.i .i64 e.vl) := rfl
theorem ev_ex (e : Ev) : part (evC e) 5 none = some (.b e.ex) := rfl
theorem grC_len (g : Gr) : (grC g).length = 8 := rfl
theorem grC_one (g : Gr) : (grC g).all one = true := rfl
theorem grC_all (g : Gr) : part (grC g) 0 (some 8) = some (.agg (grC g)) := rfl
theorem gr_locs (g : Gr) : part (grC g) 0 none = some (.i .i64 g.locs) := rfl
theorem gr_evs (g : Gr) : part (grC g) 1 none = some (.sl (evsC g.evs) g.evs.length .non) := rfl
theorem gr_rf (g : Gr) : part (grC g) 2 none = some (.sl (intsC g.rf) g.rf.length .non) := rfl
theorem gr_co (g : Gr) : part (grC g) 3 none = some (.sl (coC g.co) g.co.length .non) := rfl
theorem gr_rmw (g : Gr) : part (grC g) 4 none = some (.sl (pairsC g.rmw) g.rmw.length .non) := rfl
theorem gr_data (g : Gr) : part (grC g) 5 none = some (.sl (pairsC g.data) g.data.length .non) := rfl
theorem gr_ctrl (g : Gr) : part (grC g) 6 none = some (.sl (pairsC g.ctrl) g.ctrl.length .non) := rfl
theorem gr_ctrli (g : Gr) : part (grC g) 7 none = some (.sl (pairsC g.ctrli) g.ctrli.length .non) := rfl
theorem frz_gr (hp) (g : Gr) : frz hp depth (.agg (grC g)) = some (.agg (grC g)) := by
  refine frz_d_agg ?_
  show frzL hp (7 + 1) _ = _
  simp only [grC, frzL, frz]
theorem frz_ev (hp) (e : Ev) : frz hp depth (.agg (evC e)) = some (.agg (evC e)) := frz_d_agg (frzL_flat (d := 7) (evC_flat e))
theorem vis_gr (hp) (g : Gr) : vis hp depth (.agg (grC g)) = [] := by
  show vis hp (8 + 1) _ = _
  simp only [vis, grC, List.flatMap_cons, List.flatMap_nil, List.nil_append, List.append_nil]
theorem vis_ev (hp) (e : Ev) : vis hp depth (.agg (evC e)) = [] := by
  show vis hp (8 + 1) _ = _
  simp only [vis, evC, List.flatMap_cons, List.flatMap_nil, List.nil_append, List.append_nil]
set_option maxRecDepth 10000 in
theorem gl : type_of% (And.intro (And.intro (And.intro (And.intro (And.intro @evC_len @evC_one) (And.intro @evC_flat (And.intro @evC_all @ev_th))) (And.intro (And.intro @ev_kd @ev_md) (And.intro @ev_lc (And.intro @ev_vl @ev_ex)))) (And.intro (And.intro (And.intro @grC_len @grC_one) (And.intro @grC_all (And.intro @gr_locs @gr_evs))) (And.intro (And.intro @gr_rf (And.intro @gr_co @gr_rmw)) (And.intro @gr_data (And.intro @gr_ctrl @gr_ctrli))))) (And.intro (And.intro (And.intro (And.intro @frz_gr @frz_ev) (And.intro @vis_gr (And.intro @vis_ev @splice_ev))) (And.intro (And.intro @evsC_len @coC_len) (And.intro @o_raw (And.intro @vRaw_fn @res_0)))) (And.intro (And.intro (And.intro @retP_nrm @retP_ret) (And.intro @o_mget (And.intro @vMget_S @mgS_map))) (And.intro (And.intro @o_mkmap (And.intro @o_mput @vMput_S)) (And.intro @mpS_map (And.intro @mpO_none @part_22)))))) := (And.intro (And.intro (And.intro (And.intro (And.intro @evC_len @evC_one) (And.intro @evC_flat (And.intro @evC_all @ev_th))) (And.intro (And.intro @ev_kd @ev_md) (And.intro @ev_lc (And.intro @ev_vl @ev_ex)))) (And.intro (And.intro (And.intro @grC_len @grC_one) (And.intro @grC_all (And.intro @gr_locs @gr_evs))) (And.intro (And.intro @gr_rf (And.intro @gr_co @gr_rmw)) (And.intro @gr_data (And.intro @gr_ctrl @gr_ctrli))))) (And.intro (And.intro (And.intro (And.intro @frz_gr @frz_ev) (And.intro @vis_gr (And.intro @vis_ev @splice_ev))) (And.intro (And.intro @evsC_len @coC_len) (And.intro @o_raw (And.intro @vRaw_fn @res_0)))) (And.intro (And.intro (And.intro @retP_nrm @retP_ret) (And.intro @o_mget (And.intro @vMget_S @mgS_map))) (And.intro (And.intro @o_mkmap (And.intro @o_mput @vMput_S)) (And.intro @mpS_map (And.intro @mpO_none @part_22))))))
end Go.Ab
end
