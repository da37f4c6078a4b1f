/- What PowerCoherent rests on, part 4: lemmas, no claim of its own. -/
import Derived.Test.YtgfjjohnfbhjcaaPPowerCoherent3
section
namespace Go.Ab
def A_order_Bob : AFun := { res := [.t 2], body := (.seq (.reg false [{ dst := some 1, op := .boxI (.t 0) },
  { dst := some 2, op := .mv (.c (.nilp)) }])
 (.seq (.reg false [{ dst := some 4, op := .ld (some 8) (.t 1) },
  { dst := some 5, op := .call .pure (.c (.fn 60 [] [])) [.t 4] },
  { dst := some 3, op := .new ([.nilp]) },
  { dst := none, op := .st 1 (.t 3) (.t 5) }])
 (.seq (.imm 3 (.reg false [{ dst := some 6, op := .ld (some 8) (.t 1) },
  { dst := some 7, op := .mkfn 194 [] [.t 3, .t 1] },
  { dst := some 8, op := .mkfn 197 [] [.t 1, .t 3] },
  { dst := some 9, op := .mkfn 199 [] [.t 3, .t 1] },
  { dst := some 10, op := .mkfn 201 [] [.t 1, .t 3] },
  { dst := some 11, op := .mkfn 202 [] [.t 1] },
  { dst := some 12, op := .bsl true 5 (List.replicate 5 (.nilf)) [(0, 1, .t 7), (1, 1, .t 8), (2, 1, .t 9), (3, 1, .t 10), (4, 1, .t 11)] },
  { dst := some 13, op := .call .pure (.c (.fn 193 [] [])) [.t 6, .t 12] },
  { dst := some 2, op := .mv (.t 13) }]))
 .ret))) }
def A_order_Ar : AFun := { res := [.t 2], body := (.seq (.reg false [{ dst := some 1, op := .boxI (.t 0) },
  { dst := some 2, op := .mv (.c (.nilp)) }])
 (.seq (.reg false [{ dst := some 3, op := .ld (some 8) (.t 1) },
  { dst := some 4, op := .mkfn 204 [] [.t 1] },
  { dst := some 5, op := .mkfn 205 [] [.t 1] },
  { dst := some 6, op := .mkfn 206 [] [.t 1] },
  { dst := some 7, op := .mkfn 208 [] [.t 1] },
  { dst := some 8, op := .mkfn 210 [] [.t 1] },
  { dst := some 9, op := .bsl true 5 (List.replicate 5 (.nilf)) [(0, 1, .t 4), (1, 1, .t 5), (2, 1, .t 6), (3, 1, .t 7), (4, 1, .t 8)] },
  { dst := some 10, op := .call .pure (.c (.fn 193 [] [])) [.t 3, .t 9] },
  { dst := some 2, op := .mv (.t 10) }])
 .ret)) }
def A_order_all : AFun := { res := [.t 4], body := (.seq (.reg false [{ dst := some 2, op := .box (.t 0) },
  { dst := some 4, op := .mv (.c (.nilp)) }])
 (.seq (.reg false [{ dst := some 8, op := .fa 1 (.t 2) },
  { dst := some 9, op := .ld none (.t 8) },
  { dst := some 10, op := .len (.t 9) },
  { dst := some 11, op := .call .pure (.c (.fn 11 [] [])) [.t 10, .c (.sl [] 0 .rig)] },
  { dst := some 5, op := .mv (.t 11) }])
 (.seq (.seq (.reg false [{ dst := some 12, op := .mv (.t 1) },
  { dst := some 13, op := .len (.t 12) },
  { dst := some 14, op := .mv (.c (.i .i64 0)) }])
 (.blk 0 (.loop (.seq (.reg false [{ dst := some 15, op := .bin .lss (.t 14) (.t 13) }])
 (.seq (.cond (.t 15) .skip
 (.ext 0))
 (.seq (.blk 1 (.seq (.reg false [{ dst := some 16, op := .ia 1 (.t 12) (.t 14) },
  { dst := some 17, op := .ld none (.t 16) },
  { dst := some 7, op := .mv (.t 17) }])
 (.reg false [{ dst := some 18, op := .mv (.t 5) },
  { dst := some 19, op := .mv (.t 7) },
  { dst := some 20, op := .call .pure (.t 19) [] },
  { dst := some 21, op := .call .pure (.c (.fn 24 [] [])) [.t 18, .t 20] },
  { dst := some 5, op := .mv (.t 21) }])))
 (.reg false [{ dst := some 22, op := .bin .add (.t 14) (.c (.i .i64 1)) },
  { dst := some 14, op := .mv (.t 22) }])))))))
 (.seq (.reg false [{ dst := some 23, op := .mv (.t 5) },
  { dst := some 4, op := .mv (.t 23) }])
 .ret)))) }
def A_order_Bob_1 : AFun := { res := [.t 2], body := (.seq (.reg false [{ dst := some 2, op := .mv (.c (.nilp)) }])
 (.seq (.reg true [{ dst := some 3, op := .ld none (.t 0), pre := [] },
  { dst := some 4, op := .ld (some 8) (.t 1), pre := [] },
  { dst := some 5, op := .call .pure (.c (.fn 195 [] [])) [.t 4, .c (.fn 196 [] [])], pre := [] },
  { dst := some 6, op := .call .pure (.c (.fn 23 [] [])) [.t 3, .t 5], pre := [] },
  { dst := some 2, op := .mv (.t 6) }])
 .ret)) }
def A_order_set : AFun := { res := [.t 4], body := (.seq (.reg false [{ dst := some 2, op := .box (.t 0) },
  { dst := some 4, op := .mv (.c (.nilp)) }])
 (.seq (.reg false [{ dst := some 5, op := .ld (some 8) (.t 2) },
  { dst := some 6, op := .mv (.t 1) },
  { dst := some 7, op := .call .pure (.c (.fn 166 [] [])) [.t 5, .t 6] },
  { dst := some 4, op := .mv (.t 7) }])
 .ret)) }
def A_order_isRel : AFun := { res := [.t 2], body := (.seq (.reg false [{ dst := some 1, op := .box (.t 0) },
  { dst := some 2, op := .mv (.c (.b false)) }])
 (.seq (.reg false [{ dst := some 3, op := .ld (some 6) (.t 1) },
  { dst := some 4, op := .call .pure (.c (.fn 203 [] [])) [.t 3] },
  { dst := some 5, op := .mv (.t 4) },
  { dst := some 6, op := .fa 2 (.t 1), grd := some (5, true) },
  { dst := some 7, op := .ld none (.t 6), grd := some (5, true) },
  { dst := some 8, op := .bin .eql (.t 7) (.c (.i .i64 2)), grd := some (5, true) },
  { dst := some 9, op := .pick (.t 5) (.t 8) (.c (.b false)) },
  { dst := some 2, op := .mv (.t 9) }])
 .ret)) }
def A_order_Bob_2 : AFun := { res := [.t 2], body := (.seq (.reg false [{ dst := some 2, op := .mv (.c (.nilp)) }])
 (.seq (.reg true [{ dst := some 3, op := .ld (some 8) (.t 0), pre := [] },
  { dst := some 4, op := .call .pure (.c (.fn 195 [] [])) [.t 3, .c (.fn 198 [] [])], pre := [] },
  { dst := some 5, op := .ld none (.t 1), pre := [] },
  { dst := some 6, op := .call .pure (.c (.fn 23 [] [])) [.t 4, .t 5], pre := [] },
  { dst := some 2, op := .mv (.t 6) }])
 .ret)) }
def A_order_isAcq : AFun := { res := [.t 2], body := (.seq (.reg false [{ dst := some 1, op := .box (.t 0) },
  { dst := some 2, op := .mv (.c (.b false)) }])
 (.seq (.reg false [{ dst := some 3, op := .ld (some 6) (.t 1) },
  { dst := some 4, op := .call .pure (.c (.fn 240 [] [])) [.t 3] },
  { dst := some 5, op := .mv (.t 4) },
  { dst := some 6, op := .fa 2 (.t 1), grd := some (5, true) },
  { dst := some 7, op := .ld none (.t 6), grd := some (5, true) },
  { dst := some 8, op := .bin .eql (.t 7) (.c (.i .i64 1)), grd := some (5, true) },
  { dst := some 9, op := .pick (.t 5) (.t 8) (.c (.b false)) },
  { dst := some 2, op := .mv (.t 9) }])
 .ret)) }
def A_order_Bob_3 : AFun := { res := [.t 2], body := (.seq (.reg false [{ dst := some 2, op := .mv (.c (.nilp)) }])
 (.seq (.reg true [{ dst := some 3, op := .ld none (.t 0), pre := [] },
  { dst := some 4, op := .ld (some 8) (.t 1), pre := [] },
  { dst := some 5, op := .call .pure (.c (.fn 195 [] [])) [.t 4, .c (.fn 200 [] [])], pre := [] },
  { dst := some 6, op := .call .pure (.c (.fn 23 [] [])) [.t 3, .t 5], pre := [] },
  { dst := some 2, op := .mv (.t 6) }])
 .ret)) }
def A_order_isF : AFun := { res := [.t 2], body := (.seq (.reg false [{ dst := some 1, op := .box (.t 0) },
  { dst := some 2, op := .mv (.c (.b false)) }])
 (.seq (.reg false [{ dst := some 3, op := .fa 1 (.t 1) },
  { dst := some 4, op := .ld none (.t 3) },
  { dst := some 5, op := .bin .eql (.t 4) (.c (.i .i64 3)) },
  { dst := some 2, op := .mv (.t 5) }])
 .ret)) }
def A_order_Bob_4 : AFun := { res := [.t 2], body := (.seq (.reg false [{ dst := some 2, op := .mv (.c (.nilp)) }])
 (.seq (.reg true [{ dst := some 3, op := .ld (some 8) (.t 0), pre := [] },
  { dst := some 4, op := .call .pure (.c (.fn 195 [] [])) [.t 3, .c (.fn 200 [] [])], pre := [] },
  { dst := some 5, op := .ld none (.t 1), pre := [] },
  { dst := some 6, op := .call .pure (.c (.fn 23 [] [])) [.t 4, .t 5], pre := [] },
  { dst := some 2, op := .mv (.t 6) }])
 .ret)) }
def A_order_Bob_5 : AFun := { res := [.t 1], body := (.seq (.reg false [{ dst := some 1, op := .mv (.c (.nilp)) }])
 (.seq (.reg true [{ dst := some 2, op := .ld (some 8) (.t 0), pre := [] },
  { dst := some 3, op := .call .pure (.c (.fn 195 [] [])) [.t 2, .c (.fn 196 [] [])], pre := [] },
  { dst := some 4, op := .ld (some 8) (.t 0), pre := [] },
  { dst := some 5, op := .call .pure (.c (.fn 41 [] [])) [.t 4], pre := [] },
  { dst := some 6, op := .call .pure (.c (.fn 23 [] [])) [.t 3, .t 5], pre := [] },
  { dst := some 7, op := .ld (some 8) (.t 0), pre := [] },
  { dst := some 8, op := .call .pure (.c (.fn 195 [] [])) [.t 7, .c (.fn 203 [] [])], pre := [] },
  { dst := some 9, op := .call .pure (.c (.fn 23 [] [])) [.t 6, .t 8], pre := [] },
  { dst := some 1, op := .mv (.t 9) }])
 .ret)) }
def A_order_isW : AFun := { res := [.t 2], body := (.seq (.reg false [{ dst := some 1, op := .box (.t 0) },
  { dst := some 2, op := .mv (.c (.b false)) }])
 (.seq (.reg false [{ dst := some 3, op := .fa 1 (.t 1) },
  { dst := some 4, op := .ld none (.t 3) },
  { dst := some 5, op := .bin .eql (.t 4) (.c (.i .i64 2)) },
  { dst := some 2, op := .mv (.t 5) }])
 .ret)) }
def A_order_Ar_1 : AFun := { res := [.t 1], body := (.seq (.reg false [{ dst := some 1, op := .mv (.c (.nilp)) }])
 (.seq (.reg true [{ dst := some 2, op := .ld (some 8) (.t 0), pre := [] },
  { dst := some 3, op := .ld (some 8) (.t 0), pre := [] },
  { dst := some 4, op := .call .pure (.c (.fn 48 [] [])) [.t 3], pre := [] },
  { dst := some 5, op := .call .pure (.c (.fn 40 [] [])) [.t 2, .t 4], pre := [] },
  { dst := some 1, op := .mv (.t 5) }])
 .ret)) }
def A_order_Ar_2 : AFun := { res := [.t 1], body := (.seq (.reg false [{ dst := some 1, op := .mv (.c (.nilp)) }])
 (.seq (.reg false [{ dst := some 2, op := .ld (some 8) (.t 0) },
  { dst := some 3, op := .call .pure (.c (.fn 155 [] [])) [.t 2] },
  { dst := some 1, op := .mv (.t 3) }])
 .ret)) }
def A_order_Ar_3 : AFun := { res := [.t 1], body := (.seq (.reg false [{ dst := some 1, op := .mv (.c (.nilp)) }])
 (.seq (.reg false [{ dst := some 2, op := .ld (some 8) (.t 0) },
  { dst := some 3, op := .call .pure (.c (.fn 207 [] [])) [.t 2] },
  { dst := some 1, op := .mv (.t 3) }])
 .ret)) }
def A_order_Ppo : AFun := { res := [.t 2], body := (.seq (.reg false [{ dst := some 1, op := .box (.t 0) },
  { dst := some 2, op := .mv (.c (.nilp)) }])
 (.seq (.reg true [{ dst := some 4, op := .ld (some 8) (.t 1), pre := [] },
  { dst := some 5, op := .call .pure (.c (.fn 213 [] [])) [.t 4], pre := [] },
  { dst := some 6, op := .ld (some 8) (.t 1), pre := [] },
  { dst := some 7, op := .ld (some 8) (.t 1), pre := [] },
  { dst := some 8, op := .call .pure (.c (.fn 48 [] [])) [.t 7], pre := [] },
  { dst := some 9, op := .call .pure (.c (.fn 39 [] [])) [.t 6, .t 8], pre := [] },
  { dst := some 10, op := .call .pure (.c (.fn 24 [] [])) [.t 5, .t 9], pre := [] },
  { dst := some 11, op := .call .pure (.c (.fn 12 [] [])) [.t 10], pre := [] },
  { dst := some 3, op := .mv (.t 11) }])
 (.seq (.reg true [{ dst := some 12, op := .ld (some 8) (.t 1), pre := [] },
  { dst := some 13, op := .call .pure (.c (.fn 195 [] [])) [.t 12, .c (.fn 240 [] [])], pre := [] },
  { dst := some 14, op := .mv (.t 3) },
  { dst := some 15, op := .call .pure (.c (.fn 23 [] [])) [.t 13, .t 14], pre := [] },
  { dst := some 16, op := .ld (some 8) (.t 1), pre := [] },
  { dst := some 17, op := .call .pure (.c (.fn 195 [] [])) [.t 16, .c (.fn 203 [] [])], pre := [] },
  { dst := some 18, op := .call .pure (.c (.fn 23 [] [])) [.t 15, .t 17], pre := [] },
  { dst := some 2, op := .mv (.t 18) }])
 .ret))) }
def A_order_Ar_4 : AFun := { res := [.t 1], body := (.seq (.reg false [{ dst := some 1, op := .mv (.c (.nilp)) }])
 (.seq (.reg false [{ dst := some 2, op := .ld (some 8) (.t 0) },
  { dst := some 3, op := .call .pure (.c (.fn 209 [] [])) [.t 2] },
  { dst := some 1, op := .mv (.t 3) }])
 .ret)) }
def A_order_Detour : AFun := { res := [.t 2], body := (.seq (.reg false [{ dst := some 1, op := .box (.t 0) },
  { dst := some 2, op := .mv (.c (.nilp)) }])
 (.seq (.reg true [{ dst := some 4, op := .ld (some 8) (.t 1), pre := [] },
  { dst := some 5, op := .ld (some 8) (.t 1), pre := [] },
  { dst := some 6, op := .call .pure (.c (.fn 49 [] [])) [.t 5], pre := [] },
  { dst := some 7, op := .call .pure (.c (.fn 40 [] [])) [.t 4, .t 6], pre := [] },
  { dst := some 8, op := .ld (some 8) (.t 1), pre := [] },
  { dst := some 9, op := .ld (some 8) (.t 1), pre := [] },
  { dst := some 10, op := .call .pure (.c (.fn 48 [] [])) [.t 9], pre := [] },
  { dst := some 11, op := .call .pure (.c (.fn 40 [] [])) [.t 8, .t 10], pre := [] },
  { dst := some 12, op := .call .pure (.c (.fn 23 [] [])) [.t 7, .t 11], pre := [] },
  { dst := some 3, op := .mv (.t 12) }])
 (.seq (.reg false [{ dst := some 13, op := .mv (.t 3) },
  { dst := some 14, op := .ld (some 8) (.t 1) },
  { dst := some 15, op := .call .pure (.c (.fn 60 [] [])) [.t 14] },
  { dst := some 16, op := .call .pure (.c (.fn 18 [] [])) [.t 13, .t 15] },
  { dst := some 2, op := .mv (.t 16) }])
 .ret))) }
def A_order_Ar_5 : AFun := { res := [.t 1], body := (.seq (.reg false [{ dst := some 1, op := .mv (.c (.nilp)) }])
 (.seq (.reg false [{ dst := some 2, op := .ld (some 8) (.t 0) },
  { dst := some 3, op := .call .pure (.c (.fn 211 [] [])) [.t 2] },
  { dst := some 1, op := .mv (.t 3) }])
 .ret)) }
def A_order_Psc : AFun := { res := [.t 2], body := (.seq (.reg false [{ dst := some 1, op := .box (.t 0) },
  { dst := some 2, op := .mv (.c (.nilp)) }])
 (.seq (.reg true [{ dst := some 5, op := .ld (some 8) (.t 1), pre := [] },
  { dst := some 6, op := .call .pure (.c (.fn 195 [] [])) [.t 5, .c (.fn 241 [] [])], pre := [] },
  { dst := some 7, op := .ld (some 8) (.t 1), pre := [] },
  { dst := some 8, op := .call .pure (.c (.fn 148 [] [])) [.t 7], pre := [] },
  { dst := some 3, op := .mv (.t 6) },
  { dst := some 4, op := .mv (.t 8) }])
 (.seq (.reg true [{ dst := some 9, op := .mv (.t 3) },
  { dst := some 10, op := .mv (.t 4) },
  { dst := some 11, op := .call .pure (.c (.fn 23 [] [])) [.t 9, .t 10], pre := [] },
  { dst := some 12, op := .ld (some 8) (.t 1), pre := [] },
  { dst := some 13, op := .call .pure (.c (.fn 42 [] [])) [.t 12], pre := [] },
  { dst := some 14, op := .call .pure (.c (.fn 23 [] [])) [.t 11, .t 13], pre := [] },
  { dst := some 15, op := .mv (.t 4) },
  { dst := some 16, op := .call .pure (.c (.fn 23 [] [])) [.t 14, .t 15], pre := [] },
  { dst := some 17, op := .mv (.t 3) },
  { dst := some 18, op := .call .pure (.c (.fn 23 [] [])) [.t 16, .t 17], pre := [] },
  { dst := some 2, op := .mv (.t 18) }])
 .ret))) }
def A_order_Deps : AFun := { res := [.t 2], body := (.seq (.reg false [{ dst := some 1, op := .boxI (.t 0) },
  { dst := some 2, op := .mv (.c (.nilp)) }])
 (.seq (.reg false [{ dst := some 3, op := .ld (some 8) (.t 1) },
  { dst := some 4, op := .mkfn 242 [] [.t 1] },
  { dst := some 5, op := .mkfn 243 [] [.t 1] },
  { dst := some 6, op := .mkfn 244 [] [.t 1] },
  { dst := some 7, op := .bsl true 3 ([.nilf, .nilf, .nilf]) [(0, 1, .t 4), (1, 1, .t 5), (2, 1, .t 6)] },
  { dst := some 8, op := .call .pure (.c (.fn 193 [] [])) [.t 3, .t 7] },
  { dst := some 2, op := .mv (.t 8) }])
 .ret)) }
def A_order_isR : AFun := { res := [.t 2], body := (.seq (.reg false [{ dst := some 1, op := .box (.t 0) },
  { dst := some 2, op := .mv (.c (.b false)) }])
 (.seq (.reg false [{ dst := some 3, op := .fa 1 (.t 1) },
  { dst := some 4, op := .ld none (.t 3) },
  { dst := some 5, op := .bin .eql (.t 4) (.c (.i .i64 1)) },
  { dst := some 2, op := .mv (.t 5) }])
 .ret)) }
def A_order_isSc : AFun := { res := [.t 2], body := (.seq (.reg false [{ dst := some 1, op := .box (.t 0) },
  { dst := some 2, op := .mv (.c (.b false)) }])
 (.seq (.reg false [{ dst := some 3, op := .ld (some 6) (.t 1) },
  { dst := some 4, op := .call .pure (.c (.fn 200 [] [])) [.t 3] },
  { dst := some 5, op := .mv (.t 4) },
  { dst := some 6, op := .fa 2 (.t 1), grd := some (5, true) },
  { dst := some 7, op := .ld none (.t 6), grd := some (5, true) },
  { dst := some 8, op := .bin .eql (.t 7) (.c (.i .i64 4)), grd := some (5, true) },
  { dst := some 9, op := .pick (.t 5) (.t 8) (.c (.b false)) },
  { dst := some 2, op := .mv (.t 9) }])
 .ret)) }
def A_order_Deps_1 : AFun := { res := [.t 1], body := (.seq (.reg false [{ dst := some 1, op := .mv (.c (.nilp)) }])
 (.seq (.reg false [{ dst := some 2, op := .ld (some 8) (.t 0) },
  { dst := some 3, op := .fa 5 (.t 0) },
  { dst := some 4, op := .ld none (.t 3) },
  { dst := some 5, op := .call .pure (.c (.fn 81 [] [])) [.t 2, .t 4] },
  { dst := some 1, op := .mv (.t 5) }])
 .ret)) }
def A_order_Deps_2 : AFun := { res := [.t 1], body := (.seq (.reg false [{ dst := some 1, op := .mv (.c (.nilp)) }])
 (.seq (.reg false [{ dst := some 2, op := .ld (some 8) (.t 0) },
  { dst := some 3, op := .fa 6 (.t 0) },
  { dst := some 4, op := .ld none (.t 3) },
  { dst := some 5, op := .call .pure (.c (.fn 81 [] [])) [.t 2, .t 4] },
  { dst := some 1, op := .mv (.t 5) }])
 .ret)) }
def A_order_Deps_3 : AFun := { res := [.t 1], body := (.seq (.reg false [{ dst := some 1, op := .mv (.c (.nilp)) }])
 (.seq (.reg true [{ dst := some 2, op := .ld (some 8) (.t 0), pre := [] },
  { dst := some 3, op := .call .pure (.c (.fn 195 [] [])) [.t 2, .c (.fn 245 [] [])], pre := [] },
  { dst := some 4, op := .ld (some 8) (.t 0), pre := [] },
  { dst := some 5, op := .call .pure (.c (.fn 60 [] [])) [.t 4], pre := [] },
  { dst := some 6, op := .call .pure (.c (.fn 23 [] [])) [.t 3, .t 5], pre := [] },
  { dst := some 1, op := .mv (.t 6) }])
 .ret)) }
def A_order_isEx : AFun := { res := [.t 2], body := (.seq (.reg false [{ dst := some 1, op := .box (.t 0) },
  { dst := some 2, op := .mv (.c (.b false)) }])
 (.seq (.reg false [{ dst := some 3, op := .ld (some 6) (.t 1) },
  { dst := some 4, op := .call .pure (.c (.fn 240 [] [])) [.t 3] },
  { dst := some 5, op := .mv (.t 4) },
  { dst := some 6, op := .fa 5 (.t 1), grd := some (5, true) },
  { dst := some 7, op := .ld none (.t 6), grd := some (5, true) },
  { dst := some 8, op := .pick (.t 5) (.t 7) (.c (.b false)) },
  { dst := some 2, op := .mv (.t 8) }])
 .ret)) }
structure Pk_order (F : Funs) : Prop where
  order_Bob : F 155 = some A_order_Bob
  order_Ar : F 156 = some A_order_Ar
  order_all : F 193 = some A_order_all
  order_Bob_1 : F 194 = some A_order_Bob_1
  order_set : F 195 = some A_order_set
  order_isRel : F 196 = some A_order_isRel
  order_Bob_2 : F 197 = some A_order_Bob_2
  order_isAcq : F 198 = some A_order_isAcq
  order_Bob_3 : F 199 = some A_order_Bob_3
  order_isF : F 200 = some A_order_isF
  order_Bob_4 : F 201 = some A_order_Bob_4
  order_Bob_5 : F 202 = some A_order_Bob_5
  order_isW : F 203 = some A_order_isW
  order_Ar_1 : F 204 = some A_order_Ar_1
  order_Ar_2 : F 205 = some A_order_Ar_2
  order_Ar_3 : F 206 = some A_order_Ar_3
  order_Ppo : F 207 = some A_order_Ppo
  order_Ar_4 : F 208 = some A_order_Ar_4
  order_Detour : F 209 = some A_order_Detour
  order_Ar_5 : F 210 = some A_order_Ar_5
  order_Psc : F 211 = some A_order_Psc
  order_Deps : F 213 = some A_order_Deps
  order_isR : F 240 = some A_order_isR
  order_isSc : F 241 = some A_order_isSc
  order_Deps_1 : F 242 = some A_order_Deps_1
  order_Deps_2 : F 243 = some A_order_Deps_2
  order_Deps_3 : F 244 = some A_order_Deps_3
  order_isEx : F 245 = some A_order_isEx
end Go.Ab
end
section
set_option linter.unusedVariables false
set_option linter.unusedSimpArgs false
namespace Go.Ab
variable {F : Funs}
structure OrdF (F : Funs) : Prop where
  po : Pk_order F
  sy : SyncF F
section
variable (S : OrdF F)
include S
end
section
variable (X : Gr)
end
section
variable (S : OrdF F) {X : Gr} (hX : Few X)
include S hX
end
end Go.Ab
end
section
namespace Go.Ab
def A_imm_Consistent : AFun := { res := [.t 2], body := (.seq (.reg false [{ dst := some 1, op := .box (.t 0) },
  { dst := some 2, op := .mv (.c (.b false)) }])
 (.seq (.seq (.reg false [{ dst := some 6, op := .ld (some 8) (.t 1) },
  { dst := some 7, op := .call .pure (.c (.fn 152 [] [])) [.t 6] },
  { dst := some 8, op := .un .not (.t 7) }])
 (.cond (.t 8) (.seq (.reg false [{ dst := some 2, op := .mv (.c (.b false)) }])
 .ret)
 .skip))
 (.seq (.reg false [{ dst := some 9, op := .ld (some 8) (.t 1) },
  { dst := some 10, op := .build ([.i .i64 0] ++ List.replicate 7 (.sl [] 0 .rig)) [(0, 8, .t 9)] },
  { dst := some 3, op := .new ([.i .i64 0] ++ List.replicate 7 (.sl [] 0 .rig)) },
  { dst := none, op := .st 8 (.t 3) (.t 10) }])
 (.seq (.seq (.reg false [{ dst := some 11, op := .ld (some 8) (.t 3) },
  { dst := some 12, op := .mkfn 214 [.t 11] [] },
  { dst := some 13, op := .build ([.nilf]) [(0, 1, .t 12)] },
  { dst := some 14, op := .ld (some 8) (.t 3) },
  { dst := some 15, op := .mkfn 215 [.t 14] [] },
  { dst := some 16, op := .build ([.nilf]) [(0, 1, .t 15)] },
  { dst := some 17, op := .ld (some 8) (.t 3) },
  { dst := some 18, op := .mkfn 216 [.t 17] [] },
  { dst := some 19, op := .build ([.nilf]) [(0, 1, .t 18)] },
  { dst := some 20, op := .bsl true 3 ([.nilf, .nilf, .nilf]) [(0, 1, .t 13), (1, 1, .t 16), (2, 1, .t 19)] },
  { dst := some 21, op := .len (.t 20) },
  { dst := some 22, op := .mv (.c (.i .i64 0)) }])
 (.blk 0 (.loop (.seq (.reg false [{ dst := some 23, op := .bin .lss (.t 22) (.t 21) }])
 (.seq (.cond (.t 23) .skip
 (.ext 0))
 (.seq (.blk 1 (.seq (.reg false [{ dst := some 24, op := .ia 1 (.t 20) (.t 22) },
  { dst := some 25, op := .ld (some 1) (.t 24) },
  { dst := some 5, op := .new ([.nilf]) },
  { dst := none, op := .st 1 (.t 5) (.t 25) }])
 (.seq (.reg false [{ dst := some 26, op := .fa 0 (.t 5) },
  { dst := some 27, op := .ld none (.t 26) },
  { dst := some 28, op := .call .pure (.t 27) [] },
  { dst := some 29, op := .un .not (.t 28) }])
 (.cond (.t 29) (.seq (.reg false [{ dst := some 2, op := .mv (.c (.b false)) }])
 .ret)
 .skip))))
 (.reg false [{ dst := some 30, op := .bin .add (.t 22) (.c (.i .i64 1)) },
  { dst := some 22, op := .mv (.t 30) }])))))))
 (.seq (.reg false [{ dst := some 2, op := .mv (.c (.b true)) }])
 .ret))))) }
def A_imm_Atomic : AFun := { res := [.t 2], body := (.seq (.reg false [{ dst := some 1, op := .box (.t 0) },
  { dst := some 2, op := .mv (.c (.b false)) }])
 (.seq (.reg false [{ dst := some 3, op := .ld (some 8) (.t 1) },
  { dst := some 4, op := .build ([.i .i64 0] ++ List.replicate 7 (.sl [] 0 .rig)) [(0, 8, .t 3)] },
  { dst := some 5, op := .call .pure (.c (.fn 215 [] [])) [.t 4] },
  { dst := some 2, op := .mv (.t 5) }])
 .ret)) }
def A_imm_Coherent : AFun := { res := [.t 2], body := (.seq (.reg false [{ dst := some 1, op := .box (.t 0) },
  { dst := some 2, op := .mv (.c (.b false)) }])
 (.seq (.reg false [{ dst := some 3, op := .ld (some 8) (.t 1) },
  { dst := some 4, op := .build ([.i .i64 0] ++ List.replicate 7 (.sl [] 0 .rig)) [(0, 8, .t 3)] },
  { dst := some 5, op := .call .pure (.c (.fn 214 [] [])) [.t 4] },
  { dst := some 2, op := .mv (.t 5) }])
 .ret)) }
def A_imm_looked_coherent : AFun := { res := [.t 2], body := (.seq (.reg false [{ dst := some 1, op := .box (.t 0) },
  { dst := some 2, op := .mv (.c (.b false)) }])
 (.seq (.reg false [{ dst := some 6, op := .fa 0 (.t 1) },
  { dst := some 7, op := .ld (some 8) (.t 6) },
  { dst := some 8, op := .call .pure (.c (.fn 148 [] [])) [.t 7] },
  { dst := some 3, op := .mv (.t 8) }])
 (.seq (.reg false [{ dst := some 9, op := .mv (.t 3) },
  { dst := some 10, op := .mv (.t 3) },
  { dst := some 11, op := .fa 0 (.t 1) },
  { dst := some 12, op := .ld (some 8) (.t 11) },
  { dst := some 13, op := .call .pure (.c (.fn 42 [] [])) [.t 12] },
  { dst := some 14, op := .call .pure (.c (.fn 23 [] [])) [.t 10, .t 13] },
  { dst := some 15, op := .call .pure (.c (.fn 24 [] [])) [.t 9, .t 14] },
  { dst := some 4, op := .mv (.t 15) }])
 (.seq (.seq (.reg false [{ dst := some 16, op := .fa 0 (.t 1) },
  { dst := some 17, op := .fa 1 (.t 16) },
  { dst := some 18, op := .ld none (.t 17) },
  { dst := some 19, op := .len (.t 18) },
  { dst := some 20, op := .mv (.c (.i .i64 0)) }])
 (.blk 0 (.loop (.seq (.reg false [{ dst := some 21, op := .bin .lss (.t 20) (.t 19) }])
 (.seq (.cond (.t 21) .skip
 (.ext 0))
 (.seq (.blk 1 (.seq (.reg false [{ dst := some 22, op := .mv (.t 20) },
  { dst := some 5, op := .mv (.t 22) }])
 (.seq (.reg false [{ dst := some 23, op := .mv (.t 4) },
  { dst := some 24, op := .mv (.t 5) },
  { dst := some 25, op := .mv (.t 5) },
  { dst := some 26, op := .call .pure (.c (.fn 13 [] [])) [.t 23, .t 24, .t 25] }])
 (.cond (.t 26) (.seq (.reg false [{ dst := some 2, op := .mv (.c (.b false)) }])
 .ret)
 .skip))))
 (.reg false [{ dst := some 27, op := .bin .add (.t 20) (.c (.i .i64 1)) },
  { dst := some 20, op := .mv (.t 27) }])))))))
 (.seq (.reg false [{ dst := some 2, op := .mv (.c (.b true)) }])
 .ret))))) }
def A_imm_looked_atomic : AFun := { res := [.t 2], body := (.seq (.reg false [{ dst := some 1, op := .box (.t 0) },
  { dst := some 2, op := .mv (.c (.b false)) }])
 (.seq (.reg false [{ dst := some 5, op := .fa 0 (.t 1) },
  { dst := some 6, op := .ld (some 8) (.t 5) },
  { dst := some 3, op := .new ([.i .i64 0] ++ List.replicate 7 (.sl [] 0 .rig)) },
  { dst := none, op := .st 8 (.t 3) (.t 6) }])
 (.seq (.reg true [{ dst := some 7, op := .ld (some 8) (.t 3), pre := [] },
  { dst := some 8, op := .ld (some 8) (.t 3), pre := [] },
  { dst := some 9, op := .call .pure (.c (.fn 50 [] [])) [.t 8], pre := [] },
  { dst := some 10, op := .call .pure (.c (.fn 40 [] [])) [.t 7, .t 9], pre := [] },
  { dst := some 11, op := .ld (some 8) (.t 3), pre := [] },
  { dst := some 12, op := .ld (some 8) (.t 3), pre := [] },
  { dst := some 13, op := .call .pure (.c (.fn 49 [] [])) [.t 12], pre := [] },
  { dst := some 14, op := .call .pure (.c (.fn 40 [] [])) [.t 11, .t 13], pre := [] },
  { dst := some 15, op := .call .pure (.c (.fn 23 [] [])) [.t 10, .t 14], pre := [] },
  { dst := some 4, op := .mv (.t 15) }])
 (.seq (.reg false [{ dst := some 16, op := .ld (some 8) (.t 3) },
  { dst := some 17, op := .fa 4 (.t 3) },
  { dst := some 18, op := .ld none (.t 17) },
  { dst := some 19, op := .call .pure (.c (.fn 81 [] [])) [.t 16, .t 18] },
  { dst := some 20, op := .mv (.t 4) },
  { dst := some 21, op := .call .pure (.c (.fn 18 [] [])) [.t 19, .t 20] },
  { dst := some 22, op := .call .pure (.c (.fn 15 [] [])) [.t 21] },
  { dst := some 23, op := .len (.t 22) },
  { dst := some 24, op := .bin .eql (.t 23) (.c (.i .i64 0)) },
  { dst := some 2, op := .mv (.t 24) }])
 .ret)))) }
def A_imm_looked_ordered : AFun := { res := [.t 2], body := (.seq (.reg false [{ dst := some 1, op := .box (.t 0) },
  { dst := some 2, op := .mv (.c (.b false)) }])
 (.seq (.reg false [{ dst := some 3, op := .fa 0 (.t 1) },
  { dst := some 4, op := .ld (some 8) (.t 3) },
  { dst := some 5, op := .call .pure (.c (.fn 156 [] [])) [.t 4] },
  { dst := some 6, op := .call .pure (.c (.fn 14 [] [])) [.t 5] },
  { dst := some 7, op := .un .not (.t 6) },
  { dst := some 2, op := .mv (.t 7) }])
 .ret)) }
def A_imm_Ordered : AFun := { res := [.t 2], body := (.seq (.reg false [{ dst := some 1, op := .box (.t 0) },
  { dst := some 2, op := .mv (.c (.b false)) }])
 (.seq (.reg false [{ dst := some 3, op := .ld (some 8) (.t 1) },
  { dst := some 4, op := .build ([.i .i64 0] ++ List.replicate 7 (.sl [] 0 .rig)) [(0, 8, .t 3)] },
  { dst := some 5, op := .call .pure (.c (.fn 216 [] [])) [.t 4] },
  { dst := some 2, op := .mv (.t 5) }])
 .ret)) }
structure Pk_imm (F : Funs) : Prop where
  imm_Consistent : F 161 = some A_imm_Consistent
  imm_Atomic : F 162 = some A_imm_Atomic
  imm_Coherent : F 164 = some A_imm_Coherent
  imm_looked_coherent : F 214 = some A_imm_looked_coherent
  imm_looked_atomic : F 215 = some A_imm_looked_atomic
  imm_looked_ordered : F 216 = some A_imm_looked_ordered
  imm_Ordered : F 217 = some A_imm_Ordered
end Go.Ab
end
section
set_option linter.unusedVariables false
set_option linter.unusedSimpArgs false
namespace Go.Ab
variable {F : Funs}
structure ImmF (F : Funs) : Prop where
  o : OrdF F
  im : Pk_imm F
  gr : GrFs F
section
variable (X : Gr)
def atR : Rw := andR (newR (nOf X) X.rmw) (thenR (nOf X) (partR outer X (nOf X) (relE (frS X.co) X)) (partR outer X (nOf X) (relE (coS X.co) X)))
def atB : Bool := ((pairsR (nOf X) (atR X)).length : Int) == 0
end
section
variable (S : ImmF F) {X : Gr} (hX : Few X) (hL : LenG X)
include S hX hL
end
end Go.Ab
end
section
set_option linter.unusedVariables false
set_option linter.unusedSimpArgs false
set_option linter.unusedSectionVars false
namespace Go.Ab
variable {F : Funs}
theorem o_idx {call : CS} {al : Nat → Bool} {lo id : Nat} {e : Env} {g : G} (len esz : Nat) (agg : Option Nat) (x i : Opd) : opE call al lo id (.idx len esz agg x i) e g = vIdx len esz agg (x.ev e) (i.ev e) g := rfl
structure PowF (F : Funs) : Prop where
  pw : Pk_power F
  pp : PpoF F
  gr : GrFs F
def barP (m : Int) (e : Ev) : Bool := e.kd == 3 && e.md == m
section
variable (X : Gr)
def ownR (R : Rw) : Rw := thenR (nOf X) (setR X pMi) (partR inner X (nOf X) R)
def arndR (m : Int) : Rw := thenR (nOf X) (thenR (nOf X) (thenR (nOf X) (thenR (nOf X) (setR X pM) (ownR X (poR X))) (setR X (barP m))) (ownR X (poR X))) (setR X pM)
def psyR : Rw := arndR X 4
def pfeR : Rw := orR (psyR X) (lessR (arndR X 3) (thenR (nOf X) (thenR (nOf X) (setR X pW) (arndR X 3)) (setR X pR)))
def pcoR : Rw := orR (orR (rfR X) (relE (coS X.co) X)) (relE (frS X.co) X)
def phbR : Rw := orR (orR (ppoR X) (pfeR X)) (partR outer X (nOf X) (rfR X))
def panR (R : Rw) : Rw := orR (plusR (nOf X) R) (maybeK (nOf X) (newR (nOf X) []))
def pbaR : Rw := thenR (nOf X) (orR (pfeR X) (thenR (nOf X) (partR outer X (nOf X) (rfR X)) (pfeR X))) (panR X (phbR X))
def pprR : Rw := orR (thenR (nOf X) (thenR (nOf X) (setR X pW) (pbaR X)) (setR X pW)) (thenR (nOf X) (thenR (nOf X) (thenR (nOf X) (panR X (pcoR X)) (panR X (pbaR X))) (psyR X)) (panR X (phbR X)))
def pc1B : Bool := !loopsR (nOf X) (orR (ownR X (locR X)) (pcoR X))
def pc3B : Bool := !loopsR (nOf X) (phbR X)
def pfrR : Rw := thenR (nOf X) (thenR (nOf X) (partR outer X (nOf X) (relE (frS X.co) X)) (pprR X)) (panR X (phbR X))
def pc4B : Bool := allN X.evs.length fun i => !has (nOf X) (pfrR X) i i
def pc5B : Bool := !loopsR (nOf X) (orR (relE (coS X.co) X) (pprR X))
def pcnB : Bool := gCheck X && (pc1B X && (atB X && (pc3B X && (pc4B X && pc5B X))))
end
section
variable (S : PowF F)
include S
set_option maxRecDepth 100000 in
theorem pw_isR (e : Ev) : pureS F 325 [.agg (evC e)] = some (.b (pR e)) := by
  refine pure_of S.pw.power_isR ?_
  simp (disch := omega) only [A_power_isR, wp, Nat.reduceAdd, Nat.reduceMul, Nat.reduceSub, gl]
  rfl
set_option maxRecDepth 100000 in
theorem pw_isW (e : Ev) : pureS F 324 [.agg (evC e)] = some (.b (pW e)) := by
  refine pure_of S.pw.power_isW ?_
  simp (disch := omega) only [A_power_isW, wp, Nat.reduceAdd, Nat.reduceMul, Nat.reduceSub, gl]
  rfl
set_option maxRecDepth 100000 in
theorem pw_isM (e : Ev) : pureS F 349 [.agg (evC e)] = some (.b (pM e)) := by
  refine pure_of S.pw.power_isM ?_
  unfold pM
  cases h1 : (e.kd == 1) with
  | true => simp (disch := omega) only [A_power_isM, wp, Nat.reduceAdd, Nat.reduceMul, Nat.reduceSub, gl, h1]
  | false => simp (disch := omega) only [A_power_isM, wp, Nat.reduceAdd, Nat.reduceMul, Nat.reduceSub, gl, h1]
set_option maxRecDepth 100000 in
theorem pw_isMi (e : Ev) : pureS F 348 [.agg (evC e)] = some (.b (pMi e)) := by
  refine pure_of S.pw.power_own_1 ?_
  simp (disch := omega) only [A_power_own_1, wp, Nat.reduceAdd, Nat.reduceMul, Nat.reduceSub, gl]
  rfl
set_option maxRecDepth 100000 in
theorem pw_bar (m : Int) (e : Ev) : pureS F 350 [.agg (evC e), .ptr [.i .i64 m]] = some (.b (barP m e)) := by
  refine pure_of S.pw.power_around_1 ?_
  unfold barP
  cases h1 : (e.kd == 3) with
  | true => simp (disch := omega) only [A_power_around_1, wp, Nat.reduceAdd, Nat.reduceMul, Nat.reduceSub, gl, h1]
  | false => simp (disch := omega) only [A_power_around_1, wp, Nat.reduceAdd, Nat.reduceMul, Nat.reduceSub, gl, h1]
set_option maxRecDepth 100000 in
set_option maxHeartbeats 4000000 in
theorem pw_thenL {n : Nat} (hn : n ≤ 40) (R : Rw) (l : List Rw) (hl : l.length ≤ 1000) (t : Tok) : pureS F 319 [.ptr (relC n R), .sl (relsC n l) l.length t] = some (.ptr (relC n (thenL n R l))) := by
  refine pure_of S.pw.power_then ?_
  simp (disch := omega) only [A_power_then, wp, Nat.reduceAdd, Nat.reduceMul, Nat.reduceSub, gl]
  refine W_loop (fun q e g => ∃ k, q = l.length - k ∧ k ≤ l.length ∧ e 0 = .ptr (relC n (thenL n R (l.take k))) ∧ e 7 = .sl (relsC n l) l.length t ∧ e 8 = .i .i64 l.length ∧ e 9 = .i .i64 k) l.length ?_ ?_
  · refine ⟨0, rfl, Nat.zero_le _, ?_⟩
    simp (disch := omega) only [wp, Nat.reduceAdd, Nat.reduceMul, Nat.reduceSub]
    exact ⟨by rfl, rfl⟩
  · rintro q e g ⟨k, rfl, hk, e0, e7, e8, e9⟩
    by_cases hk' : k < l.length
    · have hk1 : (k : Int) < l.length := by omega
      have hwk := succ_wrap (k := k) (by omega)
      have hp := rels_part (n := n) hk'
      have hs : thenL n R (l.take (k + 1)) = thenR n (thenL n R (l.take k)) (l.getD k fun _ => 0) := by
        unfold thenL
        rw [List.take_add_one, List.foldl_append, List.getElem?_eq_getElem hk', List.getD_eq_getElem?_getD, List.getElem?_eq_getElem hk']
        rfl
      generalize thenL n R (l.take k) = A at e0 hs
      generalize (l.getD k fun _ => 0) = B at hp hs
      simp (disch := omega) only [wp, Nat.reduceAdd, Nat.reduceMul, Nat.reduceSub, gl, e0, e7, e8, e9, hk1, hp, sp_then S.pp.pr hn hn, Nat.max_self, hwk]
      exact ⟨l.length - (k + 1), by omega, k + 1, rfl, by omega, by rw [hs], rfl⟩
    · obtain rfl : k = l.length := by omega
      have hk1 : ¬ ((l.length : Int) < l.length) := by omega
      rw [List.take_length] at e0
      simp (disch := omega) only [wp, Nat.reduceAdd, Nat.reduceMul, Nat.reduceSub, gl, e0, e7, e8, e9, hk1]
theorem pw_then2 {n : Nat} (hn : n ≤ 40) (R A B : Rw) : pureS F 319 [.ptr (relC n R), .sl [.ptr (relC n A), .ptr (relC n B)] 2 .non] = some (.ptr (relC n (thenR n (thenR n R A) B))) := pw_thenL S hn R [A, B] (by simp) .non
theorem pw_then3 {n : Nat} (hn : n ≤ 40) (R A B C : Rw) : pureS F 319 [.ptr (relC n R), .sl [.ptr (relC n A), .ptr (relC n B), .ptr (relC n C)] 3 .non] = some (.ptr (relC n (thenR n (thenR n (thenR n R A) B) C))) := pw_thenL S hn R [A, B, C] (by simp) .non
theorem pw_then4 {n : Nat} (hn : n ≤ 40) (R A B C D : Rw) : pureS F 319 [.ptr (relC n R), .sl [.ptr (relC n A), .ptr (relC n B), .ptr (relC n C), .ptr (relC n D)] 4 .non] = some (.ptr (relC n (thenR n (thenR n (thenR n (thenR n R A) B) C) D))) := pw_thenL S hn R [A, B, C, D] (by simp) .non
variable {X : Gr} (hX : Few X) (hL : LenG X)
include hX
set_option maxRecDepth 100000 in
theorem pw_own (R : Rw) : pureS F 312 [.agg (grC X), .ptr (relC (nOf X) R)] = some (.ptr (relC (nOf X) (ownR X R))) := by
  refine pure_of S.pw.power_own ?_
  have hn := nOf_le X
  simp (disch := omega) only [A_power_own, wp, Nat.reduceAdd, Nat.reduceMul, Nat.reduceSub, gl, sp_setF S.pp hX (pw_isMi S), sp_Inner S.pp.pe S.pp.gof S.pp.pr hn, sp_then S.pp.pr hn hn, Nat.max_self]
  rfl
theorem pw_po : pureS F 60 [.agg (grC X)] = some (.ptr (relC (nOf X) (poR X))) := sp_Po S.pp.po S.pp.gof S.pp.pr (by have := hX.1; omega)
theorem pw_setB (m : Int) : pureS F 166 [.agg (grC X), .fn 350 [] [.ptr [.i .i64 m]]] = some (.ptr (relC (nOf X) (setR X (barP m)))) :=
  sp_setE S.pp.set S.pp.gof S.pp.pr (by have := hX.1; omega) (pw_bar S m) (fun hp => by simp only [frzL_cons, frzL_nil, frz_d_ptr, consO_ok]) (fun hp => by simp only [List.flatMap_cons, List.flatMap_nil, vis_ptr, List.append_nil])
set_option maxRecDepth 100000 in
theorem pw_arnd (m : Int) : pureS F 323 [.agg (grC X), .i .i64 m] = some (.ptr (relC (nOf X) (arndR X m))) := by
  refine pure_of S.pw.power_around ?_
  have hn := nOf_le X
  have hfn : ∀ hp, frz hp depth (.fn 350 [] [.ptr [.i .i64 m]]) = some (.fn 350 [] [.ptr [.i .i64 m]]) := fun hp => by
    show frz hp (8 + 1) _ = _
    simp only [frz, frzL]
  have hvn : ∀ hp, vis hp depth (.fn 350 [] [.ptr [.i .i64 m]]) = [] := fun hp => by
    show vis hp (8 + 1) _ = _
    simp only [vis, List.flatMap_cons, List.flatMap_nil, List.append_nil]
  have r4 : ∀ x : AV, List.replicate 4 x = [x, x, x, x] := fun _ => rfl
  simp (disch := omega) only [A_power_around, wp, Nat.reduceAdd, Nat.reduceMul, Nat.reduceSub, gl, o_boxI, vBoxI_S, bxiD_ok, frzL_gr, vMapL_some, hfn, hvn, r4, sp_setF S.pp hX (pw_isM S), pw_po S hX, pw_own S hX, pw_setB S hX, pw_then4 S hn]
  rfl
set_option maxRecDepth 100000 in
theorem pw_sync : pureS F 294 [.agg (grC X)] = some (.ptr (relC (nOf X) (psyR X))) := by
  refine pure_of S.pw.power_Sync ?_
  simp (disch := omega) only [A_power_Sync, wp, Nat.reduceAdd, Nat.reduceMul, Nat.reduceSub, gl, pw_arnd S hX]
  rfl
set_option maxRecDepth 100000 in
theorem pw_fences : pureS F 295 [.agg (grC X)] = some (.ptr (relC (nOf X) (pfeR X))) := by
  refine pure_of S.pw.power_Fences ?_
  have hn := nOf_le X
  simp (disch := omega) only [A_power_Fences, wp, Nat.reduceAdd, Nat.reduceMul, Nat.reduceSub, gl, pw_arnd S hX, pw_sync S hX, sp_setF S.pp hX (pw_isW S), sp_setF S.pp hX (pw_isR S), pw_then2 S hn, sp_less S.pp.ls S.pp.pr hn hn, sp_or S.pp.pr hn hn, Nat.max_self]
  rfl
set_option maxRecDepth 100000 in
theorem pw_com : pureS F 313 [.agg (grC X)] = some (.ptr (relC (nOf X) (pcoR X))) := by
  refine pure_of S.pw.power_com ?_
  have hn := nOf_le X
  simp (disch := omega) only [A_power_com, wp, Nat.reduceAdd, Nat.reduceMul, Nat.reduceSub, gl, sp_rfP S.pp hX, sp_Co S.pp.pe S.pp.gof S.pp.pr hX, sp_Fr S.pp.pe S.pp.gof S.pp.pr hX, sp_or S.pp.pr hn hn, Nat.max_self]
  rfl
set_option maxRecDepth 100000 in
theorem pw_any (R : Rw) : pureS F 321 [.agg (grC X), .ptr (relC (nOf X) R)] = some (.ptr (relC (nOf X) (panR X R))) := by
  refine pure_of S.pw.power_any ?_
  have hn := nOf_le X
  have dn : pureS F 11 [.i .i64 X.evs.length, .sl [] 0 .non] = some (.ptr (relC (nOf X) (newR (nOf X) []))) := sp_new S.pp.pr X.evs.length [] .non (by simp)
  simp (disch := omega) only [A_power_any, wp, Nat.reduceAdd, Nat.reduceMul, Nat.reduceSub, gl, dn, sp_plus S.pp.pr hn, sp_maybe S.pp.pr hn, sp_or S.pp.pr hn hn, Nat.max_self]
  rfl
include hL
set_option maxRecDepth 100000 in
theorem pw_hb : pureS F 316 [.agg (grC X)] = some (.ptr (relC (nOf X) (phbR X))) := by
  refine pure_of S.pw.power_Hb ?_
  have hn := nOf_le X
  simp (disch := omega) only [A_power_Hb, wp, Nat.reduceAdd, Nat.reduceMul, Nat.reduceSub, gl, sp_ppo S.pp hX hL.data hL.ctrl hL.ctrli, pw_fences S hX, sp_rfP S.pp hX, sp_Outer S.pp.pe S.pp.gof S.pp.pr hn, sp_or S.pp.pr hn hn, Nat.max_self]
  rfl
set_option maxRecDepth 100000 in
set_option maxHeartbeats 4000000 in
theorem pw_prop : pureS F 320 [.agg (grC X)] = some (.ptr (relC (nOf X) (pprR X))) := by
  refine pure_of S.pw.power_Prop ?_
  have hn := nOf_le X
  simp (disch := omega) only [A_power_Prop, wp, Nat.reduceAdd, Nat.reduceMul, Nat.reduceSub, gl, pw_fences S hX, pw_hb S hX hL, pw_any S hX, pw_com S hX, pw_sync S hX, sp_rfP S.pp hX, sp_setF S.pp hX (pw_isW S), sp_Outer S.pp.pe S.pp.gof S.pp.pr hn, sp_then S.pp.pr hn hn, sp_or S.pp.pr hn hn, pw_then2 S hn, pw_then3 S hn, Nat.max_self]
  rfl
set_option maxRecDepth 100000 in
theorem pw_c1 : pureS F 311 [.agg (grC X)] = some (.b (pc1B X)) := by
  refine pure_of S.pw.power_conditions_1 ?_
  have hn := nOf_le X
  simp (disch := omega) only [A_power_conditions_1, wp, Nat.reduceAdd, Nat.reduceMul, Nat.reduceSub, gl, sp_locP S.pp hX, pw_own S hX, pw_com S hX, sp_or S.pp.pr hn hn, sp_loops S.pp.pr hn, Nat.max_self]
  rfl
set_option maxRecDepth 100000 in
theorem pw_c2 : pureS F 314 [.agg (grC X)] = some (.b (atB X)) := by
  refine pure_of S.pw.power_conditions_2 ?_
  have hn := nOf_le X
  simp (disch := omega) only [A_power_conditions_2, wp, Nat.reduceAdd, Nat.reduceMul, Nat.reduceSub, gl, sp_Fr S.pp.pe S.pp.gof S.pp.pr hX, sp_Co S.pp.pe S.pp.gof S.pp.pr hX, sp_Outer S.pp.pe S.pp.gof S.pp.pr hn, sp_ofP S.pp _ hL.rmw, sp_and S.pp.pr hn hn, sp_then S.pp.pr hn hn, sp_pairs S.pp.pr hn, Nat.max_self]
  rfl
set_option maxRecDepth 100000 in
theorem pw_c3 : pureS F 315 [.agg (grC X)] = some (.b (pc3B X)) := by
  refine pure_of S.pw.power_conditions_3 ?_
  have hn := nOf_le X
  simp (disch := omega) only [A_power_conditions_3, wp, Nat.reduceAdd, Nat.reduceMul, Nat.reduceSub, gl, pw_hb S hX hL, sp_loops S.pp.pr hn]
  rfl
omit hL in
set_option maxRecDepth 100000 in
set_option maxHeartbeats 4000000 in
theorem pw_free (C : Rw) : pureS F 318 [.agg (grC X), .ptr (relC (nOf X) C)] = some (.b (allN X.evs.length fun i => !has (nOf X) C i i)) := by
  refine pure_of S.pw.power_free ?_
  have hn := nOf_le X
  have hev : X.evs.length ≤ 1000 := by have := hX.1; omega
  have finT : (∀ i, i < X.evs.length → (!has (nOf X) C (i : Nat) (i : Nat)) = true) → (allN X.evs.length fun i => !has (nOf X) C i i) = true := allN_t
  have finF : ∀ k, k < X.evs.length → (!has (nOf X) C (k : Nat) (k : Nat)) = false → (allN X.evs.length fun i => !has (nOf X) C i i) = false := fun k hk h => allN_f hk h
  generalize (allN X.evs.length fun i => !has (nOf X) C i i) = R at finT finF
  simp (disch := omega) only [A_power_free, wp, Nat.reduceAdd, Nat.reduceMul, Nat.reduceSub, gl]
  refine W_loop (fun q e g => ∃ k : Nat, q = X.evs.length - k ∧ k ≤ X.evs.length ∧ e 1 = .ptr (relC (nOf X) C) ∧ e 8 = .i .i64 X.evs.length ∧ e 9 = .i .i64 k ∧ ∀ i, i < k → (!has (nOf X) C (i : Nat) (i : Nat)) = true) X.evs.length ?_ ?_
  · refine ⟨0, rfl, Nat.zero_le _, ?_⟩
    simp (disch := omega) only [wp, Nat.reduceAdd, Nat.reduceMul, Nat.reduceSub]
    exact ⟨rfl, fun i hi => by omega⟩
  · rintro q e g ⟨k, rfl, hk, e1, e8, e9, hall⟩
    by_cases hk' : k < X.evs.length
    · have hk1 : (k : Int) < X.evs.length := by omega
      have hwk := succ_wrap (k := k) (by omega)
      have hh := sp_has S.pp.pr hn C k k
      have hf := finF k hk'
      have hall' : (!has (nOf X) C (k : Nat) (k : Nat)) = true → ∀ i, i < k + 1 → (!has (nOf X) C (i : Nat) (i : Nat)) = true := by
        intro h i hi
        by_cases hik : i = k
        · subst hik; exact h
        · exact hall i (by omega)
      cases c : has (nOf X) C (k : Nat) (k : Nat)
      · rw [c] at hh hall'
        simp (disch := omega) only [wp, Nat.reduceAdd, Nat.reduceMul, Nat.reduceSub, gl, e1, e8, e9, hk1, hh, hwk]
        exact ⟨X.evs.length - (k + 1), by omega, k + 1, rfl, by omega, rfl, hall' rfl⟩
      · rw [c] at hh hf
        obtain rfl := hf rfl
        simp (disch := omega) only [wp, Nat.reduceAdd, Nat.reduceMul, Nat.reduceSub, gl, e1, e8, e9, hk1, hh]
    · have hk1 : ¬ ((k : Int) < X.evs.length) := by omega
      obtain rfl : k = X.evs.length := by omega
      obtain rfl := finT hall
      simp (disch := omega) only [wp, Nat.reduceAdd, Nat.reduceMul, Nat.reduceSub, gl, e1, e8, e9, hk1]
set_option maxRecDepth 100000 in
set_option maxHeartbeats 4000000 in
theorem pw_c4 : pureS F 317 [.agg (grC X)] = some (.b (pc4B X)) := by
  refine pure_of S.pw.power_conditions_4 ?_
  have hn := nOf_le X
  simp (disch := omega) only [A_power_conditions_4, wp, Nat.reduceAdd, Nat.reduceMul, Nat.reduceSub, gl, sp_Fr S.pp.pe S.pp.gof S.pp.pr hX, sp_Outer S.pp.pe S.pp.gof S.pp.pr hn, pw_prop S hX hL, pw_hb S hX hL, pw_any S hX, pw_then2 S hn, pw_free S hX]
  rfl
set_option maxRecDepth 100000 in
theorem pw_c5 : pureS F 322 [.agg (grC X)] = some (.b (pc5B X)) := by
  refine pure_of S.pw.power_conditions_5 ?_
  have hn := nOf_le X
  simp (disch := omega) only [A_power_conditions_5, wp, Nat.reduceAdd, Nat.reduceMul, Nat.reduceSub, gl, sp_Co S.pp.pe S.pp.gof S.pp.pr hX, pw_prop S hX hL, sp_or S.pp.pr hn hn, sp_loops S.pp.pr hn, Nat.max_self]
  rfl
omit hX hL in
set_option maxRecDepth 100000 in
theorem pw_conds : pureS F 292 [] = some (.agg [.fn 311 [] [], .fn 314 [] [], .fn 315 [] [], .fn 317 [] [], .fn 322 [] []]) := by
  refine pure_of S.pw.power_conditions ?_
  have r5 : ∀ x : AV, List.replicate 5 x = [x, x, x, x, x] := fun _ => rfl
  have s5 : ∀ a b c d e x1 x2 x3 x4 x5 : AV, splice [a, b, c, d, e] 0 [x1, x2, x3, x4, x5] = [x1, x2, x3, x4, x5] := fun _ _ _ _ _ _ _ _ _ _ => rfl
  have p5 : ∀ a b c d e : AV, part [a, b, c, d, e] 0 (some 5) = some (.agg [a, b, c, d, e]) := fun _ _ _ _ _ => rfl
  simp (disch := omega) only [A_power_conditions, wp, Nat.reduceAdd, Nat.reduceMul, Nat.reduceSub, gl, res_cell, resC, r5, s5, p5, List.length_set]
  refine frz_d_agg ?_
  show frzL _ (7 + 1) _ = _
  simp only [frzL, frz]
set_option maxRecDepth 100000 in
set_option maxHeartbeats 8000000 in
theorem pw_con : pureS F 276 [.agg (grC X)] = some (.b (pcnB X)) := by
  refine pure_of S.pw.power_Consistent ?_
  have hck := sg_check S.gr hL
  have h1 := pw_c1 S hX hL
  have h2 := pw_c2 S hX hL
  have h3 := pw_c3 S hX hL
  have h4 := pw_c4 S hX hL
  have h5 := pw_c5 S hX hL
  have hR : pcnB X = (gCheck X && (pc1B X && (atB X && (pc3B X && (pc4B X && pc5B X))))) := rfl
  cases c0 : gCheck X
  · rw [c0] at hck hR
    rw [hR]
    simp (disch := omega) only [A_power_Consistent, wp, Nat.reduceAdd, Nat.reduceMul, Nat.reduceSub, gl, hck]
  rw [c0] at hck
  rw [c0, Bool.true_and] at hR
  generalize pcnB X = R at hR
  generalize pc1B X = b1 at h1 hR
  generalize atB X = b2 at h2 hR
  generalize pc3B X = b3 at h3 hR
  generalize pc4B X = b4 at h4 hR
  generalize pc5B X = b5 at h5 hR
  have x0 : ∀ (a b c d e : AV) g, vIdx 5 1 (some 1) (.agg [a, b, c, d, e]) (.i .i64 ((0 : Nat) : Int)) g = some (.agg [a], g) := fun _ _ _ _ _ _ => rfl
  have x1 : ∀ (a b c d e : AV) g, vIdx 5 1 (some 1) (.agg [a, b, c, d, e]) (.i .i64 ((1 : Nat) : Int)) g = some (.agg [b], g) := fun _ _ _ _ _ _ => rfl
  have x2 : ∀ (a b c d e : AV) g, vIdx 5 1 (some 1) (.agg [a, b, c, d, e]) (.i .i64 ((2 : Nat) : Int)) g = some (.agg [c], g) := fun _ _ _ _ _ _ => rfl
  have x3 : ∀ (a b c d e : AV) g, vIdx 5 1 (some 1) (.agg [a, b, c, d, e]) (.i .i64 ((3 : Nat) : Int)) g = some (.agg [d], g) := fun _ _ _ _ _ _ => rfl
  have x4 : ∀ (a b c d e : AV) g, vIdx 5 1 (some 1) (.agg [a, b, c, d, e]) (.i .i64 ((4 : Nat) : Int)) g = some (.agg [e], g) := fun _ _ _ _ _ _ => rfl
  simp (disch := omega) only [A_power_Consistent, wp, Nat.reduceAdd, Nat.reduceMul, Nat.reduceSub, gl, hck, pw_conds S]
  refine W_loop (fun q e g => ∃ k : Nat, q = 5 - k ∧ k ≤ 5 ∧ e 1 = .mp 0 0 ∧ g.hp 0 = some (.cells (grC X) false) ∧ 0 < g.nx ∧ e 8 = .agg [.fn 311 [] [], .fn 314 [] [], .fn 315 [] [], .fn 317 [] [], .fn 322 [] []] ∧ e 9 = .i .i64 k ∧ (1 ≤ k → b1 = true) ∧ (2 ≤ k → b2 = true) ∧ (3 ≤ k → b3 = true) ∧ (4 ≤ k → b4 = true) ∧ (5 ≤ k → b5 = true)) 5 ?_ ?_
  · refine ⟨0, rfl, by omega, ?_⟩
    simp (disch := omega) only [wp, Nat.reduceAdd, Nat.reduceMul, Nat.reduceSub]
    exact ⟨by first | omega | (dsimp only; omega), rfl, fun h => by omega, fun h => by omega, fun h => by omega, fun h => by omega, fun h => by omega⟩
  · rintro q e g ⟨k, rfl, hk, e1, hg, hnx, e8, e9, q1, q2, q3, q4, q5⟩
    have lt0 : (((0 : Nat) : Int) < 5) := by omega
    have lt1 : (((1 : Nat) : Int) < 5) := by omega
    have lt2 : (((2 : Nat) : Int) < 5) := by omega
    have lt3 : (((3 : Nat) : Int) < 5) := by omega
    have lt4 : (((4 : Nat) : Int) < 5) := by omega
    have w0 := succ_wrap (k := 0) (by omega)
    have w1 := succ_wrap (k := 1) (by omega)
    have w2 := succ_wrap (k := 2) (by omega)
    have w3 := succ_wrap (k := 3) (by omega)
    have w4 := succ_wrap (k := 4) (by omega)
    have hk' : k = 0 ∨ k = 1 ∨ k = 2 ∨ k = 3 ∨ k = 4 ∨ k = 5 := by omega
    rcases hk' with rfl | rfl | rfl | rfl | rfl | rfl
    · cases b1
      · simp (disch := omega) only [wp, Nat.reduceAdd, Nat.reduceMul, Nat.reduceSub, gl, o_idx, e1, hg, e8, e9, lt0, x0, h1]
        rw [hR]; rfl
      · simp (disch := omega) only [wp, Nat.reduceAdd, Nat.reduceMul, Nat.reduceSub, gl, o_idx, e1, hg, e8, e9, lt0, x0, h1, w0]
        exact ⟨4, by omega, 1, rfl, by omega, by first | omega | (dsimp only; omega), rfl, fun _ => trivial, fun h => by omega, fun h => by omega, fun h => by omega, fun h => by omega⟩
    · obtain rfl := q1 (by omega)
      cases b2
      · simp (disch := omega) only [wp, Nat.reduceAdd, Nat.reduceMul, Nat.reduceSub, gl, o_idx, e1, hg, e8, e9, lt1, x1, h2]
        rw [hR]; rfl
      · simp (disch := omega) only [wp, Nat.reduceAdd, Nat.reduceMul, Nat.reduceSub, gl, o_idx, e1, hg, e8, e9, lt1, x1, h2, w1]
        exact ⟨3, by omega, 2, rfl, by omega, by first | omega | (dsimp only; omega), rfl, fun _ => trivial, fun _ => trivial, fun h => by omega, fun h => by omega, fun h => by omega⟩
    · obtain rfl := q1 (by omega)
      obtain rfl := q2 (by omega)
      cases b3
      · simp (disch := omega) only [wp, Nat.reduceAdd, Nat.reduceMul, Nat.reduceSub, gl, o_idx, e1, hg, e8, e9, lt2, x2, h3]
        rw [hR]; rfl
      · simp (disch := omega) only [wp, Nat.reduceAdd, Nat.reduceMul, Nat.reduceSub, gl, o_idx, e1, hg, e8, e9, lt2, x2, h3, w2]
        exact ⟨2, by omega, 3, rfl, by omega, by first | omega | (dsimp only; omega), rfl, fun _ => trivial, fun _ => trivial, fun _ => trivial, fun h => by omega, fun h => by omega⟩
    · obtain rfl := q1 (by omega)
      obtain rfl := q2 (by omega)
      obtain rfl := q3 (by omega)
      cases b4
      · simp (disch := omega) only [wp, Nat.reduceAdd, Nat.reduceMul, Nat.reduceSub, gl, o_idx, e1, hg, e8, e9, lt3, x3, h4]
        rw [hR]; rfl
      · simp (disch := omega) only [wp, Nat.reduceAdd, Nat.reduceMul, Nat.reduceSub, gl, o_idx, e1, hg, e8, e9, lt3, x3, h4, w3]
        exact ⟨1, by omega, 4, rfl, by omega, by first | omega | (dsimp only; omega), rfl, fun _ => trivial, fun _ => trivial, fun _ => trivial, fun _ => trivial, fun h => by omega⟩
    · obtain rfl := q1 (by omega)
      obtain rfl := q2 (by omega)
      obtain rfl := q3 (by omega)
      obtain rfl := q4 (by omega)
      cases b5
      · simp (disch := omega) only [wp, Nat.reduceAdd, Nat.reduceMul, Nat.reduceSub, gl, o_idx, e1, hg, e8, e9, lt4, x4, h5]
        rw [hR]; rfl
      · simp (disch := omega) only [wp, Nat.reduceAdd, Nat.reduceMul, Nat.reduceSub, gl, o_idx, e1, hg, e8, e9, lt4, x4, h5, w4]
        exact ⟨0, by omega, 5, rfl, by omega, by first | omega | (dsimp only; omega), rfl, fun _ => trivial, fun _ => trivial, fun _ => trivial, fun _ => trivial, fun _ => trivial⟩
    · obtain rfl := q1 (by omega)
      obtain rfl := q2 (by omega)
      obtain rfl := q3 (by omega)
      obtain rfl := q4 (by omega)
      obtain rfl := q5 (by omega)
      have n5 : ¬ (((5 : Nat) : Int) < 5) := by omega
      simp (disch := omega) only [wp, Nat.reduceAdd, Nat.reduceMul, Nat.reduceSub, gl, e1, hg, e8, e9, n5]
      rw [hR]; rfl
end
end Go.Ab
end
section
set_option linter.unusedVariables false
set_option linter.unusedSimpArgs false
namespace Go.Ab
inductive ET where
  | leaf
  | node (v : Option AV) (l r : ET)
noncomputable def ET.get (t : ET) : Nat → Option AV :=
  ET.rec (motive := fun _ => Nat → Option AV) (fun _ => none) (fun v _ _ gl gr n => Nat.rec (motive := fun _ => Option AV) v (fun m _ => Bool.rec (motive := fun _ => Option AV) (gr (Nat.div m 2)) (gl (Nat.div m 2)) (Nat.beq (Nat.mod m 2) 0)) n) t
theorem ET.get_succ (v l r) (m : Nat) : (ET.node v l r).get (m + 1) = if m % 2 = 0 then l.get (m / 2) else r.get (m / 2) := by
  show Bool.rec (motive := fun _ => Option AV) (r.get (m / 2)) (l.get (m / 2)) (Nat.beq (m % 2) 0) = _
  cases h : Nat.beq (m % 2) 0 with
  | true => rw [if_pos (Nat.eq_of_beq_eq_true h)]
  | false => rw [if_neg (Nat.ne_of_beq_eq_false h)]
section
variable {α : Type}
noncomputable def ET.putK (v : AV) (fuel : Nat) : ET → Nat → (ET → α) → α :=
  Nat.rec (motive := fun _ => ET → Nat → (ET → α) → α) (fun t _ k => k t)
    (fun _ ih t n k => ET.rec (motive := fun _ => α)
      (Nat.rec (motive := fun _ => α) (k (.node (some v) .leaf .leaf)) (fun m _ => Bool.rec (motive := fun _ => α) (ih .leaf (Nat.div m 2) fun r' => k (.node none .leaf r')) (ih .leaf (Nat.div m 2) fun l' => k (.node none l' .leaf)) (Nat.beq (Nat.mod m 2) 0)) n)
      (fun w l r _ _ => Nat.rec (motive := fun _ => α) (k (.node (some v) l r)) (fun m _ => Bool.rec (motive := fun _ => α) (ih r (Nat.div m 2) fun r' => k (.node w l r')) (ih l (Nat.div m 2) fun l' => k (.node w l' r)) (Nat.beq (Nat.mod m 2) 0)) n) t) fuel
theorem ET.putK_ok (v : AV) : ∀ (fuel : Nat) (t : ET) (n : Nat) (k : ET → α), n < fuel → ∃ t', ET.putK v fuel t n k = k t' ∧ ∀ j, t'.get j = if j = n then some v else t.get j
  | 0, _, _, _, h => absurd h (Nat.not_lt_zero _)
  | f + 1, t, 0, k, _ => by
    cases t with
    | leaf =>
      refine ⟨.node (some v) .leaf .leaf, rfl, fun j => ?_⟩
      cases j with
      | zero => rfl
      | succ j => rw [ET.get_succ, if_neg (Nat.succ_ne_zero j)]; split <;> rfl
    | node w l r =>
      refine ⟨.node (some v) l r, rfl, fun j => ?_⟩
      cases j with
      | zero => rfl
      | succ j => rw [ET.get_succ, if_neg (Nat.succ_ne_zero j), ET.get_succ]
  | f + 1, t, m + 1, k, h => by
    have hd : m / 2 < f := by omega
    cases t with
    | leaf =>
      cases hb : Nat.beq (m % 2) 0 with
      | true =>
        have hm := Nat.eq_of_beq_eq_true hb
        obtain ⟨t', h1, h2⟩ := ET.putK_ok v f .leaf (m / 2) (fun l' => k (.node none l' .leaf)) hd
        refine ⟨.node none t' .leaf, ?_, fun j => ?_⟩
        · show Bool.rec (motive := fun _ => α) _ (ET.putK v f .leaf (m / 2) fun l' => k (.node none l' .leaf)) (Nat.beq (m % 2) 0) = _
          rw [hb]; exact h1
        · cases j with
          | zero => rw [if_neg (by omega)]; rfl
          | succ j =>
            rw [ET.get_succ]
            by_cases hj : j % 2 = 0
            · rw [if_pos hj, h2]
              by_cases e : j / 2 = m / 2
              · rw [if_pos e, if_pos (by omega)]
              · rw [if_neg e, if_neg (by omega)]; rfl
            · rw [if_neg hj, if_neg (by omega)]; rfl
      | false =>
        have hm := Nat.ne_of_beq_eq_false hb
        obtain ⟨t', h1, h2⟩ := ET.putK_ok v f .leaf (m / 2) (fun r' => k (.node none .leaf r')) hd
        refine ⟨.node none .leaf t', ?_, fun j => ?_⟩
        · show Bool.rec (motive := fun _ => α) (ET.putK v f .leaf (m / 2) fun r' => k (.node none .leaf r')) _ (Nat.beq (m % 2) 0) = _
          rw [hb]; exact h1
        · cases j with
          | zero => rw [if_neg (by omega)]; rfl
          | succ j =>
            rw [ET.get_succ]
            by_cases hj : j % 2 = 0
            · rw [if_pos hj, if_neg (by omega)]; rfl
            · rw [if_neg hj, h2]
              by_cases e : j / 2 = m / 2
              · rw [if_pos e, if_pos (by omega)]
              · rw [if_neg e, if_neg (by omega)]; rfl
    | node w l r =>
      cases hb : Nat.beq (m % 2) 0 with
      | true =>
        have hm := Nat.eq_of_beq_eq_true hb
        obtain ⟨t', h1, h2⟩ := ET.putK_ok v f l (m / 2) (fun l' => k (.node w l' r)) hd
        refine ⟨.node w t' r, ?_, fun j => ?_⟩
        · show Bool.rec (motive := fun _ => α) _ (ET.putK v f l (m / 2) fun l' => k (.node w l' r)) (Nat.beq (m % 2) 0) = _
          rw [hb]; exact h1
        · cases j with
          | zero => rw [if_neg (by omega)]; rfl
          | succ j =>
            rw [ET.get_succ, ET.get_succ]
            by_cases hj : j % 2 = 0
            · rw [if_pos hj, if_pos hj, h2]
              by_cases e : j / 2 = m / 2
              · rw [if_pos e, if_pos (by omega)]
              · rw [if_neg e, if_neg (by omega)]
            · rw [if_neg hj, if_neg hj, if_neg (by omega)]
      | false =>
        have hm := Nat.ne_of_beq_eq_false hb
        obtain ⟨t', h1, h2⟩ := ET.putK_ok v f r (m / 2) (fun r' => k (.node w l r')) hd
        refine ⟨.node w l t', ?_, fun j => ?_⟩
        · show Bool.rec (motive := fun _ => α) (ET.putK v f r (m / 2) fun r' => k (.node w l r')) _ (Nat.beq (m % 2) 0) = _
          rw [hb]; exact h1
        · cases j with
          | zero => rw [if_neg (by omega)]; rfl
          | succ j =>
            rw [ET.get_succ, ET.get_succ]
            by_cases hj : j % 2 = 0
            · rw [if_pos hj, if_pos hj, if_neg (by omega)]
            · rw [if_neg hj, if_neg hj, h2]
              by_cases e : j / 2 = m / 2
              · rw [if_pos e, if_pos (by omega)]
              · rw [if_neg e, if_neg (by omega)]
noncomputable def frcN (n : Nat) (k : Nat → α) : α := Nat.rec (motive := fun _ => α) (k 0) (fun m _ => k (Nat.add m 1)) n
theorem frcN_ok (n : Nat) (k : Nat → α) : frcN n k = k n := by cases n <;> rfl
noncomputable def frcI (n : Int) (k : Int → α) : α := Int.rec (motive := fun _ => α) (fun m => frcN m fun m => k (.ofNat m)) (fun m => frcN m fun m => k (.negSucc m)) n
theorem frcI_ok (n : Int) (k : Int → α) : frcI n k = k n := by
  cases n with
  | ofNat m => exact frcN_ok m fun m => k (.ofNat m)
  | negSucc m => exact frcN_ok m fun m => k (.negSucc m)
noncomputable def frcB (x : Bool) (k : Bool → α) : α := Bool.rec (motive := fun _ => α) (k false) (k true) x
theorem frcB_ok (x : Bool) (k : Bool → α) : frcB x k = k x := by cases x <;> rfl
noncomputable def frc1 (v : AV) (k : AV → α) : α := match v with
  | .i s n => frcI n fun n => k (.i s n)
  | .b x => frcB x fun x => k (.b x)
  | v => k v
theorem frc1_ok (v : AV) (k : AV → α) : frc1 v k = k v := by
  cases v with
  | i s n => exact frcI_ok n fun n => k (.i s n)
  | b x => exact frcB_ok x fun x => k (.b x)
  | _ => rfl
noncomputable def frcL (cs : List AV) : (List AV → α) → α := List.rec (motive := fun _ => (List AV → α) → α) (fun k => k []) (fun c _ ih k => frc1 c fun c => ih fun cs => k (c :: cs)) cs
theorem frcL_ok : ∀ (cs : List AV) (k : List AV → α), frcL cs k = k cs
  | [], _ => rfl
  | c :: cs, k => by
    show frc1 c (fun c => frcL cs fun cs => k (c :: cs)) = _
    rw [frc1_ok, frcL_ok cs]
noncomputable def frcV (v : AV) (k : AV → α) : α := match v with
  | .i s n => frcI n fun n => k (.i s n)
  | .b x => frcB x fun x => k (.b x)
  | .sl cs n t => frcL cs fun cs => frcN n fun n => k (.sl cs n t)
  | .agg cs => frcL cs fun cs => k (.agg cs)
  | .ptr cs => frcL cs fun cs => k (.ptr cs)
  | .mp a o => frcN a fun a => frcN o fun o => k (.mp a o)
  | .ms a o n => frcN a fun a => frcN o fun o => frcN n fun n => k (.ms a o n)
  | v => k v
theorem frcV_ok (v : AV) (k : AV → α) : frcV v k = k v := by
  cases v with
  | i s n => exact frcI_ok n fun n => k (.i s n)
  | b x => exact frcB_ok x fun x => k (.b x)
  | sl cs n t =>
    show frcL cs (fun cs => frcN n fun n => k (.sl cs n t)) = _
    rw [frcL_ok, frcN_ok]
  | agg cs => exact frcL_ok cs fun cs => k (.agg cs)
  | ptr cs => exact frcL_ok cs fun cs => k (.ptr cs)
  | mp a o =>
    show frcN a (fun a => frcN o fun o => k (.mp a o)) = _
    rw [frcN_ok, frcN_ok]
  | ms a o n =>
    show frcN a (fun a => frcN o fun o => frcN n fun n => k (.ms a o n)) = _
    rw [frcN_ok, frcN_ok, frcN_ok]
  | _ => rfl
end
noncomputable def mapO (f : AV → Option AV) (cs : List AV) : Option (List AV) := List.rec (motive := fun _ => Option (List AV)) (some []) (fun c _ ih => match f c with
  | some c => (match ih with | some cs => some (c :: cs) | none => none)
  | none => none) cs
noncomputable def frzK (hp : Nat → Option Blk) (k : Nat) : AV → Option AV := Nat.rec (motive := fun _ => AV → Option AV) (fun _ => none) (fun _ ih v => match v with
  | .agg cs => (match mapO ih cs with | some cs => some (.agg cs) | none => none)
  | .tup cs => (match mapO ih cs with | some cs => some (.tup cs) | none => none)
  | .sl cs n _ => some (.sl cs n .non)
  | .mp id off => (match hp id with
    | some (.cells cs _) => (match mapO ih (cs.drop off) with | some cs => some (.ptr cs) | none => none)
    | _ => none)
  | .ms id off n => (match hp id with
    | some (.cells cs _) => (match mapO ih (cs.drop off) with | some cs => some (.sl cs n .non) | none => none)
    | _ => none)
  | .fn f a b => (match mapO ih a with
    | some a => (match mapO ih b with | some b => some (.fn f a b) | none => none)
    | none => none)
  | .ifc t v => (match ih v with | some v => some (.ifc t v) | none => none)
  | .mm _ => none
  | v => some v) k
noncomputable def frzLK (hp : Nat → Option Blk) (k : Nat) (cs : List AV) : Option (List AV) := mapO (frzK hp k) cs
theorem mapO_cons (f c cs) : mapO f (c :: cs) = (match f c with
  | some c => (match mapO f cs with | some cs => some (c :: cs) | none => none)
  | none => none) := rfl
theorem mapO_frz (hp : Nat → Option Blk) (k : Nat) (h : ∀ v, frzK hp k v = frz hp k v) : ∀ cs, mapO (frzK hp k) cs = frzL hp k cs
  | [] => by simp only [frzL]; rfl
  | c :: cs => by
    rw [mapO_cons, mapO_frz hp k h cs, h c]
    simp only [frzL]
    cases frz hp k c <;> cases frzL hp k cs <;> rfl
theorem frzK_ok (hp : Nat → Option Blk) : ∀ (k : Nat) (v : AV), frzK hp k v = frz hp k v
  | 0, v => by simp only [frz]; rfl
  | k + 1, v => by
    have hl := mapO_frz hp k (frzK_ok hp k)
    have e : frzK hp (k + 1) v = (match v with
      | .agg cs => (match mapO (frzK hp k) cs with | some cs => some (.agg cs) | none => none)
      | .tup cs => (match mapO (frzK hp k) cs with | some cs => some (.tup cs) | none => none)
      | .sl cs n _ => some (.sl cs n .non)
      | .mp id off => (match hp id with
        | some (.cells cs _) => (match mapO (frzK hp k) (cs.drop off) with | some cs => some (.ptr cs) | none => none)
        | _ => none)
      | .ms id off n => (match hp id with
        | some (.cells cs _) => (match mapO (frzK hp k) (cs.drop off) with | some cs => some (.sl cs n .non) | none => none)
        | _ => none)
      | .fn f a b => (match mapO (frzK hp k) a with
        | some a => (match mapO (frzK hp k) b with | some b => some (.fn f a b) | none => none)
        | none => none)
      | .ifc t v => (match frzK hp k v with | some v => some (.ifc t v) | none => none)
      | .mm _ => none
      | v => some v) := rfl
    rw [e]
    simp only [hl, frzK_ok hp k]
    cases v with
    | agg cs => simp only [frz]; cases frzL hp k cs <;> rfl
    | tup cs => simp only [frz]; cases frzL hp k cs <;> rfl
    | mp id off =>
      simp only [frz]
      cases hp id with
      | none => rfl
      | some b =>
        cases b with
        | cells cs ro => simp only; cases frzL hp k (cs.drop off) <;> rfl
        | _ => rfl
    | ms id off n =>
      simp only [frz]
      cases hp id with
      | none => rfl
      | some b =>
        cases b with
        | cells cs ro => simp only; cases frzL hp k (cs.drop off) <;> rfl
        | _ => rfl
    | fn f a b =>
      simp only [frz]
      cases frzL hp k a <;> cases frzL hp k b <;> rfl
    | ifc t v => simp only [frz]; cases frz hp k v <;> rfl
    | _ => simp only [frz]
theorem frzLK_ok (hp : Nat → Option Blk) (k : Nat) (cs : List AV) : frzLK hp k cs = frzL hp k cs := mapO_frz hp k (frzK_ok hp k) cs
noncomputable def kBoxI (v : AV) (g : G) : Option (AV × G) :=
  if (cellsOf v).all one then vMapL .ptr g (frzLK (fun _ => none) depth (cellsOf v)) else none
noncomputable def kBsl (id : Nat) (imm : Bool) (n : Nat) (cs : Option (List AV)) (g : G) : Option (AV × G) := match cs with
  | none => none
  | some cs =>
    if imm then vMapL (fun cs => .sl cs n .rig) g (frzLK (fun _ => none) depth cs)
    else some (.ms id 0 n, ⟨upd g.hp id (some (.cells cs false)), g.nx⟩)
noncomputable def kSrc (al : Nat → Bool) (esz : Nat) (y : AV) (g : G) : Option (List AV × Nat) := match y with
  | .sl ds m _ => some (ds, m)
  | .ms b off m => match rd g al b with
    | some (.cells ds _) => match frzLK (fun _ => none) depth ((ds.drop off).take (m * esz)) with
      | some ds => some (ds, m)
      | none => none
    | _ => none
  | _ => none
noncomputable def kApp (al : Nat → Bool) (id esz bytes : Nat) (x y : AV) (g : G) : Option (AV × G) := match x with
  | .sl cs n t => match kSrc al esz y g with
    | none => none
    | some (ds, m) =>
      if (n + m) * bytes ≤ 2 ^ 46 ∧ n + m ≤ 2 ^ 62 ∧ cs.length = n * esz ∧ ds.length = m * esz then
        match t with
        | .non => none
        | .rig => if m = 0 then some (.sl cs n .rig, g) else some (.sl (cs ++ ds) (n + m) (.own id esz), ⟨upd g.hp id (some (.tok true)), g.nx⟩)
        | .own tk e => match rd g al tk with
          | some (.tok true) => if e = esz then some (.sl (cs ++ ds) (n + m) (.own id esz), ⟨upd (upd g.hp tk (some (.tok false))) id (some (.tok true)), g.nx⟩) else none
          | _ => none
      else none
  | _ => none
theorem kSrc_ok (al esz y g) : kSrc al esz y g = vSrc al esz y g := by unfold kSrc vSrc; simp only [frzLK_ok]; rfl
theorem kApp_ok (al id esz bytes x y g) : kApp al id esz bytes x y g = vApp al id esz bytes x y g := by
  unfold kApp vApp
  simp only [kSrc_ok]
  rfl
theorem kBsl_ok (id imm n cs g) : kBsl id imm n cs g = vBsl id imm n cs g := by unfold kBsl vBsl; simp only [frzLK_ok]; first | done | rfl
theorem kBoxI_ok (v g) : kBoxI v g = vBoxI v g := by unfold kBoxI vBoxI; simp only [frzLK_ok]; first | done | rfl
noncomputable def kCall (call : CS) (al : Nat → Bool) (id : Nat) (m : Mode) (f : AV) (args : List AV) (g : G) : Option (AV × G) := match f with
  | .fn fid fst caps => match m with
    | .raw => call fid (fst ++ args ++ caps) g
    | .pure => match frzLK (rd g al) depth (fst ++ args ++ caps) with
      | none => none
      | some bs => match call fid bs ⟨fun _ => none, 0⟩ with
        | none => none
        | some (v, g') => match frzK g'.hp depth v with
          | none => none
          | some v => if flat v || ((fst ++ args ++ caps).flatMap (vis (rd g al) depth)).isEmpty then some (v, g) else none
    | .lock => match frzLK (rd g al) depth (fst ++ args ++ caps) with
      | none => none
      | some bs => match call fid bs ⟨fun _ => none, 0⟩ with
        | none => none
        | some (v, g') => match frzK g'.hp depth v with
          | none => none
          | some v => some (v, ⟨lock g.hp ((fst ++ args ++ caps).flatMap (vis (rd g al) depth)), g.nx⟩)
    | .thaw => match frzLK (rd g al) depth (fst ++ args ++ caps) with
      | none => none
      | some bs => match call fid bs ⟨fun _ => none, 0⟩ with
        | some (.mp b 0, g') => match g'.hp b with
          | some (.cells cs false) => match frzLK g'.hp depth cs with
            | some cs' =>
              if ((fst ++ args ++ caps).flatMap (vis (rd g al) depth)).isEmpty && !(cs.flatMap (vis g'.hp depth)).contains b then some (.mp id 0, ⟨upd g.hp id (some (.cells cs' false)), g.nx⟩) else none
            | none => none
          | _ => none
        | _ => none
  | _ => none
theorem kCall_ok (call al id m f args g) : kCall call al id m f args g = vCall call al id m f args g := by
  unfold kCall vCall
  simp only [frzLK_ok, frzK_ok]
  rfl
abbrev Orc := Nat → List AV → Option AV
noncomputable def kev (b : Env) (t : ET) : Env := fun n => match t.get n with | some v => v | none => b n
noncomputable def putO {α : Type} (d : Option Nat) (v : AV) (t : ET) (k : ET → α) : α := match d with
  | some d => ET.putK v (d + 1) t d k
  | none => k t
theorem putO_ok {α : Type} (b : Env) (d : Option Nat) (v : AV) (t : ET) (k : ET → α) : ∃ t', putO d v t k = k t' ∧ kev b t' = put (kev b t) d v := by
  cases d with
  | none => exact ⟨t, rfl, rfl⟩
  | some d =>
    obtain ⟨t', h1, h2⟩ := ET.putK_ok v (d + 1) t d k (by omega)
    refine ⟨t', h1, ?_⟩
    funext j
    simp only [kev, put, upd, h2]
    by_cases e : j = d
    · simp only [if_pos e]
    · simp only [if_neg e]
noncomputable def ltI (a b : Int) : Bool := Int.rec (motive := fun _ => Bool) (fun m => Int.rec (motive := fun _ => Bool) (fun n => Nat.ble (Nat.add m 1) n) (fun _ => false) b) (fun m => Int.rec (motive := fun _ => Bool) (fun _ => true) (fun n => Nat.ble (Nat.add n 1) m) b) a
theorem ble_dec (m n : Nat) : Nat.ble m n = decide (m ≤ n) := by
  cases h : Nat.ble m n with
  | true => exact (decide_eq_true (Nat.le_of_ble_eq_true h)).symm
  | false => exact (decide_eq_false (fun hh => by rw [Nat.ble_eq_true_of_le hh] at h; cases h)).symm
theorem ltI_ok (a b : Int) : ltI a b = decide (a < b) := by
  cases a with
  | ofNat m =>
    cases b with
    | ofNat n =>
      show Nat.ble (m + 1) n = _
      rw [ble_dec, decide_eq_decide]
      show m + 1 ≤ n ↔ (m : Int) < (n : Int)
      omega
    | negSucc n =>
      show false = _
      refine (decide_eq_false ?_).symm
      show ¬ (m : Int) < Int.negSucc n
      omega
  | negSucc m =>
    cases b with
    | ofNat n =>
      show true = _
      refine (decide_eq_true ?_).symm
      show Int.negSucc m < (n : Int)
      omega
    | negSucc n =>
      show Nat.ble (n + 1) m = _
      rw [ble_dec, decide_eq_decide]
      omega
noncomputable def eqI (a b : Int) : Bool := Int.rec (motive := fun _ => Bool) (fun m => Int.rec (motive := fun _ => Bool) (fun n => Nat.beq m n) (fun _ => false) b) (fun m => Int.rec (motive := fun _ => Bool) (fun _ => false) (fun n => Nat.beq m n) b) a
theorem beq_dec (m n : Nat) : Nat.beq m n = decide (m = n) := by
  cases h : Nat.beq m n with
  | true => exact (decide_eq_true (Nat.eq_of_beq_eq_true h)).symm
  | false => exact (decide_eq_false (Nat.ne_of_beq_eq_false h)).symm
theorem eqI_ok (a b : Int) : eqI a b = (a == b) := by
  have e : (a == b) = decide (a = b) := by rw [Bool.eq_iff_iff]; simp
  rw [e]
  cases a with
  | ofNat m =>
    cases b with
    | ofNat n =>
      show Nat.beq m n = _
      rw [beq_dec, decide_eq_decide]
      show m = n ↔ (m : Int) = (n : Int)
      omega
    | negSucc n => exact (decide_eq_false (fun h => by cases h)).symm
  | negSucc m =>
    cases b with
    | ofNat n => exact (decide_eq_false (fun h => by cases h)).symm
    | negSucc n =>
      show Nat.beq m n = _
      rw [beq_dec, decide_eq_decide]
      omega
noncomputable def wrI (n : Int) : Int := Int.rec (motive := fun _ => Int) (fun m => Bool.rec (motive := fun _ => Int) (IntKind.i64.wrap (.ofNat m)) (.ofNat m) (Nat.ble m 9223372036854775807)) (fun m => Bool.rec (motive := fun _ => Int) (IntKind.i64.wrap (.negSucc m)) (.negSucc m) (Nat.ble m 9223372036854775807)) n
theorem wrI_in {x : Int} (h : -9223372036854775808 ≤ x) (h2 : x ≤ 9223372036854775807) : IntKind.i64.wrap x = x := by
  simp [IntKind.wrap, IntKind.bits, IntKind.signed]
  omega
theorem wrI_ok (n : Int) : wrI n = IntKind.i64.wrap n := by
  cases n with
  | ofNat m =>
    show Bool.rec (motive := fun _ => Int) (IntKind.i64.wrap (.ofNat m)) (.ofNat m) (Nat.ble m 9223372036854775807) = _
    rw [ble_dec]
    by_cases h : m ≤ 9223372036854775807
    · rw [decide_eq_true h]
      exact (wrI_in (x := (m : Int)) (by omega) (by omega)).symm
    · rw [decide_eq_false h]
  | negSucc m =>
    show Bool.rec (motive := fun _ => Int) (IntKind.i64.wrap (.negSucc m)) (.negSucc m) (Nat.ble m 9223372036854775807) = _
    rw [ble_dec]
    by_cases h : m ≤ 9223372036854775807
    · rw [decide_eq_true h]
      exact (wrI_in (x := Int.negSucc m) (by omega) (by omega)).symm
    · rw [decide_eq_false h]
noncomputable def addI (a b : Int) : Int := Int.rec (motive := fun _ => Int) (fun m => Int.rec (motive := fun _ => Int) (fun n => .ofNat (Nat.add m n)) (fun n => Int.add (.ofNat m) (.negSucc n)) b) (fun m => Int.add (.negSucc m) b) a
theorem addI_ok (a b : Int) : addI a b = a + b := by cases a <;> cases b <;> rfl
noncomputable def kII (op : BinOp) : Int → Int → Option AV := BinOp.casesOn (motive := fun _ => Int → Int → Option AV) op
  (fun a b => some (.i .i64 (wrI (addI a b)))) (fun a b => some (.i .i64 (wrI (Int.sub a b)))) (ibin .mul .i64) (ibin .quo .i64) (ibin .rem .i64) (ibin .and .i64) (ibin .or .i64) (ibin .xor .i64)
  (ishift .shl .i64) (ishift .shr .i64) (ibin .andNot .i64) (fun a b => some (.b (eqI a b))) (fun a b => some (.b (!eqI a b))) (fun a b => some (.b (ltI a b))) (fun a b => some (.b (!ltI b a))) (fun a b => some (.b (ltI b a))) (fun a b => some (.b (!ltI a b)))
theorem kII_ok (op : BinOp) (a b : Int) : kII op a b = abin op (.i .i64 a) (.i .i64 b) := by
  cases op
  · show some (AV.i .i64 (wrI (addI a b))) = _
    rw [wrI_ok, addI_ok]; simp [abin, ibin]
  · show some (AV.i .i64 (wrI (a - b))) = _
    rw [wrI_ok]; simp [abin, ibin]
  · show ibin .mul .i64 a b = _; simp [abin]
  · show ibin .quo .i64 a b = _; simp [abin]
  · show ibin .rem .i64 a b = _; simp [abin]
  · show ibin .and .i64 a b = _; simp [abin]
  · show ibin .or .i64 a b = _; simp [abin]
  · show ibin .xor .i64 a b = _; simp [abin]
  · show ishift .shl .i64 a b = _; simp [abin]
  · show ishift .shr .i64 a b = _; simp [abin]
  · show ibin .andNot .i64 a b = _; simp [abin]
  · show some (AV.b (eqI a b)) = _
    rw [eqI_ok]; simp [abin, ibin]
  · show some (AV.b (!eqI a b)) = _
    rw [eqI_ok]; simp only [abin, ibin, if_true]; rfl
  · show some (AV.b (ltI a b)) = _
    rw [ltI_ok]; simp [abin, ibin]
  · show some (AV.b (!ltI b a)) = _
    rw [ltI_ok]; simp [abin, ibin]
    rw [← decide_not, decide_eq_decide]; omega
  · show some (AV.b (ltI b a)) = _
    rw [ltI_ok]; simp [abin, ibin]
  · show some (AV.b (!ltI a b)) = _
    rw [ltI_ok]; simp [abin, ibin]
    rw [← decide_not, decide_eq_decide]; omega
noncomputable def kBin (op : BinOp) (x y : AV) : Option AV := match x with
  | .i k a => (match k with
    | .i64 => (match y with
      | .i k' b => (match k' with
        | .i64 => kII op a b
        | k' => abin op (.i .i64 a) (.i k' b))
      | y => abin op (.i .i64 a) y)
    | k => abin op (.i k a) y)
  | x => abin op x y
theorem kBin_ok (op : BinOp) (x y : AV) : kBin op x y = abin op x y := by
  cases x with
  | i k a =>
    cases k <;> first
      | rfl
      | (cases y with
        | i k' b => cases k' <;> first | rfl | exact kII_ok op a b
        | _ => rfl)
  | _ => rfl
noncomputable def frcR (r : Option (AV × G)) : Option (AV × G) := match r with
  | some (v, g) => frcV v fun v => some (v, g)
  | none => none
theorem frcR_ok (r : Option (AV × G)) : frcR r = r := by
  cases r with
  | none => rfl
  | some p =>
    obtain ⟨v, g⟩ := p
    show frcV v (fun v => some (v, g)) = _
    rw [frcV_ok]
abbrev KO := Orc → CS → (Nat → Bool) → Nat → Nat → Env → G → Option (AV × G)
noncomputable def ko_mv (x : Opd) : KO := fun _ _ _ _ _ e g => some (x.ev e, g)
noncomputable def ko_pick (c a b : Opd) : KO := fun _ _ _ _ _ e g => vPick (c.ev e) (a.ev e) (b.ev e) g
noncomputable def ko_new (zero : List AV) : KO := fun _ _ _ _ id _ g => some (.mp id 0, ⟨upd g.hp id (some (.cells zero false)), g.nx⟩)
noncomputable def ko_box (x : Opd) : KO := fun _ _ _ _ id e g => vBox id (x.ev e) g
noncomputable def ko_boxI (x : Opd) : KO := fun _ _ _ _ _ e g => kBoxI (x.ev e) g
noncomputable def ko_build (zero : List AV) (parts : List (Nat × Nat × Opd)) : KO := fun _ _ _ _ _ e g => frcR (vMapL .agg g (fill e zero parts))
noncomputable def ko_bsl (imm : Bool) (n : Nat) (zero : List AV) (parts : List (Nat × Nat × Opd)) : KO := fun _ _ _ _ id e g => frcR (kBsl id imm n (fill e zero parts) g)
noncomputable def ko_ld (agg : Option Nat) (x : Opd) : KO := fun _ _ al _ _ e g => vLd al agg (x.ev e) g
noncomputable def ko_st (n : Nat) (a x : Opd) : KO := fun _ _ al _ _ e g => vSt al n (a.ev e) (x.ev e) g
noncomputable def ko_stL (n : Nat) (a x : Opd) : KO := fun _ _ al lo _ e g => vSt (fun i => decide (lo ≤ i) && al i) n (a.ev e) (x.ev e) g
noncomputable def ko_ldF (agg : Option Nat) (x : Opd) : KO := fun _ _ al _ _ e g => vLdF al agg (x.ev e) g
noncomputable def ko_stW (n : Nat) (a x : Opd) : KO := fun _ _ al _ _ e g => vSt al n (a.ev e) (x.ev e) g
noncomputable def ko_ldQ (agg : Option Nat) (x : Opd) (t : Nat) : KO := fun _ _ al _ _ e g => vLdQ al agg (x.ev e) (e t) g
noncomputable def ko_stN (n : Nat) (a x : Opd) (ts : List Nat) : KO := fun _ _ al _ _ e g => vStN al n (a.ev e) (x.ev e) (ts.map e) g
noncomputable def ko_nilck (x : Opd) : KO := fun _ _ _ _ _ e g => vNil (x.ev e) g
noncomputable def ko_bin (op : BinOp) (x y : Opd) : KO := fun _ _ _ _ _ e g => frcR (vMap g (kBin op (x.ev e) (y.ev e)))
noncomputable def ko_eqb (neg : Bool) (x y : Opd) : KO := fun _ _ _ _ _ e g => frcR (vMap g (negb neg (aeqb (x.ev e) (y.ev e))))
noncomputable def ko_eqn (neg : Bool) (x y : Opd) : KO := fun _ _ _ _ _ e g => frcR (vMap g (negb neg (aeqn (x.ev e) (y.ev e))))
noncomputable def ko_eqa (neg : Bool) (ks : List Nat) (x y : Opd) : KO := fun _ _ _ _ _ e g => frcR (vMap g (negb neg (aeqa ks (x.ev e) (y.ev e))))
noncomputable def ko_un (op : UnOp) (x : Opd) : KO := fun _ _ _ _ _ e g => frcR (vMap g (aun op (x.ev e)))
noncomputable def ko_conv (k : IntKind) (x : Opd) : KO := fun _ _ _ _ _ e g => frcR (vConv k (x.ev e) g)
noncomputable def ko_mkfn (f : Nat) (fst caps : List Opd) : KO := fun _ _ _ _ _ e g => some (.fn f (fst.map (·.ev e)) (caps.map (·.ev e)), g)
noncomputable def ko_mkmap : KO := fun _ _ _ _ id _ g => some (.mm id, ⟨upd g.hp id (some (.map [])), g.nx⟩)
noncomputable def ko_mput (m k v : Opd) : KO := fun _ _ al _ _ e g => vMput al (m.ev e) (k.ev e) (v.ev e) g
noncomputable def ko_mget (m k : Opd) : KO := fun _ _ al _ _ e g => vMget al (m.ev e) (k.ev e) g
noncomputable def ko_mksl (zero : List AV) (esz bytes : Nat) (len cap : Opd) : KO := fun _ _ _ _ id e g => frcR (vMksl id zero esz bytes (len.ev e) (cap.ev e) g)
noncomputable def ko_slice (esz : Nat) (x : Opd) (lo hi mx : Option Opd) : KO := fun _ _ _ _ _ e g => frcR (vSlice esz (x.ev e) (evo e lo) (evo e hi) (evo e mx) g)
noncomputable def ko_fa (off : Nat) (x : Opd) : KO := fun _ _ _ _ _ e g => vFa off (x.ev e) g
noncomputable def ko_fld (off : Nat) (agg : Option Nat) (x : Opd) : KO := fun _ _ _ _ _ e g => vFld off agg (x.ev e) g
noncomputable def ko_ia (esz : Nat) (x i : Opd) : KO := fun _ _ _ _ _ e g => vIa esz (x.ev e) (i.ev e) g
noncomputable def ko_iaa (len esz : Nat) (x i : Opd) : KO := fun _ _ _ _ _ e g => vIaa len esz (x.ev e) (i.ev e) g
noncomputable def ko_idx (len esz : Nat) (agg : Option Nat) (x i : Opd) : KO := fun _ _ _ _ _ e g => vIdx len esz agg (x.ev e) (i.ev e) g
noncomputable def ko_sidx (x i : Opd) : KO := fun _ _ _ _ _ e g => frcR (vSidx (x.ev e) (i.ev e) g)
noncomputable def ko_ext (i : Nat) (x : Opd) : KO := fun _ _ _ _ _ e g => vExt i (x.ev e) g
noncomputable def ko_len (x : Opd) : KO := fun _ _ _ _ _ e g => vLen (x.ev e) g
noncomputable def ko_slen (x : Opd) : KO := fun _ _ _ _ _ e g => frcR (vSlen (x.ev e) g)
noncomputable def ko_sslice (x : Opd) (lo hi : Option Opd) : KO := fun _ _ _ _ _ e g => frcR (vSslice (x.ev e) (evo e lo) (evo e hi) g)
noncomputable def ko_mx (x y : Opd) : KO := fun _ _ _ _ _ e g => frcR (vMx (x.ev e) (y.ev e) g)
noncomputable def ko_mn (x y : Opd) : KO := fun _ _ _ _ _ e g => frcR (vMn (x.ev e) (y.ev e) g)
noncomputable def ko_app (esz bytes : Nat) (x y : Opd) : KO := fun _ _ al _ id e g => frcR (kApp al id esz bytes (x.ev e) (y.ev e) g)
noncomputable def ko_appM (esz bytes : Nat) (x y : Opd) : KO := fun _ _ al _ id e g => frcR (vAppM al id esz bytes (x.ev e) (y.ev e) g)
noncomputable def ko_cutM (esz : Nat) (x hi : Opd) : KO := fun _ _ al _ id e g => frcR (vCutM al id esz (x.ev e) (hi.ev e) g)
noncomputable def ko_bad : KO := fun _ _ _ _ _ _ _ => none
noncomputable def ko_pure (f : Opd) (args : List Opd) : KO := fun orc call al _ id e g => match f.ev e with
  | .fn fid fst caps => (match frzLK (rd g al) depth (fst ++ args.map (·.ev e) ++ caps) with
    | some bs => (match orc fid bs with
      | some v => frcV v fun v => if flat v || ((fst ++ args.map (·.ev e) ++ caps).flatMap (vis (rd g al) depth)).isEmpty then some (v, g) else none
      | none => frcR (kCall call al id .pure (f.ev e) (args.map (·.ev e)) g))
    | none => none)
  | _ => none
noncomputable def ko_call (m : Mode) (f : Opd) (args : List Opd) : KO := Mode.casesOn (motive := fun _ => KO) m (ko_pure f args)
  (fun _ call al _ id e g => frcR (kCall call al id .lock (f.ev e) (args.map (·.ev e)) g))
  (fun _ call al _ id e g => frcR (kCall call al id .thaw (f.ev e) (args.map (·.ev e)) g))
  (fun _ call al _ id e g => frcR (kCall call al id .raw (f.ev e) (args.map (·.ev e)) g))
section
variable (orc : Orc)
noncomputable def opK (call : CS) (al : Nat → Bool) (lo id : Nat) (op : AOp) (e : Env) (g : G) : Option (AV × G) :=
  AOp.casesOn (motive := fun _ => KO) op ko_mv ko_pick ko_new ko_box ko_boxI ko_build ko_bsl ko_ld ko_ldF ko_ldQ ko_st ko_stL ko_stW ko_stN ko_nilck ko_bin ko_eqb ko_eqn ko_eqa ko_un ko_conv ko_mkfn ko_mkmap ko_mput ko_mget ko_mksl ko_slice ko_fa ko_fld ko_ia ko_iaa ko_idx ko_sidx ko_ext ko_len ko_slen ko_sslice ko_mx ko_mn ko_app ko_appM ko_cutM ko_bad ko_call orc call al lo id e g
noncomputable def regK (call : CS) (b : Env) (draw : Bool) (base : Nat) (ops : List AOper) : Nat → ET → G → Option (ET × G) :=
  List.rec (motive := fun _ => Nat → ET → G → Option (ET × G)) (fun _ t g => some (t, g)) (fun o _ ih j t g =>
    match wanted (kev b t) o.grd with
    | true => match opK orc call (allow draw base o.pre) base (base + j) o.op (kev b t) g with
      | some (v, g) => putO o.dst v t fun t => ih (j + 1) t g
      | none => none
    | false => putO o.dst .undef t fun t => ih (j + 1) t g) ops
noncomputable def iterK (f : ET → G → Option (Out × ET × G)) (k : Nat) : ET → G → Option (Out × ET × G) :=
  Nat.rec (motive := fun _ => ET → G → Option (Out × ET × G)) (fun _ _ => none) (fun _ ih t g => match f t g with
    | some (.nrm, t, g) => ih t g
    | r => r) k
noncomputable def codeK (call : CS) (b : Env) (k : Nat) (c : ACode) : ET → G → Option (Out × ET × G) :=
  ACode.rec (motive := fun _ => ET → G → Option (Out × ET × G))
    (fun t g => some (.nrm, t, g))
    (fun draw ops t g => frcN g.nx fun base => frcN (base + ops.length) fun nx => match regK orc call b draw base ops 0 t ⟨g.hp, nx⟩ with
      | some (t, g) => some (.nrm, t, g)
      | none => none)
    (fun _ _ fa fb t g => match fa t g with
      | some (.nrm, t, g) => fb t g
      | r => r)
    (fun c _ _ ft ff t g => match c.ev (kev b t) with
      | .b x => Bool.rec (motive := fun _ => Option (Out × ET × G)) (ff t g) (ft t g) x
      | _ => none)
    (fun id _ fc t g => match fc t g with
      | some (.ext n, t, g) => some (Bool.rec (motive := fun _ => Out) (.ext n) .nrm (Nat.beq n id), t, g)
      | r => r)
    (fun n _ fc t g => fc t ⟨lock g.hp (vis g.hp depth (kev b t n)), g.nx⟩)
    (fun n _ fc t g => fc t ⟨lock g.hp (ids1 (kev b t n)), g.nx⟩)
    (fun n _ fc t g => match frzK g.hp depth (kev b t n) with
      | some v => ET.putK v (n + 1) t n fun t' => fc t' ⟨lock g.hp (vis g.hp depth (kev b t n)), g.nx⟩
      | none => none)
    (fun _ fc t g => fc t g)
    (fun t g => some (.nrm, t, g))
    (fun _ fc t g => iterK fc k t g)
    (fun id t g => some (.ext id, t, g))
    (fun t g => some (.ret, t, g)) c
variable (F : Funs)
noncomputable def callK (k : Nat) : CS :=
  Nat.rec (motive := fun _ => CS) (fun _ _ _ => none) (fun k ih f args g => match F f with
    | none => none
    | some fn => match codeK orc ih (argEnv args) k fn.body .leaf g with
      | some (.nrm, t, g) => (resE fn.res (kev (argEnv args) t) g).map (·, g)
      | some (.ret, t, g) => (resE fn.res (kev (argEnv args) t) g).map (·, g)
      | _ => none) k
end
def OrcOk (F : Funs) (orc : Orc) : Prop := ∀ f bs v, orc f bs = some v → pureS F f bs = some v
section
variable {F : Funs} {orc : Orc} (ho : OrcOk F orc)
include ho
theorem opK_ok {call : CS} (hc : CLe call (callS F)) {al lo id op e g r} (h : opK orc call al lo id op e g = some r) : opE (callS F) al lo id op e g = some r := by
  cases op with
  | boxI x =>
    have h : kBoxI (x.ev e) g = some r := h
    rw [kBoxI_ok] at h; exact h
  | build z ps =>
    have h : frcR (vMapL .agg g (fill e z ps)) = some r := h
    rw [frcR_ok] at h; exact h
  | bsl imm n z ps =>
    have h : frcR (kBsl id imm n (fill e z ps) g) = some r := h
    rw [frcR_ok, kBsl_ok] at h; exact h
  | bin o x y =>
    have h : frcR (vMap g (kBin o (x.ev e) (y.ev e))) = some r := h
    rw [frcR_ok, kBin_ok] at h; exact h
  | eqb neg x y =>
    have h : frcR (vMap g (negb neg (aeqb (x.ev e) (y.ev e)))) = some r := h
    rw [frcR_ok] at h; exact h
  | eqn neg x y =>
    have h : frcR (vMap g (negb neg (aeqn (x.ev e) (y.ev e)))) = some r := h
    rw [frcR_ok] at h; exact h
  | eqa neg ks x y =>
    have h : frcR (vMap g (negb neg (aeqa ks (x.ev e) (y.ev e)))) = some r := h
    rw [frcR_ok] at h; exact h
  | un o x =>
    have h : frcR (vMap g (aun o (x.ev e))) = some r := h
    rw [frcR_ok] at h; exact h
  | conv k x =>
    have h : frcR (vConv k (x.ev e) g) = some r := h
    rw [frcR_ok] at h; exact h
  | mksl z esz bytes len cap =>
    have h : frcR (vMksl id z esz bytes (len.ev e) (cap.ev e) g) = some r := h
    rw [frcR_ok] at h; exact h
  | slice esz x lo' hi mx =>
    have h : frcR (vSlice esz (x.ev e) (evo e lo') (evo e hi) (evo e mx) g) = some r := h
    rw [frcR_ok] at h; exact h
  | sidx x i =>
    have h : frcR (vSidx (x.ev e) (i.ev e) g) = some r := h
    rw [frcR_ok] at h; exact h
  | slen x =>
    have h : frcR (vSlen (x.ev e) g) = some r := h
    rw [frcR_ok] at h; exact h
  | sslice x lo' hi =>
    have h : frcR (vSslice (x.ev e) (evo e lo') (evo e hi) g) = some r := h
    rw [frcR_ok] at h; exact h
  | mx x y =>
    have h : frcR (vMx (x.ev e) (y.ev e) g) = some r := h
    rw [frcR_ok] at h; exact h
  | mn x y =>
    have h : frcR (vMn (x.ev e) (y.ev e) g) = some r := h
    rw [frcR_ok] at h; exact h
  | app esz bytes x y =>
    have h : frcR (kApp al id esz bytes (x.ev e) (y.ev e) g) = some r := h
    rw [frcR_ok, kApp_ok] at h; exact h
  | appM esz bytes x y =>
    have h : frcR (vAppM al id esz bytes (x.ev e) (y.ev e) g) = some r := h
    rw [frcR_ok] at h; exact h
  | cutM esz x hi =>
    have h : frcR (vCutM al id esz (x.ev e) (hi.ev e) g) = some r := h
    rw [frcR_ok] at h; exact h
  | bad => cases h
  | call m f args =>
    cases m with
    | raw =>
      have h : frcR (kCall call al id .raw (f.ev e) (args.map (·.ev e)) g) = some r := h
      rw [frcR_ok, kCall_ok] at h
      exact opE_mono (op := .call .raw f args) hc h
    | lock =>
      have h : frcR (kCall call al id .lock (f.ev e) (args.map (·.ev e)) g) = some r := h
      rw [frcR_ok, kCall_ok] at h
      exact opE_mono (op := .call .lock f args) hc h
    | thaw =>
      have h : frcR (kCall call al id .thaw (f.ev e) (args.map (·.ev e)) g) = some r := h
      rw [frcR_ok, kCall_ok] at h
      exact opE_mono (op := .call .thaw f args) hc h
    | pure =>
      have h : ko_pure f args orc call al lo id e g = some r := h
      unfold ko_pure at h
      split at h
      · rename_i fid fst caps hf
        split at h
        · rename_i bs hb
          split at h
          · rename_i v hv
            rw [frcV_ok] at h
            split at h
            · rename_i hfl
              cases h
              show vPure F al (f.ev e) (args.map (·.ev e)) g = _
              rw [hf]
              rw [frzLK_ok] at hb
              exact vPure_ok hb (ho _ _ _ hv) hfl
            · cases h
          · rw [frcR_ok, kCall_ok] at h
            exact opE_mono (op := .call .pure f args) hc h
        · cases h
      · cases h
  | _ => exact h
theorem regK_ok {call : CS} (hc : CLe call (callS F)) {b : Env} {draw : Bool} {base : Nat} : ∀ {ops : List AOper} {j : Nat} {t : ET} {g : G} {t' g'}, regK orc call b draw base ops j t g = some (t', g') → regE (callS F) draw base j ops (kev b t) g = some (kev b t', g')
  | [], j, t, g, t', g', h => by cases h; rfl
  | o :: os, j, t, g, t', g', h => by
    have h : (match wanted (kev b t) o.grd with
      | true => match opK orc call (allow draw base o.pre) base (base + j) o.op (kev b t) g with
        | some (v, g) => putO o.dst v t fun t => regK orc call b draw base os (j + 1) t g
        | none => none
      | false => putO o.dst .undef t fun t => regK orc call b draw base os (j + 1) t g) = some (t', g') := h
    simp only [regE]
    cases hw : wanted (kev b t) o.grd with
    | true =>
      rw [hw] at h
      simp only [if_true]
      cases hop : opK orc call (allow draw base o.pre) base (base + j) o.op (kev b t) g with
      | none => rw [hop] at h; cases h
      | some r =>
        obtain ⟨v, g1⟩ := r
        rw [hop] at h
        simp only at h
        rw [opK_ok ho hc hop]
        obtain ⟨t1, e1, e2⟩ := putO_ok b o.dst v t fun t => regK orc call b draw base os (j + 1) t g1
        rw [e1] at h
        simp only
        rw [← e2]
        exact regK_ok hc h
    | false =>
      rw [hw] at h
      simp only [Bool.false_eq_true, if_false]
      obtain ⟨t1, e1, e2⟩ := putO_ok b o.dst .undef t fun t => regK orc call b draw base os (j + 1) t g
      simp only [e1] at h
      rw [← e2]
      exact regK_ok hc h
theorem codeK_ok {call : CS} (hc : CLe call (callS F)) {b : Env} {k : Nat} : ∀ {c : ACode} {t : ET} {g : G} {o t' g'}, codeK orc call b k c t g = some (o, t', g') → codeS F c (kev b t) g = some (o, kev b t', g') := by
  intro c
  induction c with
  | skip => intro t g o t' g' h; cases h; exact codeS_skip F _ _
  | lab => intro t g o t' g' h; cases h; exact codeS_lab F _ _
  | ext id => intro t g o t' g' h; cases h; exact codeS_ext F _ _ _
  | ret => intro t g o t' g' h; cases h; exact codeS_ret F _ _
  | scp c ih => intro t g o t' g' h; rw [codeS_scp]; exact ih h
  | lck n c ih => intro t g o t' g' h; rw [codeS_lck]; exact ih h
  | lckS n c ih => intro t g o t' g' h; rw [codeS_lckS]; exact ih h
  | imm n c ih =>
    intro t g o t' g' h
    have h : (match frzK g.hp depth (kev b t n) with
      | some v => ET.putK v (n + 1) t n fun t' => codeK orc call b k c t' ⟨lock g.hp (vis g.hp depth (kev b t n)), g.nx⟩
      | none => none) = some (o, t', g') := h
    rw [frzK_ok] at h
    rw [codeS_imm]
    cases hf : frz g.hp depth (kev b t n) with
    | none => rw [hf] at h; cases h
    | some v =>
      rw [hf] at h
      obtain ⟨t1, e1, e2⟩ := putO_ok b (some n) v t fun t' => codeK orc call b k c t' ⟨lock g.hp (vis g.hp depth (kev b t n)), g.nx⟩
      have e1' : ET.putK v (n + 1) t n (fun t' => codeK orc call b k c t' ⟨lock g.hp (vis g.hp depth (kev b t n)), g.nx⟩) = _ := e1
      simp only [e1'] at h
      have e3 : upd (kev b t) n v = kev b t1 := e2.symm
      simp only [e3]
      exact ih h
  | reg draw ops =>
    intro t g o t' g' h
    have h : (frcN g.nx fun base => frcN (base + ops.length) fun nx => match regK orc call b draw base ops 0 t ⟨g.hp, nx⟩ with
      | some (t, g) => some (Out.nrm, t, g)
      | none => none) = some (o, t', g') := h
    simp only [frcN_ok] at h
    rw [codeS_reg]
    cases hr : regK orc call b draw g.nx ops 0 t ⟨g.hp, g.nx + ops.length⟩ with
    | none => rw [hr] at h; cases h
    | some r =>
      obtain ⟨t1, g1⟩ := r
      rw [hr] at h
      cases h
      rw [regK_ok ho hc hr]
  | seq x y ihx ihy =>
    intro t g o t' g' h
    have h : (match codeK orc call b k x t g with
      | some (.nrm, t, g) => codeK orc call b k y t g
      | r => r) = some (o, t', g') := h
    rw [codeS_seq]
    cases hx : codeK orc call b k x t g with
    | none => rw [hx] at h; cases h
    | some r =>
      obtain ⟨o1, t1, g1⟩ := r
      rw [hx] at h
      rw [ihx hx]
      cases o1 with
      | nrm => exact ihy h
      | ext n => cases h; rfl
      | ret => cases h; rfl
  | cond x y z ihy ihz =>
    intro t g o t' g' h
    have h : (match x.ev (kev b t) with
      | .b w => Bool.rec (motive := fun _ => Option (Out × ET × G)) (codeK orc call b k z t g) (codeK orc call b k y t g) w
      | _ => none) = some (o, t', g') := h
    rw [codeS_cond]
    generalize x.ev (kev b t) = v at h ⊢
    cases v with
    | b w =>
      cases w with
      | true => exact ihy h
      | false => exact ihz h
    | _ => cases h
  | blk id c ih =>
    intro t g o t' g' h
    have h : (match codeK orc call b k c t g with
      | some (.ext n, t, g) => some (Bool.rec (motive := fun _ => Out) (.ext n) .nrm (Nat.beq n id), t, g)
      | r => r) = some (o, t', g') := h
    rw [codeS_blk]
    cases hx : codeK orc call b k c t g with
    | none => rw [hx] at h; cases h
    | some r =>
      obtain ⟨o1, t1, g1⟩ := r
      rw [hx] at h
      rw [ih hx]
      cases o1 with
      | nrm => cases h; rfl
      | ret => cases h; rfl
      | ext n =>
        simp only at h ⊢
        cases hb : Nat.beq n id with
        | true => rw [hb] at h; cases h; rw [if_pos (Nat.eq_of_beq_eq_true hb)]
        | false => rw [hb] at h; cases h; rw [if_neg (Nat.ne_of_beq_eq_false hb)]
  | loop c ih =>
    intro t g o t' g' h
    have key : ∀ (j : Nat) (t : ET) (g : G), iterK (codeK orc call b k c) j t g = some (o, t', g') → codeS F (.loop c) (kev b t) g = some (o, kev b t', g') := by
      intro j
      induction j with
      | zero => intro t g h; cases h
      | succ j ihj =>
        intro t g h
        have h : (match codeK orc call b k c t g with
          | some (.nrm, t, g) => iterK (codeK orc call b k c) j t g
          | r => r) = some (o, t', g') := h
        rw [codeS_loop]
        cases hx : codeK orc call b k c t g with
        | none => rw [hx] at h; cases h
        | some r =>
          obtain ⟨o1, t1, g1⟩ := r
          rw [hx] at h
          rw [ih hx]
          cases o1 with
          | nrm => exact ihj _ _ h
          | ext n => cases h; rfl
          | ret => cases h; rfl
    exact key k t g h
theorem callK_ok : ∀ (k : Nat), CLe (callK orc F k) (callS F)
  | 0 => fun _ _ _ _ h => by cases h
  | k + 1 => fun f asx g r h => by
    have h : (match F f with
      | none => none
      | some fn => match codeK orc (callK orc F k) (argEnv asx) k fn.body .leaf g with
        | some (.nrm, t, g) => (resE fn.res (kev (argEnv asx) t) g).map (·, g)
        | some (.ret, t, g) => (resE fn.res (kev (argEnv asx) t) g).map (·, g)
        | _ => none) = some r := h
    rw [callS_eq]
    cases hF : F f with
    | none => rw [hF] at h; cases h
    | some fn =>
      rw [hF] at h
      simp only at h ⊢
      have e0 : kev (argEnv asx) .leaf = argEnv asx := rfl
      cases hx : codeK orc (callK orc F k) (argEnv asx) k fn.body .leaf g with
      | none => rw [hx] at h; cases h
      | some q =>
        obtain ⟨o1, t1, g1⟩ := q
        rw [hx] at h
        have := codeK_ok ho (callK_ok k) hx
        rw [e0] at this
        rw [this]
        cases o1 with
        | nrm => exact h
        | ext n => cases h
        | ret => exact h
noncomputable def evK (orc : Orc) (F : Funs) (k : Nat) (rs : List ARes) (c : ACode) (e : Env) (g : G) : Bool :=
  match codeK orc (callK orc F k) e k c .leaf g with
  | some (.nrm, t, g) => (match resE rs (kev e t) g with | some v => (match frzK g.hp depth v with | some (.b x) => x | _ => false) | none => false)
  | some (.ret, t, g) => (match resE rs (kev e t) g with | some v => (match frzK g.hp depth v with | some (.b x) => x | _ => false) | none => false)
  | _ => false
theorem W_eval (k : Nat) {rs : List ARes} {c : ACode} {e : Env} {g : G} (h : evK orc F k rs c e g = true) : W F c e g (retQ rs (.b true)) := by
  unfold evK at h
  have fin : ∀ (t : ET) (g : G), (match resE rs (kev e t) g with | some v => (match frzK g.hp depth v with | some (.b x) => x | _ => false) | none => false) = true → (match resE rs (kev e t) g with | some v0 => frz g.hp depth v0 | none => none) = some (.b true) := by
    intro t g h
    cases hr : resE rs (kev e t) g with
    | none => rw [hr] at h; cases h
    | some v =>
      rw [hr] at h
      simp only [frzK_ok] at h ⊢
      cases hf : frz g.hp depth v with
      | none => rw [hf] at h; cases h
      | some w =>
        rw [hf] at h
        cases w <;> first | (cases h; done) | (simp only at h; subst h; rfl)
  split at h
  · rename_i t g1 hx
    exact ⟨_, _, _, codeK_ok ho (callK_ok ho k) hx, fin t g1 h⟩
  · rename_i t g1 hx
    exact ⟨_, _, _, codeK_ok ho (callK_ok ho k) hx, fin t g1 h⟩
  · cases h
theorem pure_eval (k : Nat) {f : Nat} {fn : AFun} {asx : List AV} (hF : F f = some fn) (h : evK orc F k fn.res fn.body (argEnv asx) g0 = true) : pureS F f asx = some (.b true) :=
  pure_of hF (W_eval ho k h)
end
end Go.Ab
end
section
set_option linter.unusedVariables false
set_option linter.unusedSimpArgs false
namespace Go.Ab
variable {F : Funs}
def u64s : List AV → Option (List Nat)
  | [] => some []
  | .i .u64 (.ofNat x) :: l => if x < 2 ^ 64 then (u64s l).map (x :: ·) else none
  | _ => none
def rwOf (xs : List Nat) : Rw := fun a => BitVec.ofNat 64 (xs.getD a 0)
theorem u64s_ok : ∀ {l : List AV} {xs : List Nat}, u64s l = some xs → l = xs.map (fun (x : Nat) => AV.i .u64 (x : Int)) ∧ ∀ x ∈ xs, x < 2 ^ 64
  | [], xs, h => by cases h; exact ⟨rfl, fun x hx => by cases hx⟩
  | v :: l, xs, h => by
    unfold u64s at h
    split at h
    · rename_i h0; cases h0
    · rename_i x l' h0
      cases h0
      split at h
      · rename_i hx
        cases hu : u64s l with
        | none => rw [hu] at h; cases h
        | some ys =>
          rw [hu] at h
          cases h
          obtain ⟨h1, h2⟩ := u64s_ok hu
          refine ⟨by rw [List.map_cons, ← h1]; rfl, fun y hy => ?_⟩
          rcases List.mem_cons.1 hy with rfl | hy
          · exact hx
          · exact h2 y hy
      · cases h
    · cases h
def relOf : List AV → Option (Nat × List Nat)
  | .i .i64 (.ofNat n) :: l => if n ≤ 40 then (match u64s l with | some xs => if xs.length = 40 then some (n, xs) else none | none => none) else none
  | _ => none
theorem relOf_ok {cs : List AV} {n : Nat} {xs : List Nat} (h : relOf cs = some (n, xs)) : n ≤ 40 ∧ cs = relC n (rwOf xs) := by
  unfold relOf at h
  split at h
  · rename_i m l
    split at h
    · rename_i hm
      split at h
      · rename_i ys hu
        split at h
        · rename_i hl
          cases h
          refine ⟨hm, ?_⟩
          obtain ⟨h1, h2⟩ := u64s_ok hu
          subst h1
          show AV.i .i64 (n : Int) :: _ = AV.i .i64 (n : Int) :: rowsC (rwOf xs)
          congr 1
          refine List.ext_getElem? fun i => ?_
          by_cases hi : i < 40
          · rw [rowsC_get hi, List.getElem?_map, List.getElem?_eq_getElem (by omega)]
            simp only [Option.map_some, U, rwOf]
            have hx := h2 (xs[i]'(by omega)) (List.getElem_mem _)
            rw [List.getD_eq_getElem?_getD, List.getElem?_eq_getElem (by omega), Option.getD_some, BitVec.toNat_ofNat, Nat.mod_eq_of_lt hx]
          · rw [List.getElem?_eq_none (by rw [List.length_map]; omega), List.getElem?_eq_none (by rw [rowsC_len]; omega)]
        · cases h
      · cases h
    · cases h
  · cases h
def intsOf : List AV → Option (List Int)
  | [] => some []
  | .i .i64 x :: l => (match intsOf l with | some xs => some (x :: xs) | none => none)
  | _ => none
theorem intsOf_ok : ∀ {l : List AV} {xs : List Int}, intsOf l = some xs → l = intsC xs
  | [], xs, h => by cases h; rfl
  | v :: l, xs, h => by
    unfold intsOf at h
    split at h
    · rename_i h0; cases h0
    · rename_i x l' h0
      cases h0
      split at h
      · rename_i ys hu
        cases h
        rw [intsOf_ok hu]; rfl
      · cases h
    · cases h
def pairsOf : List AV → Option (List (Int × Int))
  | [] => some []
  | .i .i64 x :: .i .i64 y :: l => (match pairsOf l with | some xs => some ((x, y) :: xs) | none => none)
  | _ => none
theorem pairsOf_ok : ∀ {l : List AV} {xs : List (Int × Int)}, pairsOf l = some xs → l = pairsC xs
  | [], xs, h => by cases h; rfl
  | [v], xs, h => by
    unfold pairsOf at h
    split at h
    · rename_i h0; cases h0
    · rename_i h0; cases h0
    · cases h
  | v :: w :: l, xs, h => by
    unfold pairsOf at h
    split at h
    · rename_i h0; cases h0
    · rename_i x y l' h0
      cases h0
      split at h
      · rename_i ys hu
        cases h
        rw [pairsOf_ok hu]; rfl
      · cases h
    · cases h
def evsOf : List AV → Option (List Ev)
  | [] => some []
  | .i .i64 a :: .i .i64 b :: .i .i64 c :: .i .i64 d :: .i .i64 e :: .b x :: l => (match evsOf l with | some xs => some (⟨a, b, c, d, e, x⟩ :: xs) | none => none)
  | _ => none
theorem evsOf_len : ∀ (n : Nat) {l : List AV} {xs : List Ev}, l.length ≤ n → evsOf l = some xs → l = evsC xs
  | n, [], xs, _, h => by cases h; rfl
  | 0, v :: l, xs, hn, h => by simp at hn
  | n + 1, v :: l, xs, hn, h => by
    unfold evsOf at h
    split at h
    · rename_i h0; cases h0
    · rename_i a b c d e x l' h0
      cases h0
      split at h
      · rename_i ys hu
        cases h
        have hl : l'.length ≤ n := by simp only [List.length_cons] at hn; omega
        rw [evsOf_len n hl hu]; rfl
      · cases h
    · cases h
theorem evsOf_ok {l : List AV} {xs : List Ev} (h : evsOf l = some xs) : l = evsC xs := evsOf_len l.length (Nat.le_refl _) h
def slI : AV → Option (List Int)
  | .sl cs n .non => (match intsOf cs with | some xs => if xs.length = n then some xs else none | none => none)
  | _ => none
theorem slI_ok {v : AV} {xs : List Int} (h : slI v = some xs) : v = .sl (intsC xs) xs.length .non := by
  unfold slI at h
  split at h
  · split at h
    · rename_i ys hu
      split at h
      · rename_i hn
        cases h
        rw [intsOf_ok hu, hn]
      · cases h
    · cases h
  · cases h
def slP : AV → Option (List (Int × Int))
  | .sl cs n .non => (match pairsOf cs with | some xs => if xs.length = n then some xs else none | none => none)
  | _ => none
theorem slP_ok {v : AV} {xs : List (Int × Int)} (h : slP v = some xs) : v = .sl (pairsC xs) xs.length .non := by
  unfold slP at h
  split at h
  · split at h
    · rename_i ys hu
      split at h
      · rename_i hn
        cases h
        rw [pairsOf_ok hu, hn]
      · cases h
    · cases h
  · cases h
def coOf : List AV → Option (List (List Int))
  | [] => some []
  | v :: l => (match slI v with | some x => (match coOf l with | some xs => some (x :: xs) | none => none) | none => none)
theorem coOf_ok : ∀ {l : List AV} {xs : List (List Int)}, coOf l = some xs → l = coC xs
  | [], xs, h => by cases h; rfl
  | v :: l, xs, h => by
    unfold coOf at h
    split at h
    · rename_i x hx
      split at h
      · rename_i ys hu
        cases h
        rw [coOf_ok hu, slI_ok hx]; rfl
      · cases h
    · cases h
def grOf : List AV → Option Gr
  | [.i .i64 locs, .sl es ne .non, rf, .sl cc nc .non, rmw, data, ctrl, ctrli] =>
    (match evsOf es with
    | none => none
    | some es => (match slI rf with
      | none => none
      | some rf => (match coOf cc with
        | none => none
        | some cc => (match slP rmw with
          | none => none
          | some rmw => (match slP data with
            | none => none
            | some data => (match slP ctrl with
              | none => none
              | some ctrl => (match slP ctrli with
                | none => none
                | some ctrli => if es.length = ne ∧ cc.length = nc then some ⟨locs, es, rf, cc, rmw, data, ctrl, ctrli⟩ else none)))))))
  | _ => none
theorem grOf_ok {cs : List AV} {X : Gr} (h : grOf cs = some X) : cs = grC X := by
  unfold grOf at h
  split at h
  · split at h
    · cases h
    · rename_i es he
      split at h
      · cases h
      · rename_i rf hrf
        split at h
        · cases h
        · rename_i cc hcc
          split at h
          · cases h
          · rename_i r1 h1
            split at h
            · cases h
            · rename_i r2 h2
              split at h
              · cases h
              · rename_i r3 h3
                split at h
                · cases h
                · rename_i r4 h4
                  split at h
                  · rename_i hn
                    cases h
                    rw [evsOf_ok he, slI_ok hrf, coOf_ok hcc, slP_ok h1, slP_ok h2, slP_ok h3, slP_ok h4, ← hn.1, ← hn.2]; rfl
                  · cases h
  · cases h
def is2 (r : Nat → List Nat → Nat → List Nat → AV) : List AV → Option AV
  | [.ptr a, .ptr b] => (match relOf a with | some (n, xs) => (match relOf b with | some (m, ys) => some (r n xs m ys) | none => none) | none => none)
  | _ => none
def is1 (r : Nat → List Nat → AV) : List AV → Option AV
  | [.ptr a] => (match relOf a with | some (n, xs) => some (r n xs) | none => none)
  | _ => none
theorem is2_ok {r : Nat → List Nat → Nat → List Nat → AV} {f : Nat} (h : ∀ n m xs ys, n ≤ 40 → m ≤ 40 → pureS F f [.ptr (relC n (rwOf xs)), .ptr (relC m (rwOf ys))] = some (r n xs m ys)) {bs : List AV} {v : AV} (hv : is2 r bs = some v) : pureS F f bs = some v := by
  unfold is2 at hv
  split at hv
  · split at hv
    · rename_i h1
      split at hv
      · rename_i h2
        cases hv
        obtain ⟨a1, rfl⟩ := relOf_ok h1
        obtain ⟨a2, rfl⟩ := relOf_ok h2
        exact h _ _ _ _ a1 a2
      · cases hv
    · cases hv
  · cases hv
theorem is1_ok {r : Nat → List Nat → AV} {f : Nat} (h : ∀ n xs, n ≤ 40 → pureS F f [.ptr (relC n (rwOf xs))] = some (r n xs)) {bs : List AV} {v : AV} (hv : is1 r bs = some v) : pureS F f bs = some v := by
  unfold is1 at hv
  split at hv
  · split at hv
    · rename_i h1
      cases hv
      obtain ⟨a1, rfl⟩ := relOf_ok h1
      exact h _ _ a1
    · cases hv
  · cases hv
def isHas : List AV → Option AV
  | [.ptr a, .i .i64 x, .i .i64 y] => (match relOf a with | some (n, xs) => some (.b (has n (rwOf xs) x y)) | none => none)
  | _ => none
def isNew : List AV → Option AV
  | [.i .i64 n, .sl cs k _] => (match pairsOf cs with | some l => if l.length = k ∧ k ≤ 100000 then some (.ptr (relC (clamp n) (newR (clamp n) l))) else none | none => none)
  | _ => none
def relOrc : Orc := fun f bs =>
  if f = 13 then isHas bs
  else if f = 24 then is2 (fun n xs m ys => .ptr (relC (max n m) (orR (rwOf xs) (rwOf ys)))) bs
  else if f = 23 then is2 (fun n xs m ys => .ptr (relC (max n m) (thenR n (rwOf xs) (rwOf ys)))) bs
  else if f = 18 then is2 (fun n xs m ys => .ptr (relC (max n m) (andR (rwOf xs) (rwOf ys)))) bs
  else if f = 12 then is1 (fun n xs => .ptr (relC n (plusR n (rwOf xs)))) bs
  else if f = 16 then is1 (fun n xs => .ptr (relC n (maybeK n (rwOf xs)))) bs
  else if f = 14 then is1 (fun n xs => .b (loopsR n (rwOf xs))) bs
  else if f = 15 then is1 (fun n xs => .sl (pairsC (pairsR n (rwOf xs))) (pairsR n (rwOf xs)).length .non) bs
  else if f = 17 then is1 (fun n xs => .i .i64 n) bs
  else if f = 11 then isNew bs
  else none
theorem relOrc_ok (pk : Pk_rel F) : OrcOk F relOrc := by
  intro f bs v h
  unfold relOrc at h
  split at h
  · rename_i hf; subst hf
    unfold isHas at h
    split at h
    · split at h
      · rename_i h1
        cases h
        obtain ⟨a1, rfl⟩ := relOf_ok h1
        exact sp_has pk a1 _ _ _
      · cases h
    · cases h
  split at h
  · rename_i hf; subst hf; exact is2_ok (fun n m xs ys hn hm => sp_or pk hn hm _ _) h
  split at h
  · rename_i hf; subst hf; exact is2_ok (fun n m xs ys hn hm => sp_then pk hn hm _ _) h
  split at h
  · rename_i hf; subst hf; exact is2_ok (fun n m xs ys hn hm => sp_and pk hn hm _ _) h
  split at h
  · rename_i hf; subst hf; exact is1_ok (fun n xs hn => sp_plus pk hn _) h
  split at h
  · rename_i hf; subst hf; exact is1_ok (fun n xs hn => sp_maybe pk hn _) h
  split at h
  · rename_i hf; subst hf; exact is1_ok (fun n xs hn => sp_loops pk hn _) h
  split at h
  · rename_i hf; subst hf; exact is1_ok (fun n xs hn => sp_pairs pk hn _) h
  split at h
  · rename_i hf; subst hf; exact is1_ok (fun n xs hn => sp_len pk _) h
  split at h
  · rename_i hf; subst hf
    unfold isNew at h
    split at h
    · split at h
      · rename_i l h1
        split at h
        · rename_i hk
          cases h
          rw [pairsOf_ok h1, ← hk.1]
          exact sp_new pk _ _ _ (by omega)
        · cases h
      · cases h
    · cases h
  · cases h
def grOrc (f0 : Nat) (ok : Gr → Bool) (r : Gr → AV) : Orc := fun f bs => if f = f0 then (match bs with
  | [.agg cs] => (match grOf cs with | some X => if ok X then some (r X) else none | none => none)
  | _ => none) else none
theorem grOrc_ok {f0 : Nat} {ok : Gr → Bool} {r : Gr → AV} (h : ∀ X, ok X = true → pureS F f0 [.agg (grC X)] = some (r X)) : OrcOk F (grOrc f0 ok r) := by
  intro f bs v hv
  unfold grOrc at hv
  split at hv
  · rename_i hf
    subst hf
    split at hv
    · split at hv
      · rename_i X hX
        split at hv
        · rename_i hk
          cases hv
          rw [grOf_ok hX]
          exact h X hk
        · cases hv
      · cases hv
    · cases hv
  · cases hv
def orcOr (a b : Orc) : Orc := fun f bs => match a f bs with
  | some v => some v
  | none => b f bs
theorem orcOr_ok {a b : Orc} (ha : OrcOk F a) (hb : OrcOk F b) : OrcOk F (orcOr a b) := by
  intro f bs v h
  unfold orcOr at h
  split at h
  · rename_i h1; cases h; exact ha _ _ _ h1
  · exact hb _ _ _ h
def yesOrc (f0 : Nat) : Orc := fun f bs => if f = f0 then (match bs with | [] => some (.b true) | _ => none) else none
theorem yesOrc_ok {f0 : Nat} (h : pureS F f0 [] = some (.b true)) : OrcOk F (yesOrc f0) := by
  intro f bs v hv
  unfold yesOrc at hv
  split at hv
  · rename_i hf
    subst hf
    split at hv
    · cases hv; exact h
    · cases hv
  · cases hv
def fewB (X : Gr) : Bool := decide (X.evs.length ≤ 40) && decide (X.co.length ≤ 6) && X.co.all (fun c => decide (c.length ≤ 50)) && decide (X.rmw.length ≤ 50) && decide (X.data.length ≤ 300) && decide (X.ctrl.length ≤ 300) && decide (X.ctrli.length ≤ 300)
end Go.Ab
end
section
set_option linter.unusedVariables false
set_option linter.unusedSimpArgs false
namespace Go.Ab
variable {F : Funs}
def Lst (R : Rw) (zs : List Nat) : Prop := zs.length = 40 ∧ ∀ a, a < 40 → (R a).toNat = zs.getD a 0
theorem getD_lt {zs : List Nat} (h : ∀ x ∈ zs, x < 2 ^ 64) (a : Nat) : zs.getD a 0 < 2 ^ 64 := by
  rw [List.getD_eq_getElem?_getD]
  cases hz : zs[a]? with
  | none => simp
  | some x => simpa using h x (List.mem_of_getElem? hz)
theorem hb_rw (xs : List Nat) (a b : Nat) : hb (rwOf xs) a b = (decide (b < 64) && (xs.getD a 0).testBit b) := by
  unfold hb rwOf
  rw [BitVec.getLsbD_ofNat]
theorem toNat_bits {v : BitVec 64} {x : Nat} (hx : x < 2 ^ 64) (h : ∀ b, b < 64 → v.getLsbD b = x.testBit b) : v.toNat = x := by
  refine Nat.eq_of_testBit_eq fun i => ?_
  rw [BitVec.testBit_toNat]
  by_cases hi : i < 64
  · exact h i hi
  · rw [BitVec.getLsbD_of_ge _ _ (by omega), Nat.testBit_lt_two_pow (Nat.lt_of_lt_of_le hx (Nat.pow_le_pow_right (by omega) (by omega)))]
theorem Lst.cells {n : Nat} {R : Rw} {zs : List Nat} (h : Lst R zs) : relC n R = .i .i64 n :: zs.map fun (x : Nat) => .i .u64 (x : Int) := by
  show AV.i .i64 (n : Int) :: rowsC R = _
  congr 1
  refine List.ext_getElem? fun i => ?_
  by_cases hi : i < 40
  · rw [rowsC_get hi, List.getElem?_map, List.getElem?_eq_getElem (by rw [h.1]; exact hi)]
    simp only [Option.map_some, U]
    rw [h.2 i hi, List.getD_eq_getElem?_getD, List.getElem?_eq_getElem (by rw [h.1]; exact hi), Option.getD_some]
  · rw [List.getElem?_eq_none (by rw [rowsC_len]; omega), List.getElem?_eq_none (by rw [List.length_map, h.1]; omega)]
def okN (xs : List Nat) : Prop := xs.length = 40 ∧ ∀ x ∈ xs, x < 2 ^ 64
theorem lst_bits {R : Rw} {zs : List Nat} (hl : zs.length = 40) (hx : ∀ x ∈ zs, x < 2 ^ 64) (h : ∀ a, a < 40 → ∀ b, b < 64 → hb R a b = (zs.getD a 0).testBit b) : Lst R zs :=
  ⟨hl, fun a ha => toNat_bits (getD_lt hx a) (h a ha)⟩
theorem u64s_lt {l : List AV} {xs : List Nat} (h : u64s l = some xs) : ∀ x ∈ xs, x < 2 ^ 64 := (u64s_ok h).2
theorem relOf_okN {cs : List AV} {n : Nat} {xs : List Nat} (h : relOf cs = some (n, xs)) : n ≤ 40 ∧ cs = relC n (rwOf xs) ∧ okN xs := by
  obtain ⟨h1, h2⟩ := relOf_ok h
  refine ⟨h1, h2, ?_⟩
  unfold relOf at h
  split at h
  · split at h
    · split at h
      · rename_i hu
        split at h
        · rename_i hl
          cases h
          exact ⟨hl, u64s_lt hu⟩
        · cases h
      · cases h
    · cases h
  · cases h
noncomputable def zipN (f : Nat → Nat → Nat) (xs : List Nat) : List Nat → List Nat := List.rec (motive := fun _ => List Nat → List Nat) (fun _ => []) (fun x _ ih ys => List.rec (motive := fun _ => List Nat) [] (fun y ys _ => f x y :: ih ys) ys) xs
theorem zipN_eq (f : Nat → Nat → Nat) : ∀ xs ys, zipN f xs ys = List.zipWith f xs ys
  | [], _ => rfl
  | x :: xs, [] => rfl
  | x :: xs, y :: ys => by
    show f x y :: zipN f xs ys = _
    rw [zipN_eq f xs ys]; rfl
theorem zip_get {f : Nat → Nat → Nat} {xs ys : List Nat} {a : Nat} (h : xs.length = 40) (k : ys.length = 40) (ha : a < 40) : (zipN f xs ys).getD a 0 = f (xs.getD a 0) (ys.getD a 0) := by
  rw [zipN_eq]
  simp only [List.getD_eq_getElem?_getD]
  rw [List.getElem?_eq_getElem (by rw [List.length_zipWith]; omega), List.getElem?_eq_getElem (by omega), List.getElem?_eq_getElem (by omega)]
  simp
theorem zip_lt {f : Nat → Nat → Nat} (hf : ∀ x y, x < 2 ^ 64 → y < 2 ^ 64 → f x y < 2 ^ 64) : ∀ {xs ys : List Nat}, (∀ x ∈ xs, x < 2 ^ 64) → (∀ x ∈ ys, x < 2 ^ 64) → ∀ z ∈ zipN f xs ys, z < 2 ^ 64
  | [], _, _, _, z, hz => by cases hz
  | x :: xs, [], _, _, z, hz => by cases hz
  | x :: xs, y :: ys, hx, hy, z, hz => by
    have hz : z ∈ f x y :: zipN f xs ys := hz
    rcases List.mem_cons.1 hz with rfl | hz
    · exact hf x y (hx x (List.mem_cons_self ..)) (hy y (List.mem_cons_self ..))
    · exact zip_lt hf (fun w hw => hx w (List.mem_cons_of_mem _ hw)) (fun w hw => hy w (List.mem_cons_of_mem _ hw)) z hz
theorem lst_or {xs ys : List Nat} (hx : okN xs) (hy : okN ys) : Lst (orR (rwOf xs) (rwOf ys)) (zipN Nat.lor xs ys) := by
  refine lst_bits (by rw [zipN_eq, List.length_zipWith, hx.1, hy.1]; rfl) (zip_lt (fun x y h1 h2 => Nat.or_lt_two_pow h1 h2) hx.2 hy.2) fun a ha b hb' => ?_
  rw [hb_or, hb_rw, hb_rw, zip_get hx.1 hy.1 ha, decide_eq_true hb']
  exact (Nat.testBit_or ..).symm
theorem lst_and {xs ys : List Nat} (hx : okN xs) (hy : okN ys) : Lst (andR (rwOf xs) (rwOf ys)) (zipN Nat.land xs ys) := by
  refine lst_bits (by rw [zipN_eq, List.length_zipWith, hx.1, hy.1]; rfl) (zip_lt (fun x y h1 h2 => Nat.and_lt_two_pow x h2) hx.2 hy.2) fun a ha b hb' => ?_
  rw [hb_and, hb_rw, hb_rw, zip_get hx.1 hy.1 ha, decide_eq_true hb']
  exact (Nat.testBit_and ..).symm
noncomputable def rowN (ys : List Nat) : Nat → Nat := List.rec (motive := fun _ => Nat → Nat) (fun _ => 0) (fun y _ ih x => Bool.rec (motive := fun _ => Nat) (ih (Nat.div x 2)) (Nat.lor y (ih (Nat.div x 2))) (Nat.beq (Nat.mod x 2) 1)) ys
theorem rowN_nil (x : Nat) : rowN [] x = 0 := rfl
theorem rowN_cons (y : Nat) (ys : List Nat) (x : Nat) : rowN (y :: ys) x = if x.testBit 0 then y ||| rowN ys (x / 2) else rowN ys (x / 2) := by
  show Bool.rec (motive := fun _ => Nat) (rowN ys (x / 2)) (y ||| rowN ys (x / 2)) (Nat.beq (x % 2) 1) = _
  rw [Nat.testBit_zero]
  cases h : Nat.beq (x % 2) 1 with
  | true => rw [if_pos (by simpa using Nat.eq_of_beq_eq_true h)]
  | false => rw [if_neg (by simpa using Nat.ne_of_beq_eq_false h)]
theorem rowN_bit : ∀ (ys : List Nat) (x y : Nat), (rowN ys x).testBit y = (List.range ys.length).any fun b => x.testBit b && (ys.getD b 0).testBit y
  | [], x, y => by rw [rowN_nil]; simp
  | z :: ys, x, y => by
    rw [rowN_cons, List.length_cons, List.range_succ_eq_map, List.any_cons, List.any_map]
    have ih := rowN_bit ys (x / 2) y
    have e : ((List.range ys.length).any ((fun b => x.testBit b && ((z :: ys).getD b 0).testBit y) ∘ Nat.succ)) = (List.range ys.length).any fun b => (x / 2).testBit b && (ys.getD b 0).testBit y := by
      congr 1
      funext b
      simp only [Function.comp, Nat.succ_eq_add_one, Nat.testBit_succ, List.getD_cons_succ]
    rw [e, ← ih]
    cases x.testBit 0 with
    | true => simp [Nat.testBit_or]
    | false => simp
theorem rowN_lt : ∀ (ys : List Nat) (x : Nat), (∀ y ∈ ys, y < 2 ^ 64) → rowN ys x < 2 ^ 64
  | [], x, _ => by rw [rowN_nil]; omega
  | z :: ys, x, h => by
    have ih := rowN_lt ys (x / 2) fun y hy => h y (List.mem_cons_of_mem _ hy)
    rw [rowN_cons]
    split
    · exact Nat.or_lt_two_pow (h z (List.mem_cons_self ..)) ih
    · exact ih
noncomputable def takeN (n : Nat) : List Nat → List Nat := Nat.rec (motive := fun _ => List Nat → List Nat) (fun _ => []) (fun _ ih xs => List.rec (motive := fun _ => List Nat) [] (fun x xs _ => x :: ih xs) xs) n
theorem takeN_eq : ∀ n xs, takeN n xs = xs.take n
  | 0, _ => rfl
  | n + 1, [] => rfl
  | n + 1, x :: xs => by
    show x :: takeN n xs = _
    rw [takeN_eq n xs]; rfl
noncomputable def mapN (f : Nat → Nat) (xs : List Nat) : List Nat := List.rec (motive := fun _ => List Nat) [] (fun x _ ih => f x :: ih) xs
theorem mapN_eq (f : Nat → Nat) : ∀ xs, mapN f xs = xs.map f
  | [] => rfl
  | x :: xs => by
    show f x :: mapN f xs = _
    rw [mapN_eq f xs]; rfl
noncomputable def padN (xs : List Nat) (k : Nat) : List Nat := xs ++ List.replicate k 0
noncomputable def thenN (n : Nat) (xs ys : List Nat) : List Nat := padN (mapN (rowN (takeN n ys)) (takeN n xs)) (Nat.sub 40 n)
theorem getD_pad {xs : List Nat} {k a : Nat} : (padN xs k).getD a 0 = xs.getD a 0 := by
  unfold padN
  simp only [List.getD_eq_getElem?_getD, List.getElem?_append]
  split
  · rfl
  · rename_i h
    rw [List.getElem?_replicate, List.getElem?_eq_none (by omega)]
    split <;> rfl
theorem lst_then {n : Nat} (hn : n ≤ 40) {xs ys : List Nat} (hx : okN xs) (hy : okN ys) : Lst (thenR n (rwOf xs) (rwOf ys)) (thenN n xs ys) := by
  have e : thenN n xs ys = padN ((xs.take n).map (rowN (ys.take n))) (40 - n) := by
    unfold thenN; rw [mapN_eq, takeN_eq, takeN_eq]; rfl
  have hyt : ∀ y ∈ ys.take n, y < 2 ^ 64 := fun y h => hy.2 y (List.mem_of_mem_take h)
  have hlx : (xs.take n).length = n := by rw [List.length_take, hx.1]; omega
  have hly : (ys.take n).length = n := by rw [List.length_take, hy.1]; omega
  rw [e]
  refine lst_bits ?_ ?_ ?_
  · unfold padN; rw [List.length_append, List.length_map, hlx, List.length_replicate]; omega
  · intro z hz
    unfold padN at hz
    rcases List.mem_append.1 hz with hz | hz
    · obtain ⟨w, _, rfl⟩ := List.mem_map.1 hz
      exact rowN_lt _ _ hyt
    · obtain ⟨_, rfl⟩ := List.mem_replicate.1 hz; omega
  · intro a ha b hb'
    unfold thenR
    rw [hb_thenK, getD_pad]
    by_cases hn' : a < n
    · rw [decide_eq_true hn', Bool.true_and]
      have : ((xs.take n).map (rowN (ys.take n))).getD a 0 = rowN (ys.take n) (xs.getD a 0) := by
        simp only [List.getD_eq_getElem?_getD, List.getElem?_map]
        rw [List.getElem?_eq_getElem (by omega), List.getElem?_eq_getElem (by rw [hx.1]; omega), List.getElem_take]
        rfl
      rw [this, rowN_bit, hly, Bool.eq_iff_iff]
      simp only [List.any_eq_true, List.mem_range, Bool.and_eq_true]
      constructor
      · rintro ⟨c, hc, h1, h2⟩
        unfold hN at h1
        rw [hb_rw] at h1 h2
        simp only [Bool.and_eq_true, decide_eq_true_eq] at h1 h2
        refine ⟨c, hc, h1.2.2, ?_⟩
        have : (ys.take n).getD c 0 = ys.getD c 0 := by
          simp only [List.getD_eq_getElem?_getD]
          rw [List.getElem?_take_of_lt hc]
        rw [this]
        exact h2.2
      · rintro ⟨c, hc, h1, h2⟩
        have : (ys.take n).getD c 0 = ys.getD c 0 := by
          simp only [List.getD_eq_getElem?_getD]
          rw [List.getElem?_take_of_lt hc]
        rw [this] at h2
        refine ⟨c, hc, ?_, ?_⟩
        · unfold hN
          rw [hb_rw]
          simp only [Bool.and_eq_true, decide_eq_true_eq]
          exact ⟨⟨hn', hc⟩, by omega, h1⟩
        · rw [hb_rw]
          simp only [Bool.and_eq_true, decide_eq_true_eq]
          exact ⟨hb', h2⟩
    · rw [decide_eq_false hn', Bool.false_and]
      have : ((xs.take n).map (rowN (ys.take n))).getD a 0 = 0 := by
        rw [List.getD_eq_getElem?_getD, List.getElem?_eq_none (by rw [List.length_map]; omega)]; rfl
      rw [this]; simp
noncomputable def tbN (x b : Nat) : Bool := Nat.beq (Nat.land (Nat.shiftRight x b) 1) 1
theorem tbN_eq (x b : Nat) : tbN x b = x.testBit b := by
  show Nat.beq ((x >>> b) &&& 1) 1 = _
  rw [Nat.and_one_is_mod]
  have : x.testBit b = decide ((x >>> b) % 2 = 1) := by
    rw [← Nat.add_zero b, ← Nat.testBit_shiftRight, Nat.testBit_zero, Nat.add_zero]
  rw [this, Bool.eq_iff_iff]
  constructor
  · intro h; exact decide_eq_true (Nat.eq_of_beq_eq_true h)
  · intro h; rw [of_decide_eq_true h]; rfl
noncomputable def stepN (b r : Nat) (xs : List Nat) : List Nat := mapN (fun x => Bool.rec (motive := fun _ => Nat) x (Nat.lor x r) (tbN x b)) xs
noncomputable def frcNs {α : Type} (xs : List Nat) : (List Nat → α) → α := List.rec (motive := fun _ => (List Nat → α) → α) (fun k => k []) (fun x _ ih k => frcN x fun x => ih fun xs => k (x :: xs)) xs
theorem frcNs_ok {α : Type} : ∀ (xs : List Nat) (k : List Nat → α), frcNs xs k = k xs
  | [], _ => rfl
  | x :: xs, k => by
    show frcN x (fun x => frcNs xs fun xs => k (x :: xs)) = _
    rw [frcN_ok, frcNs_ok xs]
noncomputable def plusN (k : Nat) : Nat → List Nat → List Nat := Nat.rec (motive := fun _ => Nat → List Nat → List Nat) (fun _ xs => xs) (fun _ ih b xs => frcNs (stepN b (xs.getD b 0) xs) fun xs => ih (Nat.add b 1) xs) k
theorem plusN_succ (k b : Nat) (xs : List Nat) : plusN (k + 1) b xs = plusN k (b + 1) (stepN b (xs.getD b 0) xs) := by
  show frcNs (stepN b (xs.getD b 0) xs) (fun xs => plusN k (b + 1) xs) = _
  rw [frcNs_ok]
def wfN (n : Nat) (xs : List Nat) : Bool := (xs.take n).all (fun x => decide (x < 2 ^ n)) && (xs.drop n).all (fun x => x == 0)
theorem wfN_ok {n : Nat} {xs : List Nat} (h : wfN n xs = true) : Wf n (rwOf xs) := by
  intro a b hh
  rw [hb_rw] at hh
  simp only [Bool.and_eq_true, decide_eq_true_eq] at hh
  unfold wfN at h
  rw [Bool.and_eq_true, List.all_eq_true, List.all_eq_true] at h
  by_cases ha : a < n
  · refine ⟨ha, ?_⟩
    cases hz : xs[a]? with
    | none => rw [List.getD_eq_getElem?_getD, hz] at hh; simp at hh
    | some x =>
      have hx := h.1 x (List.mem_of_getElem? (by rw [List.getElem?_take_of_lt ha]; exact hz))
      rw [List.getD_eq_getElem?_getD, hz] at hh
      have hx : x < 2 ^ n := of_decide_eq_true hx
      by_cases hb' : b < n
      · exact hb'
      · rw [Option.getD_some, Nat.testBit_lt_two_pow (Nat.lt_of_lt_of_le hx (Nat.pow_le_pow_right (by omega) (by omega)))] at hh
        exact absurd hh.2 (by simp)
  · exfalso
    cases hz : xs[a]? with
    | none => rw [List.getD_eq_getElem?_getD, hz] at hh; simp at hh
    | some x =>
      have hx := h.2 x (List.mem_of_getElem? (i := a - n) (by rw [List.getElem?_drop, show n + (a - n) = a by omega]; exact hz))
      rw [List.getD_eq_getElem?_getD, hz] at hh
      have hx : x = 0 := by simpa using hx
      subst hx
      simp at hh
theorem stepN_get (b r : Nat) (xs : List Nat) (a : Nat) : (stepN b r xs).getD a 0 = if (xs.getD a 0).testBit b then xs.getD a 0 ||| r else xs.getD a 0 := by
  unfold stepN
  rw [mapN_eq]
  simp only [List.getD_eq_getElem?_getD, List.getElem?_map]
  cases xs[a]? with
  | none => simp
  | some x =>
    simp only [Option.map_some, Option.getD_some, tbN_eq]
    cases x.testBit b <;> rfl
theorem stepN_ok {b r : Nat} {xs : List Nat} (h : okN xs) (hr : r < 2 ^ 64) : okN (stepN b r xs) := by
  unfold stepN
  rw [mapN_eq]
  refine ⟨by rw [List.length_map]; exact h.1, fun z hz => ?_⟩
  obtain ⟨x, hx, rfl⟩ := List.mem_map.1 hz
  cases tbN x b with
  | true => exact Nat.or_lt_two_pow (h.2 x hx) hr
  | false => exact h.2 x hx
theorem rw_step {n b : Nat} (hn : n ≤ 40) (hb' : b < n) {xs : List Nat} (hw : Wf n (rwOf xs)) : rowP n b n (rwOf xs) = rwOf (stepN b (xs.getD b 0) xs) := by
  refine rw_ext fun x y hy => ?_
  rw [hb_rowP hb' _ hw n (Nat.le_refl _), hb_rw, hb_rw, hb_rw, hb_rw, stepN_get, decide_eq_true hy, decide_eq_true (show b < 64 by omega)]
  simp only [Bool.true_and]
  by_cases hx : x < n
  · rw [decide_eq_true hx, Bool.true_and]
    cases h : (xs.getD x 0).testBit b with
    | true => simp [Nat.testBit_or]
    | false => simp
  · rw [decide_eq_false hx]
    have : (xs.getD x 0).testBit b = false := by
      cases h : (xs.getD x 0).testBit b with
      | false => rfl
      | true =>
        exfalso
        have := hw x b (by rw [hb_rw, h, decide_eq_true (show b < 64 by omega)]; rfl)
        omega
    rw [this]; simp
theorem plusN_ok {n : Nat} (hn : n ≤ 40) : ∀ (k b : Nat) (xs : List Nat), b + k = n → okN xs → Wf n (rwOf xs) → okN (plusN k b xs) ∧ (List.range' b k).foldl (fun R b => rowP n b n R) (rwOf xs) = rwOf (plusN k b xs)
  | 0, b, xs, _, hx, _ => ⟨hx, rfl⟩
  | k + 1, b, xs, hk, hx, hw => by
    rw [plusN_succ, List.range'_succ, List.foldl_cons, rw_step hn (by omega) hw]
    have ok := stepN_ok (b := b) hx (getD_lt hx.2 b)
    refine plusN_ok hn k (b + 1) _ (by omega) ok ?_
    rw [← rw_step hn (by omega) hw]
    intro x y hh
    rw [hb_rowP (by omega) _ hw n (Nat.le_refl _)] at hh
    simp at hh
    rcases hh with hh | ⟨⟨h0, h1⟩, h2⟩
    · exact hw x y hh
    · exact ⟨h0, (hw b y h2).2⟩
theorem plus_eq {n : Nat} (hn : n ≤ 40) {xs : List Nat} (hx : okN xs) (hw : Wf n (rwOf xs)) : plusR n (rwOf xs) = rwOf (plusN n 0 xs) ∧ okN (plusN n 0 xs) := by
  obtain ⟨h1, h2⟩ := plusN_ok hn n 0 xs (by omega) hx hw
  refine ⟨?_, h1⟩
  rw [← h2]
  unfold plusR plusK
  rw [List.range_eq_range']
theorem lst_ok {xs : List Nat} (hx : okN xs) : Lst (rwOf xs) xs := by
  refine ⟨hx.1, fun a ha => ?_⟩
  unfold rwOf
  rw [BitVec.toNat_ofNat, Nat.mod_eq_of_lt (getD_lt hx.2 a)]
noncomputable def anyN (n : Nat) (f : Nat → Bool) : Bool := Nat.rec (motive := fun _ => Bool) false (fun k ih => Bool.rec (motive := fun _ => Bool) ih true (f k)) n
theorem anyN_eq (f : Nat → Bool) : ∀ n, anyN n f = (List.range n).any f
  | 0 => rfl
  | n + 1 => by
    show Bool.rec (motive := fun _ => Bool) (anyN n f) true (f n) = _
    rw [anyN_eq f n, List.range_succ, List.any_append]
    cases h : f n <;> simp [h]
theorem loops_eq {n : Nat} (hn : n ≤ 40) {xs : List Nat} (hx : okN xs) (hw : Wf n (rwOf xs)) : loopsR n (rwOf xs) = anyN n fun a => tbN ((plusN n 0 xs).getD a 0) a := by
  rw [anyN_eq, Bool.eq_iff_iff]
  unfold loopsR
  rw [(plus_eq hn hx hw).1]
  simp only [List.any_eq_true, List.mem_range, has_N]
  constructor
  · rintro ⟨a, ha, h⟩
    refine ⟨a, ha, ?_⟩
    unfold hN at h
    rw [hb_rw] at h
    simp only [Bool.and_eq_true, decide_eq_true_eq] at h
    rw [tbN_eq]; exact h.2.2
  · rintro ⟨a, ha, h⟩
    refine ⟨a, ha, ?_⟩
    unfold hN
    rw [hb_rw]
    simp only [Bool.and_eq_true, decide_eq_true_eq]
    rw [tbN_eq] at h
    exact ⟨⟨ha, ha⟩, by omega, h⟩
noncomputable def mayN (k : Nat) : Nat → List Nat → List Nat := Nat.rec (motive := fun _ => Nat → List Nat → List Nat) (fun _ xs => xs) (fun _ ih b xs => List.rec (motive := fun _ => List Nat) [] (fun x xs _ => Nat.lor x (Nat.shiftLeft 1 b) :: ih (Nat.add b 1) xs) xs) k
theorem mayN_get : ∀ (k b : Nat) (xs : List Nat) (a : Nat), a < xs.length → (mayN k b xs).getD a 0 = if a < k then xs.getD a 0 ||| (1 <<< (b + a)) else xs.getD a 0
  | 0, b, xs, a, _ => rfl
  | k + 1, b, [], a, h => by simp at h
  | k + 1, b, x :: xs, 0, h => by
    rw [if_pos (by omega)]; rfl
  | k + 1, b, x :: xs, a + 1, h => by
    show (Nat.lor x (Nat.shiftLeft 1 b) :: mayN k (b + 1) xs).getD (a + 1) 0 = _
    rw [List.getD_cons_succ, mayN_get k (b + 1) xs a (by simpa using h), List.getD_cons_succ, show b + 1 + a = b + (a + 1) by omega]
    by_cases hk : a < k
    · rw [if_pos hk, if_pos (by omega)]
    · rw [if_neg hk, if_neg (by omega)]
theorem mayN_len : ∀ (k b : Nat) (xs : List Nat), (mayN k b xs).length = xs.length
  | 0, _, _ => rfl
  | k + 1, b, [] => rfl
  | k + 1, b, x :: xs => by
    show (_ :: mayN k (b + 1) xs).length = _
    rw [List.length_cons, mayN_len k (b + 1) xs, List.length_cons]
theorem one_bit (a b : Nat) : ((1 : Nat) <<< a).testBit b = decide (b = a) := by
  rw [Nat.one_shiftLeft, Nat.testBit_two_pow, decide_eq_decide]
  exact eq_comm
theorem lst_may {n : Nat} (hn : n ≤ 40) {xs : List Nat} (hx : okN xs) : Lst (maybeK n (rwOf xs)) (mayN n 0 xs) := by
  refine lst_bits (by rw [mayN_len, hx.1]) ?_ ?_
  · intro z hz
    obtain ⟨a, ha, rfl⟩ := List.getElem_of_mem hz
    have hl := mayN_len n 0 xs
    have h1 := mayN_get n 0 xs a (by omega)
    rw [List.getD_eq_getElem?_getD, List.getElem?_eq_getElem ha, Option.getD_some] at h1
    rw [h1]
    have hxa := getD_lt hx.2 a
    split
    · refine Nat.or_lt_two_pow hxa ?_
      rw [Nat.zero_add, Nat.one_shiftLeft]
      exact Nat.pow_lt_pow_right (by omega) (by omega)
    · exact hxa
  · intro a ha b hb'
    rw [hb_maybeK _ _ _ _ (by omega), hb_rw, decide_eq_true hb', Bool.true_and, mayN_get n 0 xs a (by rw [hx.1]; exact ha)]
    by_cases h : a < n
    · rw [if_pos h, decide_eq_true h, Nat.testBit_or, Nat.zero_add, one_bit]; simp
    · rw [if_neg h, decide_eq_false h]; simp
noncomputable def newRow (n a : Nat) (l : List (Int × Int)) : Nat := List.rec (motive := fun _ => Nat) 0 (fun p _ ih => match p with
  | (.ofNat x, .ofNat y) => Bool.rec (motive := fun _ => Nat) ih (Bool.rec (motive := fun _ => Nat) ih (Nat.lor (Nat.shiftLeft 1 y) ih) (Nat.ble (Nat.add y 1) n)) (Nat.beq x a)
  | _ => ih) l
theorem newRow_bit {n a : Nat} (ha : a < n) : ∀ (l : List (Int × Int)) (b : Nat), (newRow n a l).testBit b = (decide (b < n) && l.any fun p => decide (p = ((a : Int), (b : Int))))
  | [], b => by show Nat.testBit 0 b = _; simp
  | p :: l, b => by
    have ih := newRow_bit ha l b
    rw [List.any_cons]
    have e : newRow n a (p :: l) = (match p with
      | (.ofNat x, .ofNat y) => Bool.rec (motive := fun _ => Nat) (newRow n a l) (Bool.rec (motive := fun _ => Nat) (newRow n a l) (Nat.lor (Nat.shiftLeft 1 y) (newRow n a l)) (Nat.ble (Nat.add y 1) n)) (Nat.beq x a)
      | _ => newRow n a l) := rfl
    rw [e]
    obtain ⟨p1, p2⟩ := p
    cases p1 with
    | negSucc m =>
      have : decide (((Int.negSucc m), p2) = ((a : Int), (b : Int))) = false := decide_eq_false fun h => by cases h
      rw [this, Bool.false_or]; cases p2 <;> exact ih
    | ofNat x =>
      cases p2 with
      | negSucc m =>
        have : decide (((Int.ofNat x), Int.negSucc m) = ((a : Int), (b : Int))) = false := decide_eq_false fun h => by cases h
        rw [this, Bool.false_or]; exact ih
      | ofNat y =>
        have hd : decide (((Int.ofNat x), Int.ofNat y) = ((a : Int), (b : Int))) = (decide (x = a) && decide (y = b)) := by
          rw [Bool.eq_iff_iff]; simp; omega
        rw [hd]
        show Nat.testBit (Bool.rec (motive := fun _ => Nat) (newRow n a l) (Bool.rec (motive := fun _ => Nat) (newRow n a l) ((1 <<< y) ||| (newRow n a l)) (Nat.ble (y + 1) n)) (Nat.beq x a)) b = _
        cases hxa : Nat.beq x a with
        | false =>
          have := Nat.ne_of_beq_eq_false hxa
          rw [decide_eq_false this]; simpa using ih
        | true =>
          have := Nat.eq_of_beq_eq_true hxa
          rw [decide_eq_true this]
          cases hy : Nat.ble (y + 1) n with
          | true =>
            have hy := Nat.le_of_ble_eq_true hy
            show Nat.testBit ((1 <<< y) ||| newRow n a l) b = _
            rw [Nat.testBit_or, one_bit, ih]
            by_cases hbn : b = y
            · subst hbn; simp; omega
            · have : ¬ y = b := fun h => hbn h.symm
              simp [hbn, this]
          | false =>
            have hy : ¬ y + 1 ≤ n := fun h => by rw [Nat.ble_eq_true_of_le h] at hy; cases hy
            show Nat.testBit (newRow n a l) b = _
            rw [ih]
            by_cases hbn : y = b
            · subst hbn; simp; omega
            · simp [hbn]
noncomputable def newN (n : Nat) (l : List (Int × Int)) : Nat → Nat → List Nat := fun k => Nat.rec (motive := fun _ => Nat → List Nat) (fun _ => []) (fun _ ih a => newRow n a l :: ih (Nat.add a 1)) k
theorem newN_get (n : Nat) (l : List (Int × Int)) : ∀ (k a i : Nat), (newN n l k a).getD i 0 = if i < k then newRow n (a + i) l else 0
  | 0, a, i => by rw [if_neg (by omega)]; rfl
  | k + 1, a, 0 => by rw [if_pos (by omega)]; rfl
  | k + 1, a, i + 1 => by
    show (newRow n a l :: newN n l k (a + 1)).getD (i + 1) 0 = _
    rw [List.getD_cons_succ, newN_get n l k (a + 1) i, show a + 1 + i = a + (i + 1) by omega]
    by_cases h : i < k
    · rw [if_pos h, if_pos (by omega)]
    · rw [if_neg h, if_neg (by omega)]
theorem newN_len (n : Nat) (l : List (Int × Int)) : ∀ (k a : Nat), (newN n l k a).length = k
  | 0, _ => rfl
  | k + 1, a => by
    show (_ :: newN n l k (a + 1)).length = _
    rw [List.length_cons, newN_len n l k (a + 1)]
theorem lst_new {n : Nat} (hn : n ≤ 40) (l : List (Int × Int)) : Lst (newR n l) (padN (newN n l n 0) (40 - n)) := by
  refine lst_bits (by unfold padN; rw [List.length_append, newN_len, List.length_replicate]; omega) ?_ ?_
  · intro z hz
    unfold padN at hz
    rcases List.mem_append.1 hz with hz | hz
    · obtain ⟨a, ha, rfl⟩ := List.getElem_of_mem hz
      have hl := newN_len n l n 0
      have h1 := newN_get n l n 0 a
      rw [List.getD_eq_getElem?_getD, List.getElem?_eq_getElem ha, Option.getD_some, if_pos (by omega), Nat.zero_add] at h1
      rw [h1]
      refine Nat.lt_pow_two_of_testBit _ fun i hi => ?_
      rw [newRow_bit (by omega), decide_eq_false (by omega)]; rfl
    · obtain ⟨_, rfl⟩ := List.mem_replicate.1 hz; omega
  · intro a ha b hb'
    rw [hb_new hn, getD_pad, newN_get, Nat.zero_add]
    by_cases h : a < n
    · rw [if_pos h, newRow_bit h, decide_eq_true h, Bool.true_and]
    · rw [if_neg h, decide_eq_false h]; simp
noncomputable def cellsN (n : Nat) (zs : List Nat) : AV := .ptr (.i .i64 n :: zs.map fun (x : Nat) => .i .u64 (x : Int))
theorem cellsN_ok {n : Nat} {R : Rw} {zs : List Nat} (h : Lst R zs) : cellsN n zs = .ptr (relC n R) := by rw [h.cells]; rfl
noncomputable def in2 (r : Nat → List Nat → Nat → List Nat → AV) : List AV → Option AV
  | [.ptr a, .ptr b] => (match relOf a with | some (n, xs) => (match relOf b with | some (m, ys) => some (r n xs m ys) | none => none) | none => none)
  | _ => none
noncomputable def in1 (r : Nat → List Nat → Option AV) : List AV → Option AV
  | [.ptr a] => (match relOf a with | some (n, xs) => r n xs | none => none)
  | _ => none
theorem in2_ok {r : Nat → List Nat → Nat → List Nat → AV} {f : Nat} (h : ∀ n m xs ys, n ≤ 40 → m ≤ 40 → okN xs → okN ys → pureS F f [.ptr (relC n (rwOf xs)), .ptr (relC m (rwOf ys))] = some (r n xs m ys)) {bs : List AV} {v : AV} (hv : in2 r bs = some v) : pureS F f bs = some v := by
  unfold in2 at hv
  split at hv
  · split at hv
    · rename_i h1
      split at hv
      · rename_i h2
        cases hv
        obtain ⟨a1, rfl, b1⟩ := relOf_okN h1
        obtain ⟨a2, rfl, b2⟩ := relOf_okN h2
        exact h _ _ _ _ a1 a2 b1 b2
      · cases hv
    · cases hv
  · cases hv
theorem in1_ok {r : Nat → List Nat → Option AV} {f : Nat} (h : ∀ n xs v, n ≤ 40 → okN xs → r n xs = some v → pureS F f [.ptr (relC n (rwOf xs))] = some v) {bs : List AV} {v : AV} (hv : in1 r bs = some v) : pureS F f bs = some v := by
  unfold in1 at hv
  split at hv
  · split at hv
    · rename_i h1
      obtain ⟨a1, rfl, b1⟩ := relOf_okN h1
      exact h _ _ _ a1 b1 hv
    · cases hv
  · cases hv
noncomputable def inNew : List AV → Option AV
  | [.i .i64 n, .sl cs k _] => (match pairsOf cs with | some l => if l.length = k ∧ k ≤ 100000 then frcN (clamp n) fun n => some (cellsN n (padN (newN n l n 0) (40 - n))) else none | none => none)
  | _ => none
noncomputable def relOrcN : Orc := fun f bs =>
  if f = 13 then isHas bs
  else if f = 24 then in2 (fun n xs m ys => cellsN (max n m) (zipN Nat.lor xs ys)) bs
  else if f = 23 then in2 (fun n xs m ys => cellsN (max n m) (thenN n xs ys)) bs
  else if f = 18 then in2 (fun n xs m ys => cellsN (max n m) (zipN Nat.land xs ys)) bs
  else if f = 12 then in1 (fun n xs => if wfN n xs then some (cellsN n (plusN n 0 xs)) else none) bs
  else if f = 16 then in1 (fun n xs => some (cellsN n (mayN n 0 xs))) bs
  else if f = 14 then in1 (fun n xs => if wfN n xs then some (.b (anyN n fun a => tbN ((plusN n 0 xs).getD a 0) a)) else none) bs
  else if f = 15 then is1 (fun n xs => .sl (pairsC (pairsR n (rwOf xs))) (pairsR n (rwOf xs)).length .non) bs
  else if f = 17 then is1 (fun n xs => .i .i64 n) bs
  else if f = 11 then inNew bs
  else none
theorem relOrcN_ok (pk : Pk_rel F) : OrcOk F relOrcN := by
  intro f bs v h
  have old := relOrc_ok pk f bs v
  unfold relOrcN at h
  split at h
  · rename_i hf; subst hf; exact old (by unfold relOrc; exact h)
  split at h
  · rename_i hf; subst hf; exact in2_ok (fun n m xs ys hn hm hx hy => by rw [sp_or pk hn hm, cellsN_ok (lst_or hx hy)]) h
  split at h
  · rename_i hf; subst hf; exact in2_ok (fun n m xs ys hn hm hx hy => by rw [sp_then pk hn hm, cellsN_ok (lst_then hn hx hy)]) h
  split at h
  · rename_i hf; subst hf; exact in2_ok (fun n m xs ys hn hm hx hy => by rw [sp_and pk hn hm, cellsN_ok (lst_and hx hy)]) h
  split at h
  · rename_i hf; subst hf
    refine in1_ok (fun n xs v hn hx hv => ?_) h
    split at hv
    · rename_i hw
      cases hv
      obtain ⟨e1, e2⟩ := plus_eq hn hx (wfN_ok hw)
      rw [sp_plus pk hn, e1, cellsN_ok (lst_ok e2)]
    · cases hv
  split at h
  · rename_i hf; subst hf
    refine in1_ok (fun n xs v hn hx hv => ?_) h
    cases hv
    rw [sp_maybe pk hn, cellsN_ok (lst_may hn hx)]
  split at h
  · rename_i hf; subst hf
    refine in1_ok (fun n xs v hn hx hv => ?_) h
    split at hv
    · rename_i hw
      cases hv
      rw [sp_loops pk hn, loops_eq hn hx (wfN_ok hw)]
    · cases hv
  split at h
  · rename_i hf; subst hf; exact is1_ok (fun n xs hn => sp_pairs pk hn _) h
  split at h
  · rename_i hf; subst hf; exact is1_ok (fun n xs hn => sp_len pk _) h
  split at h
  · rename_i hf; subst hf
    unfold inNew at h
    split at h
    · split at h
      · rename_i l h1
        split at h
        · rename_i hk
          rw [frcN_ok] at h
          cases h
          rw [pairsOf_ok h1, ← hk.1, cellsN_ok (lst_new (clamp_le _) l)]
          exact sp_new pk _ _ _ (by omega)
        · cases h
      · cases h
    · cases h
  · cases h
end Go.Ab
end
section
set_option linter.unusedVariables false
set_option linter.unusedSimpArgs false
namespace Go.Ab
theorem fewB_ok {X : Gr} (h : fewB X = true) : Few X ∧ LenG X := by
  unfold fewB at h
  simp only [Bool.and_eq_true, decide_eq_true_eq, List.all_eq_true] at h
  obtain ⟨⟨⟨⟨⟨⟨h1, h2⟩, h3⟩, h4⟩, h5⟩, h6⟩, h7⟩ := h
  refine ⟨⟨by omega, by omega, fun c hc => by have := h3 c hc; omega⟩, ⟨?_, by omega, fun k => ?_, by omega, by omega, by omega, by omega⟩⟩
  · have := flat_le (l := X.co) (m := 50) h3
    have : X.co.length * 50 ≤ 6 * 50 := Nat.mul_le_mul_right _ h2
    omega
  · rw [List.getD_eq_getElem?_getD]
    cases hz : X.co[k]? with
    | none => simp
    | some c => have := h3 c (List.mem_of_getElem? hz); simp only [Option.getD_some]; omega
def sL : ACode → ACode
  | .seq a _ => a
  | c => c
def sR : ACode → ACode
  | .seq _ b => b
  | c => c
end Go.Ab
end
section
set_option linter.unusedVariables false
set_option linter.unusedSimpArgs false
namespace Go.Ab
variable {F : Funs}
noncomputable def powOrc : Orc := orcOr (grOrc 276 fewB fun X => .b (pcnB X)) (orcOr (grOrc 294 fewB fun X => .ptr (relC (nOf X) (psyR X))) (orcOr (grOrc 295 fewB fun X => .ptr (relC (nOf X) (pfeR X))) relOrcN))
theorem powOrc_ok (S : PowF F) : OrcOk F powOrc :=
  orcOr_ok (grOrc_ok fun X h => pw_con S (fewB_ok h).1 (fewB_ok h).2) (orcOr_ok (grOrc_ok fun X h => pw_sync S (fewB_ok h).1) (orcOr_ok (grOrc_ok fun X h => pw_fences S (fewB_ok h).1) (relOrcN_ok S.pp.pr)))
theorem pw_awake (S : PowF F) (h277 : F 277 = some A_xlaw20_awake) (h : evK powOrc F 1000 A_xlaw20_awake.res A_xlaw20_awake.body (argEnv []) g0 = true) : pureS F 277 [] = some (.b true) := pure_eval (powOrc_ok S) 1000 h277 h
end Go.Ab
end
section
set_option linter.unusedVariables false
set_option maxRecDepth 100000
namespace Go.Proofs.Ytgfjjohnfbhjcaa
open Go.Ab
theorem powS : PowF funs := ⟨pk_power, ⟨pk_ppo, pk_eco, pk_rel, rfl, rfl, rfl, ⟨rfl, rfl, rfl⟩⟩, ⟨rfl, rfl, rfl, rfl, rfl, rfl, rfl, rfl, rfl, rfl, rfl, rfl, ⟨rfl, rfl, rfl⟩⟩⟩
theorem aw20 : pureS funs 277 [] = some (.b true) := pw_awake powS rfl (by kernel_rfl)
noncomputable def orcP : Orc := orcOr powOrc (yesOrc 277)
theorem orcP_ok : OrcOk funs orcP := orcOr_ok (powOrc_ok powS) (yesOrc_ok aw20)
end Go.Proofs.Ytgfjjohnfbhjcaa
end
section
set_option linter.unusedVariables false
set_option linter.unusedSimpArgs false
set_option maxRecDepth 100000
namespace Go.Proofs.Ytgfjjohnfbhjcaa
open Go.Ab
theorem powerCoherent_00 (a b c : Int) (hx : place a 3 = 0) (hy : place b 3 = 0) : pureS funs 269 [.i .i64 a, .i .i64 b, .i .i64 c] = some (.b true) := by
  refine pure_of (fn := A_xlaw20_PowerCoherent) rfl ?_
  have hp1 := sp_place (F := funs) rfl (v := a) (n := 3) (by omega) (by omega)
  have hp2 := sp_place (F := funs) rfl (v := b) (n := 3) (by omega) (by omega)
  have hp3 := sp_place (F := funs) rfl (v := c) (n := 5) (by omega) (by omega)
  obtain ⟨s0, s1⟩ := place_lt (v := c) (n := 5) (by omega)
  rw [hx] at hp1
  rw [hy] at hp2
  generalize place c 5 = z at hp3 s0 s1
  rw [show A_xlaw20_PowerCoherent.body = .seq (sL A_xlaw20_PowerCoherent.body) (.seq (sL (sR A_xlaw20_PowerCoherent.body)) (sR (sR A_xlaw20_PowerCoherent.body))) from rfl]
  generalize hr : sR (sR A_xlaw20_PowerCoherent.body) = rest
  simp (disch := omega) only [A_xlaw20_PowerCoherent, sL, sR, wp, Nat.reduceAdd, Nat.reduceMul, Nat.reduceSub, hp1, hp2, hp3]
  subst hr
  have hz : z = 0 ∨ z = 1 ∨ z = 2 ∨ z = 3 ∨ z = 4 := by omega
  rcases hz with rfl | rfl | rfl | rfl | rfl <;> exact W_eval orcP_ok 1000 (by kernel_rfl)
theorem powerCoherent_01 (a b c : Int) (hx : place a 3 = 0) (hy : place b 3 = 1) : pureS funs 269 [.i .i64 a, .i .i64 b, .i .i64 c] = some (.b true) := by
  refine pure_of (fn := A_xlaw20_PowerCoherent) rfl ?_
  have hp1 := sp_place (F := funs) rfl (v := a) (n := 3) (by omega) (by omega)
  have hp2 := sp_place (F := funs) rfl (v := b) (n := 3) (by omega) (by omega)
  have hp3 := sp_place (F := funs) rfl (v := c) (n := 5) (by omega) (by omega)
  obtain ⟨s0, s1⟩ := place_lt (v := c) (n := 5) (by omega)
  rw [hx] at hp1
  rw [hy] at hp2
  generalize place c 5 = z at hp3 s0 s1
  rw [show A_xlaw20_PowerCoherent.body = .seq (sL A_xlaw20_PowerCoherent.body) (.seq (sL (sR A_xlaw20_PowerCoherent.body)) (sR (sR A_xlaw20_PowerCoherent.body))) from rfl]
  generalize hr : sR (sR A_xlaw20_PowerCoherent.body) = rest
  simp (disch := omega) only [A_xlaw20_PowerCoherent, sL, sR, wp, Nat.reduceAdd, Nat.reduceMul, Nat.reduceSub, hp1, hp2, hp3]
  subst hr
  have hz : z = 0 ∨ z = 1 ∨ z = 2 ∨ z = 3 ∨ z = 4 := by omega
  rcases hz with rfl | rfl | rfl | rfl | rfl <;> exact W_eval orcP_ok 1000 (by kernel_rfl)
theorem powerCoherent_02 (a b c : Int) (hx : place a 3 = 0) (hy : place b 3 = 2) : pureS funs 269 [.i .i64 a, .i .i64 b, .i .i64 c] = some (.b true) := by
  refine pure_of (fn := A_xlaw20_PowerCoherent) rfl ?_
  have hp1 := sp_place (F := funs) rfl (v := a) (n := 3) (by omega) (by omega)
  have hp2 := sp_place (F := funs) rfl (v := b) (n := 3) (by omega) (by omega)
  have hp3 := sp_place (F := funs) rfl (v := c) (n := 5) (by omega) (by omega)
  obtain ⟨s0, s1⟩ := place_lt (v := c) (n := 5) (by omega)
  rw [hx] at hp1
  rw [hy] at hp2
  generalize place c 5 = z at hp3 s0 s1
  rw [show A_xlaw20_PowerCoherent.body = .seq (sL A_xlaw20_PowerCoherent.body) (.seq (sL (sR A_xlaw20_PowerCoherent.body)) (sR (sR A_xlaw20_PowerCoherent.body))) from rfl]
  generalize hr : sR (sR A_xlaw20_PowerCoherent.body) = rest
  simp (disch := omega) only [A_xlaw20_PowerCoherent, sL, sR, wp, Nat.reduceAdd, Nat.reduceMul, Nat.reduceSub, hp1, hp2, hp3]
  subst hr
  have hz : z = 0 ∨ z = 1 ∨ z = 2 ∨ z = 3 ∨ z = 4 := by omega
  rcases hz with rfl | rfl | rfl | rfl | rfl <;> exact W_eval orcP_ok 1000 (by kernel_rfl)
end Go.Proofs.Ytgfjjohnfbhjcaa
end
section
set_option linter.unusedVariables false
set_option linter.unusedSimpArgs false
set_option maxRecDepth 100000
namespace Go.Proofs.Ytgfjjohnfbhjcaa
open Go.Ab
theorem powerCoherent_10 (a b c : Int) (hx : place a 3 = 1) (hy : place b 3 = 0) : pureS funs 269 [.i .i64 a, .i .i64 b, .i .i64 c] = some (.b true) := by
  refine pure_of (fn := A_xlaw20_PowerCoherent) rfl ?_
  have hp1 := sp_place (F := funs) rfl (v := a) (n := 3) (by omega) (by omega)
  have hp2 := sp_place (F := funs) rfl (v := b) (n := 3) (by omega) (by omega)
  have hp3 := sp_place (F := funs) rfl (v := c) (n := 5) (by omega) (by omega)
  obtain ⟨s0, s1⟩ := place_lt (v := c) (n := 5) (by omega)
  rw [hx] at hp1
  rw [hy] at hp2
  generalize place c 5 = z at hp3 s0 s1
  rw [show A_xlaw20_PowerCoherent.body = .seq (sL A_xlaw20_PowerCoherent.body) (.seq (sL (sR A_xlaw20_PowerCoherent.body)) (sR (sR A_xlaw20_PowerCoherent.body))) from rfl]
  generalize hr : sR (sR A_xlaw20_PowerCoherent.body) = rest
  simp (disch := omega) only [A_xlaw20_PowerCoherent, sL, sR, wp, Nat.reduceAdd, Nat.reduceMul, Nat.reduceSub, hp1, hp2, hp3]
  subst hr
  have hz : z = 0 ∨ z = 1 ∨ z = 2 ∨ z = 3 ∨ z = 4 := by omega
  rcases hz with rfl | rfl | rfl | rfl | rfl <;> exact W_eval orcP_ok 1000 (by kernel_rfl)
theorem powerCoherent_11 (a b c : Int) (hx : place a 3 = 1) (hy : place b 3 = 1) : pureS funs 269 [.i .i64 a, .i .i64 b, .i .i64 c] = some (.b true) := by
  refine pure_of (fn := A_xlaw20_PowerCoherent) rfl ?_
  have hp1 := sp_place (F := funs) rfl (v := a) (n := 3) (by omega) (by omega)
  have hp2 := sp_place (F := funs) rfl (v := b) (n := 3) (by omega) (by omega)
  have hp3 := sp_place (F := funs) rfl (v := c) (n := 5) (by omega) (by omega)
  obtain ⟨s0, s1⟩ := place_lt (v := c) (n := 5) (by omega)
  rw [hx] at hp1
  rw [hy] at hp2
  generalize place c 5 = z at hp3 s0 s1
  rw [show A_xlaw20_PowerCoherent.body = .seq (sL A_xlaw20_PowerCoherent.body) (.seq (sL (sR A_xlaw20_PowerCoherent.body)) (sR (sR A_xlaw20_PowerCoherent.body))) from rfl]
  generalize hr : sR (sR A_xlaw20_PowerCoherent.body) = rest
  simp (disch := omega) only [A_xlaw20_PowerCoherent, sL, sR, wp, Nat.reduceAdd, Nat.reduceMul, Nat.reduceSub, hp1, hp2, hp3]
  subst hr
  have hz : z = 0 ∨ z = 1 ∨ z = 2 ∨ z = 3 ∨ z = 4 := by omega
  rcases hz with rfl | rfl | rfl | rfl | rfl <;> exact W_eval orcP_ok 1000 (by kernel_rfl)
theorem powerCoherent_12 (a b c : Int) (hx : place a 3 = 1) (hy : place b 3 = 2) : pureS funs 269 [.i .i64 a, .i .i64 b, .i .i64 c] = some (.b true) := by
  refine pure_of (fn := A_xlaw20_PowerCoherent) rfl ?_
  have hp1 := sp_place (F := funs) rfl (v := a) (n := 3) (by omega) (by omega)
  have hp2 := sp_place (F := funs) rfl (v := b) (n := 3) (by omega) (by omega)
  have hp3 := sp_place (F := funs) rfl (v := c) (n := 5) (by omega) (by omega)
  obtain ⟨s0, s1⟩ := place_lt (v := c) (n := 5) (by omega)
  rw [hx] at hp1
  rw [hy] at hp2
  generalize place c 5 = z at hp3 s0 s1
  rw [show A_xlaw20_PowerCoherent.body = .seq (sL A_xlaw20_PowerCoherent.body) (.seq (sL (sR A_xlaw20_PowerCoherent.body)) (sR (sR A_xlaw20_PowerCoherent.body))) from rfl]
  generalize hr : sR (sR A_xlaw20_PowerCoherent.body) = rest
  simp (disch := omega) only [A_xlaw20_PowerCoherent, sL, sR, wp, Nat.reduceAdd, Nat.reduceMul, Nat.reduceSub, hp1, hp2, hp3]
  subst hr
  have hz : z = 0 ∨ z = 1 ∨ z = 2 ∨ z = 3 ∨ z = 4 := by omega
  rcases hz with rfl | rfl | rfl | rfl | rfl <;> exact W_eval orcP_ok 1000 (by kernel_rfl)
end Go.Proofs.Ytgfjjohnfbhjcaa
end
section
set_option linter.unusedVariables false
set_option linter.unusedSimpArgs false
set_option maxRecDepth 100000
namespace Go.Proofs.Ytgfjjohnfbhjcaa
open Go.Ab
theorem powerCoherent_20 (a b c : Int) (hx : place a 3 = 2) (hy : place b 3 = 0) : pureS funs 269 [.i .i64 a, .i .i64 b, .i .i64 c] = some (.b true) := by
  refine pure_of (fn := A_xlaw20_PowerCoherent) rfl ?_
  have hp1 := sp_place (F := funs) rfl (v := a) (n := 3) (by omega) (by omega)
  have hp2 := sp_place (F := funs) rfl (v := b) (n := 3) (by omega) (by omega)
  have hp3 := sp_place (F := funs) rfl (v := c) (n := 5) (by omega) (by omega)
  obtain ⟨s0, s1⟩ := place_lt (v := c) (n := 5) (by omega)
  rw [hx] at hp1
  rw [hy] at hp2
  generalize place c 5 = z at hp3 s0 s1
  rw [show A_xlaw20_PowerCoherent.body = .seq (sL A_xlaw20_PowerCoherent.body) (.seq (sL (sR A_xlaw20_PowerCoherent.body)) (sR (sR A_xlaw20_PowerCoherent.body))) from rfl]
  generalize hr : sR (sR A_xlaw20_PowerCoherent.body) = rest
  simp (disch := omega) only [A_xlaw20_PowerCoherent, sL, sR, wp, Nat.reduceAdd, Nat.reduceMul, Nat.reduceSub, hp1, hp2, hp3]
  subst hr
  have hz : z = 0 ∨ z = 1 ∨ z = 2 ∨ z = 3 ∨ z = 4 := by omega
  rcases hz with rfl | rfl | rfl | rfl | rfl <;> exact W_eval orcP_ok 1000 (by kernel_rfl)
theorem powerCoherent_21 (a b c : Int) (hx : place a 3 = 2) (hy : place b 3 = 1) : pureS funs 269 [.i .i64 a, .i .i64 b, .i .i64 c] = some (.b true) := by
  refine pure_of (fn := A_xlaw20_PowerCoherent) rfl ?_
  have hp1 := sp_place (F := funs) rfl (v := a) (n := 3) (by omega) (by omega)
  have hp2 := sp_place (F := funs) rfl (v := b) (n := 3) (by omega) (by omega)
  have hp3 := sp_place (F := funs) rfl (v := c) (n := 5) (by omega) (by omega)
  obtain ⟨s0, s1⟩ := place_lt (v := c) (n := 5) (by omega)
  rw [hx] at hp1
  rw [hy] at hp2
  generalize place c 5 = z at hp3 s0 s1
  rw [show A_xlaw20_PowerCoherent.body = .seq (sL A_xlaw20_PowerCoherent.body) (.seq (sL (sR A_xlaw20_PowerCoherent.body)) (sR (sR A_xlaw20_PowerCoherent.body))) from rfl]
  generalize hr : sR (sR A_xlaw20_PowerCoherent.body) = rest
  simp (disch := omega) only [A_xlaw20_PowerCoherent, sL, sR, wp, Nat.reduceAdd, Nat.reduceMul, Nat.reduceSub, hp1, hp2, hp3]
  subst hr
  have hz : z = 0 ∨ z = 1 ∨ z = 2 ∨ z = 3 ∨ z = 4 := by omega
  rcases hz with rfl | rfl | rfl | rfl | rfl <;> exact W_eval orcP_ok 1000 (by kernel_rfl)
theorem powerCoherent_22 (a b c : Int) (hx : place a 3 = 2) (hy : place b 3 = 2) : pureS funs 269 [.i .i64 a, .i .i64 b, .i .i64 c] = some (.b true) := by
  refine pure_of (fn := A_xlaw20_PowerCoherent) rfl ?_
  have hp1 := sp_place (F := funs) rfl (v := a) (n := 3) (by omega) (by omega)
  have hp2 := sp_place (F := funs) rfl (v := b) (n := 3) (by omega) (by omega)
  have hp3 := sp_place (F := funs) rfl (v := c) (n := 5) (by omega) (by omega)
  obtain ⟨s0, s1⟩ := place_lt (v := c) (n := 5) (by omega)
  rw [hx] at hp1
  rw [hy] at hp2
  generalize place c 5 = z at hp3 s0 s1
  rw [show A_xlaw20_PowerCoherent.body = .seq (sL A_xlaw20_PowerCoherent.body) (.seq (sL (sR A_xlaw20_PowerCoherent.body)) (sR (sR A_xlaw20_PowerCoherent.body))) from rfl]
  generalize hr : sR (sR A_xlaw20_PowerCoherent.body) = rest
  simp (disch := omega) only [A_xlaw20_PowerCoherent, sL, sR, wp, Nat.reduceAdd, Nat.reduceMul, Nat.reduceSub, hp1, hp2, hp3]
  subst hr
  have hz : z = 0 ∨ z = 1 ∨ z = 2 ∨ z = 3 ∨ z = 4 := by omega
  rcases hz with rfl | rfl | rfl | rfl | rfl <;> exact W_eval orcP_ok 1000 (by kernel_rfl)
end Go.Proofs.Ytgfjjohnfbhjcaa
end
section
namespace Go.Proofs.Ytgfjjohnfbhjcaa
open Go.Ab
theorem powerCoherent_law (a b c : Int) : pureS funs 269 [.i .i64 a, .i .i64 b, .i .i64 c] = some (.b true) := by
  obtain ⟨q0, q1⟩ := place_lt (v := a) (n := 3) (by omega)
  obtain ⟨r0, r1⟩ := place_lt (v := b) (n := 3) (by omega)
  have hx : place a 3 = 0 ∨ place a 3 = 1 ∨ place a 3 = 2 := by omega
  have hy : place b 3 = 0 ∨ place b 3 = 1 ∨ place b 3 = 2 := by omega
  rcases hx with hx | hx | hx <;> rcases hy with hy | hy | hy
  · exact powerCoherent_00 a b c hx hy
  · exact powerCoherent_01 a b c hx hy
  · exact powerCoherent_02 a b c hx hy
  · exact powerCoherent_10 a b c hx hy
  · exact powerCoherent_11 a b c hx hy
  · exact powerCoherent_12 a b c hx hy
  · exact powerCoherent_20 a b c hx hy
  · exact powerCoherent_21 a b c hx hy
  · exact powerCoherent_22 a b c hx hy
end Go.Proofs.Ytgfjjohnfbhjcaa
end
