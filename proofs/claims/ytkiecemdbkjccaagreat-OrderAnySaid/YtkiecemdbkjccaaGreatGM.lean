/- The abstract machine, its adequacy, what functions compute; lemmas, no claim of its own. -/
import Derived.Test.YtkiecemdbkjccaaGreatGA
import Derived.Test.YtkiecemdbkjccaaGreatGL
section
/- Resolved functions of package order, written by a program (res.py). -/
namespace Go.Ab
def A_order_Bob : AFun := { res := [.t 2], body := (.seq (.reg false [{ dst := some 1, op := .boxI (.t 0) },
  { dst := some 2, op := .mv (.c (.nilp)) }])
 (.seq (.reg false [{ dst := some 4, op := .ld (some 8) (.t 1) },
  { dst := some 5, op := .call .pure (.c (.fn 60 [] [])) [.t 4] },
  { dst := some 3, op := .new ([.nilp]) },
  { dst := none, op := .st 1 (.t 3) (.t 5) }])
 (.seq (.imm 3 (.reg false [{ dst := some 6, op := .ld (some 8) (.t 1) },
  { dst := some 7, op := .mkfn 194 [] [.t 3, .t 1] },
  { dst := some 8, op := .mkfn 197 [] [.t 1, .t 3] },
  { dst := some 9, op := .mkfn 199 [] [.t 3, .t 1] },
  { dst := some 10, op := .mkfn 201 [] [.t 1, .t 3] },
  { dst := some 11, op := .mkfn 202 [] [.t 1] },
  { dst := some 12, op := .bsl true 5 (List.replicate 5 (.nilf)) [(0, 1, .t 7), (1, 1, .t 8), (2, 1, .t 9), (3, 1, .t 10), (4, 1, .t 11)] },
  { dst := some 13, op := .call .pure (.c (.fn 193 [] [])) [.t 6, .t 12] },
  { dst := some 2, op := .mv (.t 13) }]))
 .ret))) }
def A_order_Ar : AFun := { res := [.t 2], body := (.seq (.reg false [{ dst := some 1, op := .boxI (.t 0) },
  { dst := some 2, op := .mv (.c (.nilp)) }])
 (.seq (.reg false [{ dst := some 3, op := .ld (some 8) (.t 1) },
  { dst := some 4, op := .mkfn 204 [] [.t 1] },
  { dst := some 5, op := .mkfn 205 [] [.t 1] },
  { dst := some 6, op := .mkfn 206 [] [.t 1] },
  { dst := some 7, op := .mkfn 208 [] [.t 1] },
  { dst := some 8, op := .mkfn 210 [] [.t 1] },
  { dst := some 9, op := .bsl true 5 (List.replicate 5 (.nilf)) [(0, 1, .t 4), (1, 1, .t 5), (2, 1, .t 6), (3, 1, .t 7), (4, 1, .t 8)] },
  { dst := some 10, op := .call .pure (.c (.fn 193 [] [])) [.t 3, .t 9] },
  { dst := some 2, op := .mv (.t 10) }])
 .ret)) }
def A_order_all : AFun := { res := [.t 4], body := (.seq (.reg false [{ dst := some 2, op := .box (.t 0) },
  { dst := some 4, op := .mv (.c (.nilp)) }])
 (.seq (.reg false [{ dst := some 8, op := .fa 1 (.t 2) },
  { dst := some 9, op := .ld none (.t 8) },
  { dst := some 10, op := .len (.t 9) },
  { dst := some 11, op := .call .pure (.c (.fn 11 [] [])) [.t 10, .c (.sl [] 0 .rig)] },
  { dst := some 5, op := .mv (.t 11) }])
 (.seq (.seq (.reg false [{ dst := some 12, op := .mv (.t 1) },
  { dst := some 13, op := .len (.t 12) },
  { dst := some 14, op := .mv (.c (.i .i64 0)) }])
 (.blk 0 (.loop (.seq (.reg false [{ dst := some 15, op := .bin .lss (.t 14) (.t 13) }])
 (.seq (.cond (.t 15) .skip
 (.ext 0))
 (.seq (.blk 1 (.seq (.reg false [{ dst := some 16, op := .ia 1 (.t 12) (.t 14) },
  { dst := some 17, op := .ld none (.t 16) },
  { dst := some 7, op := .mv (.t 17) }])
 (.reg false [{ dst := some 18, op := .mv (.t 5) },
  { dst := some 19, op := .mv (.t 7) },
  { dst := some 20, op := .call .pure (.t 19) [] },
  { dst := some 21, op := .call .pure (.c (.fn 24 [] [])) [.t 18, .t 20] },
  { dst := some 5, op := .mv (.t 21) }])))
 (.reg false [{ dst := some 22, op := .bin .add (.t 14) (.c (.i .i64 1)) },
  { dst := some 14, op := .mv (.t 22) }])))))))
 (.seq (.reg false [{ dst := some 23, op := .mv (.t 5) },
  { dst := some 4, op := .mv (.t 23) }])
 .ret)))) }
def A_order_Bob_1 : AFun := { res := [.t 2], body := (.seq (.reg false [{ dst := some 2, op := .mv (.c (.nilp)) }])
 (.seq (.reg true [{ dst := some 3, op := .ld none (.t 0), pre := [] },
  { dst := some 4, op := .ld (some 8) (.t 1), pre := [] },
  { dst := some 5, op := .call .pure (.c (.fn 195 [] [])) [.t 4, .c (.fn 196 [] [])], pre := [] },
  { dst := some 6, op := .call .pure (.c (.fn 23 [] [])) [.t 3, .t 5], pre := [] },
  { dst := some 2, op := .mv (.t 6) }])
 .ret)) }
def A_order_set : AFun := { res := [.t 4], body := (.seq (.reg false [{ dst := some 2, op := .box (.t 0) },
  { dst := some 4, op := .mv (.c (.nilp)) }])
 (.seq (.reg false [{ dst := some 5, op := .ld (some 8) (.t 2) },
  { dst := some 6, op := .mv (.t 1) },
  { dst := some 7, op := .call .pure (.c (.fn 166 [] [])) [.t 5, .t 6] },
  { dst := some 4, op := .mv (.t 7) }])
 .ret)) }
def A_order_isRel : AFun := { res := [.t 2], body := (.seq (.reg false [{ dst := some 1, op := .box (.t 0) },
  { dst := some 2, op := .mv (.c (.b false)) }])
 (.seq (.reg false [{ dst := some 3, op := .ld (some 6) (.t 1) },
  { dst := some 4, op := .call .pure (.c (.fn 203 [] [])) [.t 3] },
  { dst := some 5, op := .mv (.t 4) },
  { dst := some 6, op := .fa 2 (.t 1), grd := some (5, true) },
  { dst := some 7, op := .ld none (.t 6), grd := some (5, true) },
  { dst := some 8, op := .bin .eql (.t 7) (.c (.i .i64 2)), grd := some (5, true) },
  { dst := some 9, op := .pick (.t 5) (.t 8) (.c (.b false)) },
  { dst := some 2, op := .mv (.t 9) }])
 .ret)) }
def A_order_Bob_2 : AFun := { res := [.t 2], body := (.seq (.reg false [{ dst := some 2, op := .mv (.c (.nilp)) }])
 (.seq (.reg true [{ dst := some 3, op := .ld (some 8) (.t 0), pre := [] },
  { dst := some 4, op := .call .pure (.c (.fn 195 [] [])) [.t 3, .c (.fn 198 [] [])], pre := [] },
  { dst := some 5, op := .ld none (.t 1), pre := [] },
  { dst := some 6, op := .call .pure (.c (.fn 23 [] [])) [.t 4, .t 5], pre := [] },
  { dst := some 2, op := .mv (.t 6) }])
 .ret)) }
def A_order_isAcq : AFun := { res := [.t 2], body := (.seq (.reg false [{ dst := some 1, op := .box (.t 0) },
  { dst := some 2, op := .mv (.c (.b false)) }])
 (.seq (.reg false [{ dst := some 3, op := .ld (some 6) (.t 1) },
  { dst := some 4, op := .call .pure (.c (.fn 240 [] [])) [.t 3] },
  { dst := some 5, op := .mv (.t 4) },
  { dst := some 6, op := .fa 2 (.t 1), grd := some (5, true) },
  { dst := some 7, op := .ld none (.t 6), grd := some (5, true) },
  { dst := some 8, op := .bin .eql (.t 7) (.c (.i .i64 1)), grd := some (5, true) },
  { dst := some 9, op := .pick (.t 5) (.t 8) (.c (.b false)) },
  { dst := some 2, op := .mv (.t 9) }])
 .ret)) }
def A_order_Bob_3 : AFun := { res := [.t 2], body := (.seq (.reg false [{ dst := some 2, op := .mv (.c (.nilp)) }])
 (.seq (.reg true [{ dst := some 3, op := .ld none (.t 0), pre := [] },
  { dst := some 4, op := .ld (some 8) (.t 1), pre := [] },
  { dst := some 5, op := .call .pure (.c (.fn 195 [] [])) [.t 4, .c (.fn 200 [] [])], pre := [] },
  { dst := some 6, op := .call .pure (.c (.fn 23 [] [])) [.t 3, .t 5], pre := [] },
  { dst := some 2, op := .mv (.t 6) }])
 .ret)) }
def A_order_isF : AFun := { res := [.t 2], body := (.seq (.reg false [{ dst := some 1, op := .box (.t 0) },
  { dst := some 2, op := .mv (.c (.b false)) }])
 (.seq (.reg false [{ dst := some 3, op := .fa 1 (.t 1) },
  { dst := some 4, op := .ld none (.t 3) },
  { dst := some 5, op := .bin .eql (.t 4) (.c (.i .i64 3)) },
  { dst := some 2, op := .mv (.t 5) }])
 .ret)) }
def A_order_Bob_4 : AFun := { res := [.t 2], body := (.seq (.reg false [{ dst := some 2, op := .mv (.c (.nilp)) }])
 (.seq (.reg true [{ dst := some 3, op := .ld (some 8) (.t 0), pre := [] },
  { dst := some 4, op := .call .pure (.c (.fn 195 [] [])) [.t 3, .c (.fn 200 [] [])], pre := [] },
  { dst := some 5, op := .ld none (.t 1), pre := [] },
  { dst := some 6, op := .call .pure (.c (.fn 23 [] [])) [.t 4, .t 5], pre := [] },
  { dst := some 2, op := .mv (.t 6) }])
 .ret)) }
def A_order_Bob_5 : AFun := { res := [.t 1], body := (.seq (.reg false [{ dst := some 1, op := .mv (.c (.nilp)) }])
 (.seq (.reg true [{ dst := some 2, op := .ld (some 8) (.t 0), pre := [] },
  { dst := some 3, op := .call .pure (.c (.fn 195 [] [])) [.t 2, .c (.fn 196 [] [])], pre := [] },
  { dst := some 4, op := .ld (some 8) (.t 0), pre := [] },
  { dst := some 5, op := .call .pure (.c (.fn 41 [] [])) [.t 4], pre := [] },
  { dst := some 6, op := .call .pure (.c (.fn 23 [] [])) [.t 3, .t 5], pre := [] },
  { dst := some 7, op := .ld (some 8) (.t 0), pre := [] },
  { dst := some 8, op := .call .pure (.c (.fn 195 [] [])) [.t 7, .c (.fn 203 [] [])], pre := [] },
  { dst := some 9, op := .call .pure (.c (.fn 23 [] [])) [.t 6, .t 8], pre := [] },
  { dst := some 1, op := .mv (.t 9) }])
 .ret)) }
def A_order_isW : AFun := { res := [.t 2], body := (.seq (.reg false [{ dst := some 1, op := .box (.t 0) },
  { dst := some 2, op := .mv (.c (.b false)) }])
 (.seq (.reg false [{ dst := some 3, op := .fa 1 (.t 1) },
  { dst := some 4, op := .ld none (.t 3) },
  { dst := some 5, op := .bin .eql (.t 4) (.c (.i .i64 2)) },
  { dst := some 2, op := .mv (.t 5) }])
 .ret)) }
def A_order_Ar_1 : AFun := { res := [.t 1], body := (.seq (.reg false [{ dst := some 1, op := .mv (.c (.nilp)) }])
 (.seq (.reg true [{ dst := some 2, op := .ld (some 8) (.t 0), pre := [] },
  { dst := some 3, op := .ld (some 8) (.t 0), pre := [] },
  { dst := some 4, op := .call .pure (.c (.fn 48 [] [])) [.t 3], pre := [] },
  { dst := some 5, op := .call .pure (.c (.fn 40 [] [])) [.t 2, .t 4], pre := [] },
  { dst := some 1, op := .mv (.t 5) }])
 .ret)) }
def A_order_Ar_2 : AFun := { res := [.t 1], body := (.seq (.reg false [{ dst := some 1, op := .mv (.c (.nilp)) }])
 (.seq (.reg false [{ dst := some 2, op := .ld (some 8) (.t 0) },
  { dst := some 3, op := .call .pure (.c (.fn 155 [] [])) [.t 2] },
  { dst := some 1, op := .mv (.t 3) }])
 .ret)) }
def A_order_Ar_3 : AFun := { res := [.t 1], body := (.seq (.reg false [{ dst := some 1, op := .mv (.c (.nilp)) }])
 (.seq (.reg false [{ dst := some 2, op := .ld (some 8) (.t 0) },
  { dst := some 3, op := .call .pure (.c (.fn 207 [] [])) [.t 2] },
  { dst := some 1, op := .mv (.t 3) }])
 .ret)) }
def A_order_Ppo : AFun := { res := [.t 2], body := (.seq (.reg false [{ dst := some 1, op := .box (.t 0) },
  { dst := some 2, op := .mv (.c (.nilp)) }])
 (.seq (.reg true [{ dst := some 4, op := .ld (some 8) (.t 1), pre := [] },
  { dst := some 5, op := .call .pure (.c (.fn 213 [] [])) [.t 4], pre := [] },
  { dst := some 6, op := .ld (some 8) (.t 1), pre := [] },
  { dst := some 7, op := .ld (some 8) (.t 1), pre := [] },
  { dst := some 8, op := .call .pure (.c (.fn 48 [] [])) [.t 7], pre := [] },
  { dst := some 9, op := .call .pure (.c (.fn 39 [] [])) [.t 6, .t 8], pre := [] },
  { dst := some 10, op := .call .pure (.c (.fn 24 [] [])) [.t 5, .t 9], pre := [] },
  { dst := some 11, op := .call .pure (.c (.fn 12 [] [])) [.t 10], pre := [] },
  { dst := some 3, op := .mv (.t 11) }])
 (.seq (.reg true [{ dst := some 12, op := .ld (some 8) (.t 1), pre := [] },
  { dst := some 13, op := .call .pure (.c (.fn 195 [] [])) [.t 12, .c (.fn 240 [] [])], pre := [] },
  { dst := some 14, op := .mv (.t 3) },
  { dst := some 15, op := .call .pure (.c (.fn 23 [] [])) [.t 13, .t 14], pre := [] },
  { dst := some 16, op := .ld (some 8) (.t 1), pre := [] },
  { dst := some 17, op := .call .pure (.c (.fn 195 [] [])) [.t 16, .c (.fn 203 [] [])], pre := [] },
  { dst := some 18, op := .call .pure (.c (.fn 23 [] [])) [.t 15, .t 17], pre := [] },
  { dst := some 2, op := .mv (.t 18) }])
 .ret))) }
def A_order_Ar_4 : AFun := { res := [.t 1], body := (.seq (.reg false [{ dst := some 1, op := .mv (.c (.nilp)) }])
 (.seq (.reg false [{ dst := some 2, op := .ld (some 8) (.t 0) },
  { dst := some 3, op := .call .pure (.c (.fn 209 [] [])) [.t 2] },
  { dst := some 1, op := .mv (.t 3) }])
 .ret)) }
def A_order_Detour : AFun := { res := [.t 2], body := (.seq (.reg false [{ dst := some 1, op := .box (.t 0) },
  { dst := some 2, op := .mv (.c (.nilp)) }])
 (.seq (.reg true [{ dst := some 4, op := .ld (some 8) (.t 1), pre := [] },
  { dst := some 5, op := .ld (some 8) (.t 1), pre := [] },
  { dst := some 6, op := .call .pure (.c (.fn 49 [] [])) [.t 5], pre := [] },
  { dst := some 7, op := .call .pure (.c (.fn 40 [] [])) [.t 4, .t 6], pre := [] },
  { dst := some 8, op := .ld (some 8) (.t 1), pre := [] },
  { dst := some 9, op := .ld (some 8) (.t 1), pre := [] },
  { dst := some 10, op := .call .pure (.c (.fn 48 [] [])) [.t 9], pre := [] },
  { dst := some 11, op := .call .pure (.c (.fn 40 [] [])) [.t 8, .t 10], pre := [] },
  { dst := some 12, op := .call .pure (.c (.fn 23 [] [])) [.t 7, .t 11], pre := [] },
  { dst := some 3, op := .mv (.t 12) }])
 (.seq (.reg false [{ dst := some 13, op := .mv (.t 3) },
  { dst := some 14, op := .ld (some 8) (.t 1) },
  { dst := some 15, op := .call .pure (.c (.fn 60 [] [])) [.t 14] },
  { dst := some 16, op := .call .pure (.c (.fn 18 [] [])) [.t 13, .t 15] },
  { dst := some 2, op := .mv (.t 16) }])
 .ret))) }
def A_order_Ar_5 : AFun := { res := [.t 1], body := (.seq (.reg false [{ dst := some 1, op := .mv (.c (.nilp)) }])
 (.seq (.reg false [{ dst := some 2, op := .ld (some 8) (.t 0) },
  { dst := some 3, op := .call .pure (.c (.fn 211 [] [])) [.t 2] },
  { dst := some 1, op := .mv (.t 3) }])
 .ret)) }
def A_order_Psc : AFun := { res := [.t 2], body := (.seq (.reg false [{ dst := some 1, op := .box (.t 0) },
  { dst := some 2, op := .mv (.c (.nilp)) }])
 (.seq (.reg true [{ dst := some 5, op := .ld (some 8) (.t 1), pre := [] },
  { dst := some 6, op := .call .pure (.c (.fn 195 [] [])) [.t 5, .c (.fn 241 [] [])], pre := [] },
  { dst := some 7, op := .ld (some 8) (.t 1), pre := [] },
  { dst := some 8, op := .call .pure (.c (.fn 148 [] [])) [.t 7], pre := [] },
  { dst := some 3, op := .mv (.t 6) },
  { dst := some 4, op := .mv (.t 8) }])
 (.seq (.reg true [{ dst := some 9, op := .mv (.t 3) },
  { dst := some 10, op := .mv (.t 4) },
  { dst := some 11, op := .call .pure (.c (.fn 23 [] [])) [.t 9, .t 10], pre := [] },
  { dst := some 12, op := .ld (some 8) (.t 1), pre := [] },
  { dst := some 13, op := .call .pure (.c (.fn 42 [] [])) [.t 12], pre := [] },
  { dst := some 14, op := .call .pure (.c (.fn 23 [] [])) [.t 11, .t 13], pre := [] },
  { dst := some 15, op := .mv (.t 4) },
  { dst := some 16, op := .call .pure (.c (.fn 23 [] [])) [.t 14, .t 15], pre := [] },
  { dst := some 17, op := .mv (.t 3) },
  { dst := some 18, op := .call .pure (.c (.fn 23 [] [])) [.t 16, .t 17], pre := [] },
  { dst := some 2, op := .mv (.t 18) }])
 .ret))) }
def A_order_Deps : AFun := { res := [.t 2], body := (.seq (.reg false [{ dst := some 1, op := .boxI (.t 0) },
  { dst := some 2, op := .mv (.c (.nilp)) }])
 (.seq (.reg false [{ dst := some 3, op := .ld (some 8) (.t 1) },
  { dst := some 4, op := .mkfn 242 [] [.t 1] },
  { dst := some 5, op := .mkfn 243 [] [.t 1] },
  { dst := some 6, op := .mkfn 244 [] [.t 1] },
  { dst := some 7, op := .bsl true 3 ([.nilf, .nilf, .nilf]) [(0, 1, .t 4), (1, 1, .t 5), (2, 1, .t 6)] },
  { dst := some 8, op := .call .pure (.c (.fn 193 [] [])) [.t 3, .t 7] },
  { dst := some 2, op := .mv (.t 8) }])
 .ret)) }
def A_order_isR : AFun := { res := [.t 2], body := (.seq (.reg false [{ dst := some 1, op := .box (.t 0) },
  { dst := some 2, op := .mv (.c (.b false)) }])
 (.seq (.reg false [{ dst := some 3, op := .fa 1 (.t 1) },
  { dst := some 4, op := .ld none (.t 3) },
  { dst := some 5, op := .bin .eql (.t 4) (.c (.i .i64 1)) },
  { dst := some 2, op := .mv (.t 5) }])
 .ret)) }
def A_order_isSc : AFun := { res := [.t 2], body := (.seq (.reg false [{ dst := some 1, op := .box (.t 0) },
  { dst := some 2, op := .mv (.c (.b false)) }])
 (.seq (.reg false [{ dst := some 3, op := .ld (some 6) (.t 1) },
  { dst := some 4, op := .call .pure (.c (.fn 200 [] [])) [.t 3] },
  { dst := some 5, op := .mv (.t 4) },
  { dst := some 6, op := .fa 2 (.t 1), grd := some (5, true) },
  { dst := some 7, op := .ld none (.t 6), grd := some (5, true) },
  { dst := some 8, op := .bin .eql (.t 7) (.c (.i .i64 4)), grd := some (5, true) },
  { dst := some 9, op := .pick (.t 5) (.t 8) (.c (.b false)) },
  { dst := some 2, op := .mv (.t 9) }])
 .ret)) }
def A_order_Deps_1 : AFun := { res := [.t 1], body := (.seq (.reg false [{ dst := some 1, op := .mv (.c (.nilp)) }])
 (.seq (.reg false [{ dst := some 2, op := .ld (some 8) (.t 0) },
  { dst := some 3, op := .fa 5 (.t 0) },
  { dst := some 4, op := .ld none (.t 3) },
  { dst := some 5, op := .call .pure (.c (.fn 81 [] [])) [.t 2, .t 4] },
  { dst := some 1, op := .mv (.t 5) }])
 .ret)) }
def A_order_Deps_2 : AFun := { res := [.t 1], body := (.seq (.reg false [{ dst := some 1, op := .mv (.c (.nilp)) }])
 (.seq (.reg false [{ dst := some 2, op := .ld (some 8) (.t 0) },
  { dst := some 3, op := .fa 6 (.t 0) },
  { dst := some 4, op := .ld none (.t 3) },
  { dst := some 5, op := .call .pure (.c (.fn 81 [] [])) [.t 2, .t 4] },
  { dst := some 1, op := .mv (.t 5) }])
 .ret)) }
def A_order_Deps_3 : AFun := { res := [.t 1], body := (.seq (.reg false [{ dst := some 1, op := .mv (.c (.nilp)) }])
 (.seq (.reg true [{ dst := some 2, op := .ld (some 8) (.t 0), pre := [] },
  { dst := some 3, op := .call .pure (.c (.fn 195 [] [])) [.t 2, .c (.fn 245 [] [])], pre := [] },
  { dst := some 4, op := .ld (some 8) (.t 0), pre := [] },
  { dst := some 5, op := .call .pure (.c (.fn 60 [] [])) [.t 4], pre := [] },
  { dst := some 6, op := .call .pure (.c (.fn 23 [] [])) [.t 3, .t 5], pre := [] },
  { dst := some 1, op := .mv (.t 6) }])
 .ret)) }
def A_order_isEx : AFun := { res := [.t 2], body := (.seq (.reg false [{ dst := some 1, op := .box (.t 0) },
  { dst := some 2, op := .mv (.c (.b false)) }])
 (.seq (.reg false [{ dst := some 3, op := .ld (some 6) (.t 1) },
  { dst := some 4, op := .call .pure (.c (.fn 240 [] [])) [.t 3] },
  { dst := some 5, op := .mv (.t 4) },
  { dst := some 6, op := .fa 5 (.t 1), grd := some (5, true) },
  { dst := some 7, op := .ld none (.t 6), grd := some (5, true) },
  { dst := some 8, op := .pick (.t 5) (.t 7) (.c (.b false)) },
  { dst := some 2, op := .mv (.t 8) }])
 .ret)) }
structure Pk_order (F : Funs) : Prop where
  order_Bob : F 155 = some A_order_Bob
  order_Ar : F 156 = some A_order_Ar
  order_all : F 193 = some A_order_all
  order_Bob_1 : F 194 = some A_order_Bob_1
  order_set : F 195 = some A_order_set
  order_isRel : F 196 = some A_order_isRel
  order_Bob_2 : F 197 = some A_order_Bob_2
  order_isAcq : F 198 = some A_order_isAcq
  order_Bob_3 : F 199 = some A_order_Bob_3
  order_isF : F 200 = some A_order_isF
  order_Bob_4 : F 201 = some A_order_Bob_4
  order_Bob_5 : F 202 = some A_order_Bob_5
  order_isW : F 203 = some A_order_isW
  order_Ar_1 : F 204 = some A_order_Ar_1
  order_Ar_2 : F 205 = some A_order_Ar_2
  order_Ar_3 : F 206 = some A_order_Ar_3
  order_Ppo : F 207 = some A_order_Ppo
  order_Ar_4 : F 208 = some A_order_Ar_4
  order_Detour : F 209 = some A_order_Detour
  order_Ar_5 : F 210 = some A_order_Ar_5
  order_Psc : F 211 = some A_order_Psc
  order_Deps : F 213 = some A_order_Deps
  order_isR : F 240 = some A_order_isR
  order_isSc : F 241 = some A_order_isSc
  order_Deps_1 : F 242 = some A_order_Deps_1
  order_Deps_2 : F 243 = some A_order_Deps_2
  order_Deps_3 : F 244 = some A_order_Deps_3
  order_isEx : F 245 = some A_order_isEx
end Go.Ab
end
section
/- Package order. -/
set_option linter.unusedVariables false
set_option linter.unusedSimpArgs false
namespace Go.Ab
variable {F : Funs}
structure OrdF (F : Funs) : Prop where
  po : Pk_order F
  sy : SyncF F
def oR (e : Ev) : Bool := e.kd == 1
def oW (e : Ev) : Bool := e.kd == 2
def oF (e : Ev) : Bool := e.kd == 3
def oRel (e : Ev) : Bool := e.kd == 2 && e.md == 2
def oAcq (e : Ev) : Bool := e.kd == 1 && e.md == 1
def oSc (e : Ev) : Bool := e.kd == 3 && e.md == 4
def oEx (e : Ev) : Bool := e.kd == 1 && e.ex
section
variable (S : OrdF F)
include S
set_option maxRecDepth 100000 in
theorem so_R (e : Ev) : pureS F 240 [.agg (evC e)] = some (.b (oR e)) := by
  refine pure_of S.po.order_isR ?_
  simp (disch := omega) only [A_order_isR, wp, Nat.reduceAdd, Nat.reduceMul, Nat.reduceSub, gl]
  rfl
set_option maxRecDepth 100000 in
theorem so_W (e : Ev) : pureS F 203 [.agg (evC e)] = some (.b (oW e)) := by
  refine pure_of S.po.order_isW ?_
  simp (disch := omega) only [A_order_isW, wp, Nat.reduceAdd, Nat.reduceMul, Nat.reduceSub, gl]
  rfl
set_option maxRecDepth 100000 in
theorem so_F (e : Ev) : pureS F 200 [.agg (evC e)] = some (.b (oF e)) := by
  refine pure_of S.po.order_isF ?_
  simp (disch := omega) only [A_order_isF, wp, Nat.reduceAdd, Nat.reduceMul, Nat.reduceSub, gl]
  rfl
set_option maxRecDepth 100000 in
theorem so_Rel (e : Ev) : pureS F 196 [.agg (evC e)] = some (.b (oRel e)) := by
  refine pure_of S.po.order_isRel ?_
  have h := so_W S e
  unfold oRel
  unfold oW at h
  cases c : (e.kd == 2) with
  | true => rw [c] at h; simp (disch := omega) only [A_order_isRel, wp, Nat.reduceAdd, Nat.reduceMul, Nat.reduceSub, gl, h]
  | false => rw [c] at h; simp (disch := omega) only [A_order_isRel, wp, Nat.reduceAdd, Nat.reduceMul, Nat.reduceSub, gl, h]
set_option maxRecDepth 100000 in
theorem so_Acq (e : Ev) : pureS F 198 [.agg (evC e)] = some (.b (oAcq e)) := by
  refine pure_of S.po.order_isAcq ?_
  have h := so_R S e
  unfold oAcq
  unfold oR at h
  cases c : (e.kd == 1) with
  | true => rw [c] at h; simp (disch := omega) only [A_order_isAcq, wp, Nat.reduceAdd, Nat.reduceMul, Nat.reduceSub, gl, h]
  | false => rw [c] at h; simp (disch := omega) only [A_order_isAcq, wp, Nat.reduceAdd, Nat.reduceMul, Nat.reduceSub, gl, h]
set_option maxRecDepth 100000 in
theorem so_Sc (e : Ev) : pureS F 241 [.agg (evC e)] = some (.b (oSc e)) := by
  refine pure_of S.po.order_isSc ?_
  have h := so_F S e
  unfold oSc
  unfold oF at h
  cases c : (e.kd == 3) with
  | true => rw [c] at h; simp (disch := omega) only [A_order_isSc, wp, Nat.reduceAdd, Nat.reduceMul, Nat.reduceSub, gl, h]
  | false => rw [c] at h; simp (disch := omega) only [A_order_isSc, wp, Nat.reduceAdd, Nat.reduceMul, Nat.reduceSub, gl, h]
set_option maxRecDepth 100000 in
theorem so_Ex (e : Ev) : pureS F 245 [.agg (evC e)] = some (.b (oEx e)) := by
  refine pure_of S.po.order_isEx ?_
  have h := so_R S e
  unfold oEx
  unfold oR at h
  cases c : (e.kd == 1) with
  | true => rw [c] at h; simp (disch := omega) only [A_order_isEx, wp, Nat.reduceAdd, Nat.reduceMul, Nat.reduceSub, gl, h]
  | false => rw [c] at h; simp (disch := omega) only [A_order_isEx, wp, Nat.reduceAdd, Nat.reduceMul, Nat.reduceSub, gl, h]
end
section
variable (X : Gr)
def bobL : List Rw := [thenR (nOf X) (poR X) (setR X oRel), thenR (nOf X) (setR X oAcq) (poR X), thenR (nOf X) (poR X) (setR X oF), thenR (nOf X) (setR X oF) (poR X), thenR (nOf X) (thenR (nOf X) (setR X oRel) (locR X)) (setR X oW)]
def bobR : Rw := orL (newR (nOf X) []) (bobL X)
def depsR : Rw := orL (newR (nOf X) []) [newR (nOf X) X.data, newR (nOf X) X.ctrl, thenR (nOf X) (setR X oEx) (poR X)]
def oppoR : Rw := thenR (nOf X) (thenR (nOf X) (setR X oR) (plusR (nOf X) (orR (depsR X) (partR inner X (nOf X) (rfR X))))) (setR X oW)
def odetR : Rw := andR (thenR (nOf X) (partR outer X (nOf X) (relE (coS X.co) X)) (partR outer X (nOf X) (rfR X))) (poR X)
def pscR : Rw := thenR (nOf X) (thenR (nOf X) (thenR (nOf X) (thenR (nOf X) (setR X oSc) (HbP X)) (ecoR X)) (HbP X)) (setR X oSc)
def arR : Rw := orL (newR (nOf X) []) [partR outer X (nOf X) (rfR X), bobR X, oppoR X, odetR X, pscR X]
end
/-- A closure that answers a relation. -/
def ClosR (F : Funs) (n : Nat) (f : AV) (R : Rw) : Prop := ∃ fid caps, f = .fn fid [] caps ∧ pureS F fid caps = some (.ptr (relC n R)) ∧ (∀ hp, frzL hp depth caps = some caps) ∧ ∀ hp, caps.flatMap (vis hp depth) = []
def ClosL (F : Funs) (n : Nat) : List AV → List Rw → Prop
  | [], [] => True
  | f :: fs, R :: Rs => ClosR F n f R ∧ ClosL F n fs Rs
  | _, _ => False
theorem closL_len {n : Nat} : ∀ {fs : List AV} {Rs : List Rw}, ClosL F n fs Rs → fs.length = Rs.length
  | [], [], _ => rfl
  | f :: fs, R :: Rs, h => by simp [closL_len h.2]
theorem closL_at {n : Nat} : ∀ {fs : List AV} {Rs : List Rw} {k : Nat}, ClosL F n fs Rs → (h : k < Rs.length) → ∃ f, fs[k]? = some f ∧ ClosR F n f (Rs.getD k fun _ => 0)
  | [], [], _, _, hk => absurd hk (Nat.not_lt_zero _)
  | [], _ :: _, _, h, _ => h.elim
  | _ :: _, [], _, h, _ => h.elim
  | f :: fs, R :: Rs, 0, h, _ => ⟨f, rfl, h.1⟩
  | f :: fs, R :: Rs, k + 1, h, hk => closL_at (k := k) h.2 (by simpa using hk)
section
variable (S : OrdF F) {X : Gr} (hX : Few X)
include S hX
set_option maxRecDepth 100000 in
set_option maxHeartbeats 4000000 in
omit hX in
theorem so_all {fs : List AV} {Rs : List Rw} (h : ClosL F (nOf X) fs Rs) (hl : Rs.length ≤ 1000) (t : Tok) : pureS F 193 [.agg (grC X), .sl fs Rs.length t] = some (.ptr (relC (nOf X) (orL (newR (nOf X) []) Rs))) := by
  refine pure_of S.po.order_all ?_
  have hn := nOf_le X
  have dn : pureS F 11 [.i .i64 X.evs.length, .sl [] 0 .non] = some (.ptr (relC (nOf X) (newR (nOf X) []))) := sp_new S.sy.pr X.evs.length [] .non (by simp)
  have hfl := closL_len h
  simp (disch := omega) only [A_order_all, wp, Nat.reduceAdd, Nat.reduceMul, Nat.reduceSub, gl, dn]
  refine W_loop (fun q e g => ∃ k, q = Rs.length - k ∧ k ≤ Rs.length ∧ e 5 = .ptr (relC (nOf X) (orL (newR (nOf X) []) (Rs.take k))) ∧ e 12 = .sl fs Rs.length t ∧ e 13 = .i .i64 Rs.length ∧ e 14 = .i .i64 k) Rs.length ?_ ?_
  · refine ⟨0, rfl, Nat.zero_le _, ?_⟩
    simp (disch := omega) only [wp, Nat.reduceAdd, Nat.reduceMul, Nat.reduceSub]
    exact ⟨by rfl, rfl⟩
  · rintro q e g ⟨k, rfl, hk, e5, e12, e13, e14⟩
    by_cases hk' : k < Rs.length
    · have hk1 : (k : Int) < Rs.length := by omega
      have hwk := succ_wrap (k := k) (by omega)
      obtain ⟨f, hf, fid, caps, rfl, hcall, hc, hv⟩ := closL_at h hk'
      have hp : part (fs.drop (k * 1)) 0 none = some (.fn fid [] caps) := by
        simp only [part, List.getElem?_drop, Nat.mul_one, Nat.add_zero, hf]
      have hs : orL (newR (nOf X) []) (Rs.take (k + 1)) = orR (orL (newR (nOf X) []) (Rs.take k)) (Rs.getD k fun _ => 0) := by
        unfold orL
        rw [List.take_add_one, List.foldl_append, List.getElem?_eq_getElem hk', List.getD_eq_getElem?_getD, List.getElem?_eq_getElem hk']
        rfl
      generalize orL (newR (nOf X) []) (Rs.take k) = A at e5 hs
      generalize (Rs.getD k fun _ => 0) = B at hcall hs
      simp (disch := omega) only [wp, Nat.reduceAdd, Nat.reduceMul, Nat.reduceSub, gl, e5, e12, e13, e14, hk1, hp, hc, hv, hcall, sp_or S.sy.pr hn hn, Nat.max_self, hwk]
      exact ⟨Rs.length - (k + 1), by omega, k + 1, rfl, by omega, by rw [hs], rfl⟩
    · obtain rfl : k = Rs.length := by omega
      have hk1 : ¬ ((Rs.length : Int) < Rs.length) := by omega
      rw [List.take_length] at e5
      simp (disch := omega) only [wp, Nat.reduceAdd, Nat.reduceMul, Nat.reduceSub, gl, e5, e12, e13, e14, hk1]
set_option maxRecDepth 100000 in
theorem so_set {fid : Nat} {p : Ev → Bool} (hp : ∀ e, pureS F fid [.agg (evC e)] = some (.b (p e))) : pureS F 195 [.agg (grC X), .fn fid [] []] = some (.ptr (relC (nOf X) (setR X p))) := by
  refine pure_of S.po.order_set ?_
  have hs := sp_setE S.sy.set S.sy.gof S.sy.pr (X := X) (by have := hX.1; omega) hp (fun hp => frzL_nil hp _) (fun hp => rfl)
  simp (disch := omega) only [A_order_set, wp, Nat.reduceAdd, Nat.reduceMul, Nat.reduceSub, gl, hs]
end
end Go.Ab
end
section
/- Package order: Bob, Deps, Ppo, Detour, Psc, Ar. -/
set_option linter.unusedVariables false
set_option linter.unusedSimpArgs false
namespace Go.Ab
variable {F : Funs}
theorem fz_p1 (a : List AV) (hp) : frzL hp depth [.ptr a] = some [.ptr a] := by simp only [frzL_cons, frzL_nil, frz_d_ptr, consO_ok]
theorem fz_p2 (a b : List AV) (hp) : frzL hp depth [.ptr a, .ptr b] = some [.ptr a, .ptr b] := by simp only [frzL_cons, frzL_nil, frz_d_ptr, consO_ok]
theorem vs_p1 (a : List AV) (hp) : [AV.ptr a].flatMap (vis hp depth) = [] := by simp only [List.flatMap_cons, List.flatMap_nil, vis_ptr, List.append_nil]
theorem vs_p2 (a b : List AV) (hp) : [AV.ptr a, .ptr b].flatMap (vis hp depth) = [] := by simp only [List.flatMap_cons, List.flatMap_nil, vis_ptr, List.append_nil]
theorem fzf_1 (f : Nat) (a : List AV) (hp) : frz hp depth (.fn f [] [.ptr a]) = some (.fn f [] [.ptr a]) := by
  show frz hp (8 + 1) _ = _
  simp only [frz, frzL]
theorem fzf_2 (f : Nat) (a b : List AV) (hp) : frz hp depth (.fn f [] [.ptr a, .ptr b]) = some (.fn f [] [.ptr a, .ptr b]) := by
  show frz hp (8 + 1) _ = _
  simp only [frz, frzL]
theorem vsf_1 (f : Nat) (a : List AV) (hp) : vis hp depth (.fn f [] [.ptr a]) = [] := by
  show vis hp (8 + 1) _ = _
  simp only [vis, List.flatMap_cons, List.flatMap_nil, List.append_nil]
theorem vsf_2 (f : Nat) (a b : List AV) (hp) : vis hp depth (.fn f [] [.ptr a, .ptr b]) = [] := by
  show vis hp (8 + 1) _ = _
  simp only [vis, List.flatMap_cons, List.flatMap_nil, List.append_nil]
theorem closR_1 {n : Nat} {f : Nat} {a : List AV} {R : Rw} (h : pureS F f [.ptr a] = some (.ptr (relC n R))) : ClosR F n (.fn f [] [.ptr a]) R := ⟨f, _, rfl, h, fz_p1 a, vs_p1 a⟩
theorem closR_2 {n : Nat} {f : Nat} {a b : List AV} {R : Rw} (h : pureS F f [.ptr a, .ptr b] = some (.ptr (relC n R))) : ClosR F n (.fn f [] [.ptr a, .ptr b]) R := ⟨f, _, rfl, h, fz_p2 a b, vs_p2 a b⟩
section
variable (S : OrdF F) {X : Gr} (hX : Few X)
include S hX
set_option maxRecDepth 100000 in
omit hX in
theorem so_deps1 (hd : X.data.length ≤ 1000) : pureS F 242 [.ptr (grC X)] = some (.ptr (relC (nOf X) (newR (nOf X) X.data))) := by
  refine pure_of S.po.order_Deps_1 ?_
  have h5 : part (List.drop 5 (grC X)) 0 none = some (.sl (pairsC X.data) X.data.length .non) := rfl
  simp (disch := omega) only [A_order_Deps_1, wp, Nat.reduceAdd, Nat.reduceMul, Nat.reduceSub, gl, h5, sp_ofX S.sy]
set_option maxRecDepth 100000 in
omit hX in
theorem so_deps2 (hd : X.ctrl.length ≤ 1000) : pureS F 243 [.ptr (grC X)] = some (.ptr (relC (nOf X) (newR (nOf X) X.ctrl))) := by
  refine pure_of S.po.order_Deps_2 ?_
  have h5 : part (List.drop 6 (grC X)) 0 none = some (.sl (pairsC X.ctrl) X.ctrl.length .non) := rfl
  simp (disch := omega) only [A_order_Deps_2, wp, Nat.reduceAdd, Nat.reduceMul, Nat.reduceSub, gl, h5, sp_ofX S.sy]
set_option maxRecDepth 100000 in
theorem so_deps3 : pureS F 244 [.ptr (grC X)] = some (.ptr (relC (nOf X) (thenR (nOf X) (setR X oEx) (poR X)))) := by
  refine pure_of S.po.order_Deps_3 ?_
  have hn := nOf_le X
  simp (disch := omega) only [A_order_Deps_3, wp, Nat.reduceAdd, Nat.reduceMul, Nat.reduceSub, gl, so_set S hX (so_Ex S), sp_poX S.sy hX, sp_then S.sy.pr hn hn, Nat.max_self]
set_option maxRecDepth 100000 in
theorem so_deps (hd : X.data.length ≤ 1000) (hc : X.ctrl.length ≤ 1000) : pureS F 213 [.agg (grC X)] = some (.ptr (relC (nOf X) (depsR X))) := by
  refine pure_of S.po.order_Deps ?_
  have d := so_all S (X := X) (fs := [.fn 242 [] [.ptr (grC X)], .fn 243 [] [.ptr (grC X)], .fn 244 [] [.ptr (grC X)]]) (Rs := [newR (nOf X) X.data, newR (nOf X) X.ctrl, thenR (nOf X) (setR X oEx) (poR X)]) ⟨closR_1 (so_deps1 S hd), closR_1 (so_deps2 S hc), closR_1 (so_deps3 S hX), trivial⟩ (by simp) .non
  simp only [List.length_cons, List.length_nil, Nat.reduceAdd] at d
  simp (disch := omega) only [A_order_Deps, wp, Nat.reduceAdd, Nat.reduceMul, Nat.reduceSub, gl, o_boxI, vBoxI_S, bxiD_ok, frzL_gr, vMapL_some, fzf_1, vsf_1, d]
  rfl
set_option maxRecDepth 100000 in
theorem so_bob1 : pureS F 194 [.ptr [.ptr (relC (nOf X) (poR X))], .ptr (grC X)] = some (.ptr (relC (nOf X) (thenR (nOf X) (poR X) (setR X oRel)))) := by
  refine pure_of S.po.order_Bob_1 ?_
  have hn := nOf_le X
  simp (disch := omega) only [A_order_Bob_1, wp, Nat.reduceAdd, Nat.reduceMul, Nat.reduceSub, gl, so_set S hX (so_Rel S), sp_then S.sy.pr hn hn, Nat.max_self]
set_option maxRecDepth 100000 in
theorem so_bob2 : pureS F 197 [.ptr (grC X), .ptr [.ptr (relC (nOf X) (poR X))]] = some (.ptr (relC (nOf X) (thenR (nOf X) (setR X oAcq) (poR X)))) := by
  refine pure_of S.po.order_Bob_2 ?_
  have hn := nOf_le X
  simp (disch := omega) only [A_order_Bob_2, wp, Nat.reduceAdd, Nat.reduceMul, Nat.reduceSub, gl, so_set S hX (so_Acq S), sp_then S.sy.pr hn hn, Nat.max_self]
set_option maxRecDepth 100000 in
theorem so_bob3 : pureS F 199 [.ptr [.ptr (relC (nOf X) (poR X))], .ptr (grC X)] = some (.ptr (relC (nOf X) (thenR (nOf X) (poR X) (setR X oF)))) := by
  refine pure_of S.po.order_Bob_3 ?_
  have hn := nOf_le X
  simp (disch := omega) only [A_order_Bob_3, wp, Nat.reduceAdd, Nat.reduceMul, Nat.reduceSub, gl, so_set S hX (so_F S), sp_then S.sy.pr hn hn, Nat.max_self]
set_option maxRecDepth 100000 in
theorem so_bob4 : pureS F 201 [.ptr (grC X), .ptr [.ptr (relC (nOf X) (poR X))]] = some (.ptr (relC (nOf X) (thenR (nOf X) (setR X oF) (poR X)))) := by
  refine pure_of S.po.order_Bob_4 ?_
  have hn := nOf_le X
  simp (disch := omega) only [A_order_Bob_4, wp, Nat.reduceAdd, Nat.reduceMul, Nat.reduceSub, gl, so_set S hX (so_F S), sp_then S.sy.pr hn hn, Nat.max_self]
set_option maxRecDepth 100000 in
theorem so_bob5 : pureS F 202 [.ptr (grC X)] = some (.ptr (relC (nOf X) (thenR (nOf X) (thenR (nOf X) (setR X oRel) (locR X)) (setR X oW)))) := by
  refine pure_of S.po.order_Bob_5 ?_
  have hn := nOf_le X
  simp (disch := omega) only [A_order_Bob_5, wp, Nat.reduceAdd, Nat.reduceMul, Nat.reduceSub, gl, so_set S hX (so_Rel S), so_set S hX (so_W S), sp_locX S.sy hX, sp_then S.sy.pr hn hn, Nat.max_self]
set_option maxRecDepth 100000 in
theorem so_bob : pureS F 155 [.agg (grC X)] = some (.ptr (relC (nOf X) (bobR X))) := by
  refine pure_of S.po.order_Bob ?_
  have d := so_all S (X := X) (fs := [.fn 194 [] [.ptr [.ptr (relC (nOf X) (poR X))], .ptr (grC X)], .fn 197 [] [.ptr (grC X), .ptr [.ptr (relC (nOf X) (poR X))]], .fn 199 [] [.ptr [.ptr (relC (nOf X) (poR X))], .ptr (grC X)], .fn 201 [] [.ptr (grC X), .ptr [.ptr (relC (nOf X) (poR X))]], .fn 202 [] [.ptr (grC X)]]) (Rs := bobL X) ⟨closR_2 (so_bob1 S hX), closR_2 (so_bob2 S hX), closR_2 (so_bob3 S hX), closR_2 (so_bob4 S hX), closR_1 (so_bob5 S hX), trivial⟩ (by simp [bobL]) .non
  simp only [bobL, List.length_cons, List.length_nil, Nat.reduceAdd] at d
  simp (disch := omega) only [A_order_Bob, wp, Nat.reduceAdd, Nat.reduceMul, Nat.reduceSub, gl, o_boxI, vBoxI_S, bxiD_ok, frzL_gr, vMapL_some, sp_poX S.sy hX]
  refine W_immM (fun e g => e 1 = .ptr (grC X) ∧ e 3 = .mp 4 0 ∧ g.hp 4 = some (.cells [.ptr (relC (nOf X) (poR X))] false) ∧ 4 < g.nx) ?_ ?_
  · simp (disch := omega) only [wp, Nat.reduceAdd, Nat.reduceMul, Nat.reduceSub, gl]
    trivial
  · have r5 : ∀ x : AV, List.replicate 5 x = [x, x, x, x, x] := fun _ => rfl
    rintro e g ⟨e1, e3, hg, hnx⟩
    have hfz : frz g.hp depth (e 3) = some (.ptr [.ptr (relC (nOf X) (poR X))]) := by
      rw [e3]
      refine frz_d_mp hg ?_
      show frzL g.hp (7 + 1) [AV.ptr (relC (nOf X) (poR X))] = _
      simp only [frzL, frz]
    rw [W_imm hfz]
    simp (disch := omega) only [wp, Nat.reduceAdd, Nat.reduceMul, Nat.reduceSub, gl, e1, r5, fzf_1, vsf_1, fzf_2, vsf_2, d]
    rfl
set_option maxRecDepth 100000 in
theorem so_ppo (hd : X.data.length ≤ 1000) (hc : X.ctrl.length ≤ 1000) : pureS F 207 [.agg (grC X)] = some (.ptr (relC (nOf X) (oppoR X))) := by
  refine pure_of S.po.order_Ppo ?_
  have hn := nOf_le X
  simp (disch := omega) only [A_order_Ppo, wp, Nat.reduceAdd, Nat.reduceMul, Nat.reduceSub, gl, so_deps S hX hd hc, so_set S hX (so_R S), so_set S hX (so_W S), sp_rfX S.sy hX, sp_Inner S.sy.pe S.sy.gof S.sy.pr hn, sp_or S.sy.pr hn hn, sp_plus S.sy.pr hn, sp_then S.sy.pr hn hn, Nat.max_self]
  rfl
set_option maxRecDepth 100000 in
theorem so_detour : pureS F 209 [.agg (grC X)] = some (.ptr (relC (nOf X) (odetR X))) := by
  refine pure_of S.po.order_Detour ?_
  have hn := nOf_le X
  simp (disch := omega) only [A_order_Detour, wp, Nat.reduceAdd, Nat.reduceMul, Nat.reduceSub, gl, sp_rfX S.sy hX, sp_poX S.sy hX, sp_Co S.sy.pe S.sy.gof S.sy.pr hX, sp_Outer S.sy.pe S.sy.gof S.sy.pr hn, sp_and S.sy.pr hn hn, sp_then S.sy.pr hn hn, Nat.max_self]
  rfl
set_option maxRecDepth 100000 in
theorem so_psc (hr : X.rmw.length ≤ 1000) : pureS F 211 [.agg (grC X)] = some (.ptr (relC (nOf X) (pscR X))) := by
  refine pure_of S.po.order_Psc ?_
  have hn := nOf_le X
  simp (disch := omega) only [A_order_Psc, wp, Nat.reduceAdd, Nat.reduceMul, Nat.reduceSub, gl, so_set S hX (so_Sc S), sp_Hb S.sy hX hr, sp_Eco S.sy.pe S.sy.gof S.sy.pr hX, sp_then S.sy.pr hn hn, Nat.max_self]
  rfl
set_option maxRecDepth 100000 in
theorem so_ar1 : pureS F 204 [.ptr (grC X)] = some (.ptr (relC (nOf X) (partR outer X (nOf X) (rfR X)))) := by
  refine pure_of S.po.order_Ar_1 ?_
  have hn := nOf_le X
  simp (disch := omega) only [A_order_Ar_1, wp, Nat.reduceAdd, Nat.reduceMul, Nat.reduceSub, gl, sp_rfX S.sy hX, sp_Outer S.sy.pe S.sy.gof S.sy.pr hn]
set_option maxRecDepth 100000 in
theorem so_ar2 : pureS F 205 [.ptr (grC X)] = some (.ptr (relC (nOf X) (bobR X))) := by
  refine pure_of S.po.order_Ar_2 ?_
  simp (disch := omega) only [A_order_Ar_2, wp, Nat.reduceAdd, Nat.reduceMul, Nat.reduceSub, gl, so_bob S hX]
set_option maxRecDepth 100000 in
theorem so_ar3 (hd : X.data.length ≤ 1000) (hc : X.ctrl.length ≤ 1000) : pureS F 206 [.ptr (grC X)] = some (.ptr (relC (nOf X) (oppoR X))) := by
  refine pure_of S.po.order_Ar_3 ?_
  simp (disch := omega) only [A_order_Ar_3, wp, Nat.reduceAdd, Nat.reduceMul, Nat.reduceSub, gl, so_ppo S hX hd hc]
set_option maxRecDepth 100000 in
theorem so_ar4 : pureS F 208 [.ptr (grC X)] = some (.ptr (relC (nOf X) (odetR X))) := by
  refine pure_of S.po.order_Ar_4 ?_
  simp (disch := omega) only [A_order_Ar_4, wp, Nat.reduceAdd, Nat.reduceMul, Nat.reduceSub, gl, so_detour S hX]
set_option maxRecDepth 100000 in
theorem so_ar5 (hr : X.rmw.length ≤ 1000) : pureS F 210 [.ptr (grC X)] = some (.ptr (relC (nOf X) (pscR X))) := by
  refine pure_of S.po.order_Ar_5 ?_
  simp (disch := omega) only [A_order_Ar_5, wp, Nat.reduceAdd, Nat.reduceMul, Nat.reduceSub, gl, so_psc S hX hr]
set_option maxRecDepth 100000 in
theorem so_ar (hd : X.data.length ≤ 1000) (hc : X.ctrl.length ≤ 1000) (hr : X.rmw.length ≤ 1000) : pureS F 156 [.agg (grC X)] = some (.ptr (relC (nOf X) (arR X))) := by
  refine pure_of S.po.order_Ar ?_
  have d := so_all S (X := X) (fs := [.fn 204 [] [.ptr (grC X)], .fn 205 [] [.ptr (grC X)], .fn 206 [] [.ptr (grC X)], .fn 208 [] [.ptr (grC X)], .fn 210 [] [.ptr (grC X)]]) (Rs := [partR outer X (nOf X) (rfR X), bobR X, oppoR X, odetR X, pscR X]) ⟨closR_1 (so_ar1 S hX), closR_1 (so_ar2 S hX), closR_1 (so_ar3 S hX hd hc), closR_1 (so_ar4 S hX), closR_1 (so_ar5 S hX hr), trivial⟩ (by simp) .non
  simp only [List.length_cons, List.length_nil, Nat.reduceAdd] at d
  have r5 : ∀ x : AV, List.replicate 5 x = [x, x, x, x, x] := fun _ => rfl
  simp (disch := omega) only [A_order_Ar, wp, Nat.reduceAdd, Nat.reduceMul, Nat.reduceSub, gl, r5, o_boxI, vBoxI_S, bxiD_ok, frzL_gr, vMapL_some, fzf_1, vsf_1, d]
  rfl
end
end Go.Ab
end
section
/- Resolved functions of package xref11, written by a program (res.py). -/
namespace Go.Ab
def A_xref11_Bob : AFun := { res := [.t 2], body := (.seq (.reg false [{ dst := some 1, op := .box (.t 0) },
  { dst := some 2, op := .mv (.c (.nilp)) }])
 (.seq (.reg true [{ dst := some 6, op := .ld (some 8) (.t 1), pre := [] },
  { dst := some 7, op := .call .pure (.c (.fn 84 [] [])) [.t 6], pre := [] },
  { dst := some 8, op := .ld (some 8) (.t 1), pre := [] },
  { dst := some 9, op := .call .pure (.c (.fn 225 [] [])) [.t 8, .c (.i .i64 3), .c (.i .i64 1), .c (.i .i64 4)], pre := [] },
  { dst := some 3, op := .mv (.t 7) },
  { dst := some 4, op := .mv (.t 9) }])
 (.seq (.reg true [{ dst := some 10, op := .mv (.t 3) },
  { dst := some 11, op := .ld (some 8) (.t 1), pre := [] },
  { dst := some 12, op := .call .pure (.c (.fn 232 [] [])) [.t 11], pre := [] },
  { dst := some 13, op := .call .pure (.c (.fn 32 [] [])) [.t 10, .t 12], pre := [] },
  { dst := some 14, op := .ld (some 8) (.t 1), pre := [] },
  { dst := some 15, op := .call .pure (.c (.fn 234 [] [])) [.t 14], pre := [] },
  { dst := some 16, op := .mv (.t 3) },
  { dst := some 17, op := .call .pure (.c (.fn 32 [] [])) [.t 15, .t 16], pre := [] },
  { dst := some 18, op := .call .pure (.c (.fn 29 [] [])) [.t 13, .t 17], pre := [] },
  { dst := some 19, op := .mv (.t 3) },
  { dst := some 20, op := .mv (.t 4) },
  { dst := some 21, op := .call .pure (.c (.fn 32 [] [])) [.t 19, .t 20], pre := [] },
  { dst := some 22, op := .call .pure (.c (.fn 29 [] [])) [.t 18, .t 21], pre := [] },
  { dst := some 23, op := .mv (.t 4) },
  { dst := some 24, op := .mv (.t 3) },
  { dst := some 25, op := .call .pure (.c (.fn 32 [] [])) [.t 23, .t 24], pre := [] },
  { dst := some 26, op := .call .pure (.c (.fn 29 [] [])) [.t 22, .t 25], pre := [] },
  { dst := some 5, op := .mv (.t 26) }])
 (.seq (.reg true [{ dst := some 27, op := .mv (.t 5) },
  { dst := some 28, op := .ld (some 8) (.t 1), pre := [] },
  { dst := some 29, op := .call .pure (.c (.fn 232 [] [])) [.t 28], pre := [] },
  { dst := some 30, op := .ld (some 8) (.t 1), pre := [] },
  { dst := some 31, op := .call .pure (.c (.fn 73 [] [])) [.t 30], pre := [] },
  { dst := some 32, op := .call .pure (.c (.fn 32 [] [])) [.t 29, .t 31], pre := [] },
  { dst := some 33, op := .ld (some 8) (.t 1), pre := [] },
  { dst := some 34, op := .call .pure (.c (.fn 230 [] [])) [.t 33], pre := [] },
  { dst := some 35, op := .call .pure (.c (.fn 32 [] [])) [.t 32, .t 34], pre := [] },
  { dst := some 36, op := .call .pure (.c (.fn 29 [] [])) [.t 27, .t 35], pre := [] },
  { dst := some 2, op := .mv (.t 36) }])
 .ret)))) }
def A_xref11_Deps : AFun := { res := [.t 2], body := (.seq (.reg false [{ dst := some 1, op := .box (.t 0) },
  { dst := some 2, op := .mv (.c (.nilp)) }])
 (.seq (.reg true [{ dst := some 6, op := .ld (some 8) (.t 1), pre := [] },
  { dst := some 7, op := .fa 5 (.t 1) },
  { dst := some 8, op := .ld none (.t 7), pre := [] },
  { dst := some 9, op := .call .pure (.c (.fn 223 [] [])) [.t 6, .t 8], pre := [] },
  { dst := some 10, op := .ld (some 8) (.t 1), pre := [] },
  { dst := some 11, op := .fa 6 (.t 1) },
  { dst := some 12, op := .ld none (.t 11), pre := [] },
  { dst := some 13, op := .call .pure (.c (.fn 223 [] [])) [.t 10, .t 12], pre := [] },
  { dst := some 14, op := .call .pure (.c (.fn 29 [] [])) [.t 9, .t 13], pre := [] },
  { dst := some 3, op := .mv (.t 14) }])
 (.seq (.reg false [{ dst := some 15, op := .fa 1 (.t 1) },
  { dst := some 16, op := .ld none (.t 15) },
  { dst := some 17, op := .len (.t 16) },
  { dst := some 18, op := .call .thaw (.c (.fn 27 [] [])) [.t 17, .c (.sl [] 0 .rig)] },
  { dst := some 4, op := .mv (.t 18) }])
 (.seq (.seq (.reg false [{ dst := some 5, op := .mv (.c (.i .i64 0)) }])
 (.blk 0 (.loop (.seq (.seq (.reg false [{ dst := some 19, op := .mv (.t 5) },
  { dst := some 20, op := .fa 1 (.t 1) },
  { dst := some 21, op := .ld none (.t 20) },
  { dst := some 22, op := .len (.t 21) },
  { dst := some 23, op := .bin .lss (.t 19) (.t 22) }])
 (.cond (.t 23) .skip
 (.ext 0)))
 (.seq (.blk 1 (.reg true [{ dst := some 26, op := .mv (.t 4) },
  { dst := some 27, op := .mv (.t 5) },
  { dst := some 28, op := .mv (.t 5) },
  { dst := some 29, op := .fa 1 (.t 1) },
  { dst := some 30, op := .ld none (.t 29), pre := [] },
  { dst := some 31, op := .mv (.t 5) },
  { dst := some 32, op := .ia 6 (.t 30) (.t 31) },
  { dst := some 33, op := .fa 1 (.t 32) },
  { dst := some 34, op := .ld none (.t 33), pre := [] },
  { dst := some 35, op := .bin .eql (.t 34) (.c (.i .i64 1)) },
  { dst := some 36, op := .mv (.t 35) },
  { dst := some 37, op := .fa 1 (.t 1), grd := some (36, true) },
  { dst := some 38, op := .ld none (.t 37), grd := some (36, true), pre := [] },
  { dst := some 39, op := .mv (.t 5), grd := some (36, true) },
  { dst := some 40, op := .ia 6 (.t 38) (.t 39), grd := some (36, true) },
  { dst := some 41, op := .fa 5 (.t 40), grd := some (36, true) },
  { dst := some 42, op := .ld none (.t 41), grd := some (36, true), pre := [] },
  { dst := some 43, op := .pick (.t 36) (.t 42) (.c (.b false)) },
  { dst := some 44, op := .nilck (.t 26) },
  { dst := some 45, op := .fa 1 (.t 44) },
  { dst := some 46, op := .iaa 40 40 (.t 45) (.t 27) },
  { dst := some 47, op := .iaa 40 1 (.t 46) (.t 28) },
  { dst := none, op := .st 1 (.t 47) (.t 43), pre := [] }]))
 (.reg false [{ dst := some 24, op := .mv (.t 5) },
  { dst := some 25, op := .bin .add (.t 24) (.c (.i .i64 1)) },
  { dst := some 5, op := .mv (.t 25) }]))))))
 (.seq (.imm 4 (.reg false [{ dst := some 48, op := .mv (.t 3) },
  { dst := some 49, op := .mv (.t 4) },
  { dst := some 50, op := .ld (some 8) (.t 1) },
  { dst := some 51, op := .call .pure (.c (.fn 84 [] [])) [.t 50] },
  { dst := some 52, op := .call .pure (.c (.fn 32 [] [])) [.t 49, .t 51] },
  { dst := some 53, op := .call .pure (.c (.fn 29 [] [])) [.t 48, .t 52] },
  { dst := some 2, op := .mv (.t 53) }]))
 .ret))))) }
def A_xref11_Ppo : AFun := { res := [.t 2], body := (.seq (.reg false [{ dst := some 1, op := .box (.t 0) },
  { dst := some 2, op := .mv (.c (.nilp)) }])
 (.seq (.reg false [{ dst := some 5, op := .ld (some 8) (.t 1) },
  { dst := some 6, op := .call .pure (.c (.fn 225 [] [])) [.t 5, .c (.i .i64 1), .c (.i .i64 0), .c (.i .i64 1)] },
  { dst := some 3, op := .mv (.t 6) }])
 (.seq (.reg true [{ dst := some 7, op := .ld (some 8) (.t 1), pre := [] },
  { dst := some 8, op := .ld (some 8) (.t 1), pre := [] },
  { dst := some 9, op := .call .pure (.c (.fn 69 [] [])) [.t 8], pre := [] },
  { dst := some 10, op := .call .pure (.c (.fn 74 [] [])) [.t 7, .t 9], pre := [] },
  { dst := some 4, op := .mv (.t 10) }])
 (.seq (.reg true [{ dst := some 11, op := .mv (.t 3) },
  { dst := some 12, op := .ld (some 8) (.t 1), pre := [] },
  { dst := some 13, op := .call .pure (.c (.fn 256 [] [])) [.t 12], pre := [] },
  { dst := some 14, op := .mv (.t 4) },
  { dst := some 15, op := .call .pure (.c (.fn 29 [] [])) [.t 13, .t 14], pre := [] },
  { dst := some 16, op := .call .pure (.c (.fn 34 [] [])) [.t 15], pre := [] },
  { dst := some 17, op := .call .pure (.c (.fn 32 [] [])) [.t 11, .t 16], pre := [] },
  { dst := some 18, op := .ld (some 8) (.t 1), pre := [] },
  { dst := some 19, op := .call .pure (.c (.fn 230 [] [])) [.t 18], pre := [] },
  { dst := some 20, op := .call .pure (.c (.fn 32 [] [])) [.t 17, .t 19], pre := [] },
  { dst := some 2, op := .mv (.t 20) }])
 .ret)))) }
def A_xref11_Detour : AFun := { res := [.t 2], body := (.seq (.reg false [{ dst := some 1, op := .box (.t 0) },
  { dst := some 2, op := .mv (.c (.nilp)) }])
 (.seq (.reg true [{ dst := some 5, op := .ld (some 8) (.t 1), pre := [] },
  { dst := some 6, op := .ld (some 8) (.t 1), pre := [] },
  { dst := some 7, op := .call .pure (.c (.fn 70 [] [])) [.t 6], pre := [] },
  { dst := some 8, op := .call .pure (.c (.fn 75 [] [])) [.t 5, .t 7], pre := [] },
  { dst := some 9, op := .ld (some 8) (.t 1), pre := [] },
  { dst := some 10, op := .ld (some 8) (.t 1), pre := [] },
  { dst := some 11, op := .call .pure (.c (.fn 69 [] [])) [.t 10], pre := [] },
  { dst := some 12, op := .call .pure (.c (.fn 75 [] [])) [.t 9, .t 11], pre := [] },
  { dst := some 3, op := .mv (.t 8) },
  { dst := some 4, op := .mv (.t 12) }])
 (.seq (.reg true [{ dst := some 13, op := .mv (.t 3) },
  { dst := some 14, op := .mv (.t 4) },
  { dst := some 15, op := .call .pure (.c (.fn 32 [] [])) [.t 13, .t 14], pre := [] },
  { dst := some 16, op := .ld (some 8) (.t 1), pre := [] },
  { dst := some 17, op := .call .pure (.c (.fn 84 [] [])) [.t 16], pre := [] },
  { dst := some 18, op := .call .pure (.c (.fn 30 [] [])) [.t 15, .t 17], pre := [] },
  { dst := some 2, op := .mv (.t 18) }])
 .ret))) }
def A_xref11_Psc : AFun := { res := [.t 2], body := (.seq (.reg false [{ dst := some 1, op := .box (.t 0) },
  { dst := some 2, op := .mv (.c (.nilp)) }])
 (.seq (.reg true [{ dst := some 5, op := .ld (some 8) (.t 1), pre := [] },
  { dst := some 6, op := .call .pure (.c (.fn 225 [] [])) [.t 5, .c (.i .i64 3), .c (.i .i64 4), .c (.i .i64 4)], pre := [] },
  { dst := some 7, op := .ld (some 8) (.t 1), pre := [] },
  { dst := some 8, op := .call .pure (.c (.fn 185 [] [])) [.t 7], pre := [] },
  { dst := some 3, op := .mv (.t 6) },
  { dst := some 4, op := .mv (.t 8) }])
 (.seq (.reg true [{ dst := some 9, op := .mv (.t 3) },
  { dst := some 10, op := .mv (.t 4) },
  { dst := some 11, op := .call .pure (.c (.fn 32 [] [])) [.t 9, .t 10], pre := [] },
  { dst := some 12, op := .ld (some 8) (.t 1), pre := [] },
  { dst := some 13, op := .call .pure (.c (.fn 72 [] [])) [.t 12], pre := [] },
  { dst := some 14, op := .call .pure (.c (.fn 32 [] [])) [.t 11, .t 13], pre := [] },
  { dst := some 15, op := .mv (.t 4) },
  { dst := some 16, op := .call .pure (.c (.fn 32 [] [])) [.t 14, .t 15], pre := [] },
  { dst := some 17, op := .mv (.t 3) },
  { dst := some 18, op := .call .pure (.c (.fn 32 [] [])) [.t 16, .t 17], pre := [] },
  { dst := some 2, op := .mv (.t 18) }])
 .ret))) }
def A_xref11_Ar : AFun := { res := [.t 2], body := (.seq (.reg false [{ dst := some 1, op := .box (.t 0) },
  { dst := some 2, op := .mv (.c (.nilp)) }])
 (.seq (.reg true [{ dst := some 4, op := .ld (some 8) (.t 1), pre := [] },
  { dst := some 5, op := .ld (some 8) (.t 1), pre := [] },
  { dst := some 6, op := .call .pure (.c (.fn 69 [] [])) [.t 5], pre := [] },
  { dst := some 7, op := .call .pure (.c (.fn 75 [] [])) [.t 4, .t 6], pre := [] },
  { dst := some 3, op := .mv (.t 7) }])
 (.seq (.reg true [{ dst := some 8, op := .mv (.t 3) },
  { dst := some 9, op := .ld (some 8) (.t 1), pre := [] },
  { dst := some 10, op := .call .pure (.c (.fn 255 [] [])) [.t 9], pre := [] },
  { dst := some 11, op := .call .pure (.c (.fn 29 [] [])) [.t 8, .t 10], pre := [] },
  { dst := some 12, op := .ld (some 8) (.t 1), pre := [] },
  { dst := some 13, op := .call .pure (.c (.fn 257 [] [])) [.t 12], pre := [] },
  { dst := some 14, op := .call .pure (.c (.fn 29 [] [])) [.t 11, .t 13], pre := [] },
  { dst := some 15, op := .ld (some 8) (.t 1), pre := [] },
  { dst := some 16, op := .call .pure (.c (.fn 258 [] [])) [.t 15], pre := [] },
  { dst := some 17, op := .call .pure (.c (.fn 29 [] [])) [.t 14, .t 16], pre := [] },
  { dst := some 18, op := .ld (some 8) (.t 1), pre := [] },
  { dst := some 19, op := .call .pure (.c (.fn 259 [] [])) [.t 18], pre := [] },
  { dst := some 20, op := .call .pure (.c (.fn 29 [] [])) [.t 17, .t 19], pre := [] },
  { dst := some 2, op := .mv (.t 20) }])
 .ret))) }
structure Pk_xref11 (F : Funs) : Prop where
  xref11_Bob : F 255 = some A_xref11_Bob
  xref11_Deps : F 256 = some A_xref11_Deps
  xref11_Ppo : F 257 = some A_xref11_Ppo
  xref11_Detour : F 258 = some A_xref11_Detour
  xref11_Psc : F 259 = some A_xref11_Psc
  xref11_Ar : F 260 = some A_xref11_Ar
end Go.Ab
end
section
/- ref11: the document's orders are the program's. -/
set_option linter.unusedVariables false
set_option linter.unusedSimpArgs false
namespace Go.Ab
variable {F : Funs}
theorem lck_miss {g : G} {v : AV} {i : Nat} {b : Blk} (h : g.hp i = some b) (hv : (vis g.hp depth v).contains i = false) : (lckG g v).hp i = some b := by
  unfold lckG lock
  simp only [hv]
  exact h
theorem vis_mpf {hp : Nat → Option Blk} {id off : Nat} {cs : List AV} (h : hp id = some (.cells cs false)) (hf : cs.all flat = true) : vis hp depth (.mp id off) = [id] := by
  show vis hp (8 + 1) _ = _
  have h0 : ∀ l : List AV, l.all flat = true → l.flatMap (vis hp 8) = [] := by
    intro l hl
    rw [List.flatMap_eq_nil_iff]
    intro v hv
    exact vis_flat (d := 7) (List.all_eq_true.1 hl v hv)
  generalize (8 : Nat) = m at h0
  simp only [vis, h]
  rw [h0 _ (by rw [List.all_eq_true] at hf ⊢; exact fun v hv => hf v (List.mem_of_mem_drop hv))]
  rfl
def r11 (X : Gr) : Mx := opM (fun x y => x || y) (newM X.evs.length X.data) (newM X.evs.length X.ctrl) X.evs.length
def deps11 (X : Gr) : Mx := opM (fun x y => x || y) (r11 X) (thM (kindK X oEx X.evs.length) (mpoM X) X.evs.length X.evs.length) X.evs.length
set_option maxRecDepth 100000 in
set_option maxHeartbeats 4000000 in
theorem m11_deps (h256 : F 256 = some A_xref11_Deps) (S : RefF F) {X : Gr} (h : GraphOk X) (hd : X.data.length ≤ 1000) (hc : X.ctrl.length ≤ 1000) : pureS F 256 [.agg (grC X)] = some (.ptr (matC X.evs.length (deps11 X))) := by
  refine pure_of h256 ?_
  have hn := h.n40
  have fin0 : deps11 X = opM (fun x y => x || y) (r11 X) (thM (kindK X oEx X.evs.length) (mpoM X) X.evs.length X.evs.length) X.evs.length := rfl
  have r11d : r11 X = opM (fun x y => x || y) (newM X.evs.length X.data) (newM X.evs.length X.ctrl) X.evs.length := rfl
  simp (disch := omega) only [A_xref11_Deps, wp, Nat.reduceAdd, Nat.reduceMul, Nat.reduceSub, gl, ml, S.ofL h, S.or h, thaw27 S.px.xref01_New]
  rw [← r11d]
  generalize r11 X = R0 at fin0
  refine W_loop (fun q e g => ∃ a : Nat, q = X.evs.length - a ∧ a ≤ X.evs.length ∧ e 1 = .mp 0 0 ∧ e 3 = .ptr (matC X.evs.length R0) ∧ e 4 = .mp 15 0 ∧ e 5 = .i .i64 a ∧ g.hp 0 = some (.cells (grC X) false) ∧ g.hp 15 = some (.cells (matC X.evs.length (kindK X oEx a)) false) ∧ 15 < g.nx) X.evs.length ?_ ?_
  · refine ⟨0, rfl, Nat.zero_le _, ?_⟩
    simp (disch := omega) only [wp, Nat.reduceAdd, Nat.reduceMul, Nat.reduceSub]
    exact ⟨rfl, by rw [kindK_0], by first | omega | (dsimp only; omega)⟩
  · rintro q e g ⟨a, rfl, ha, e1, e3, e4, e5, hg, hm, hnx⟩
    by_cases ha' : a < X.evs.length
    · have ha1 : (a : Int) < X.evs.length := by omega
      have hwa := succ_wrap (k := a) (by omega)
      have kA := ev_kd_at ha'
      have xA := ev_ex_at ha'
      have dA : (List.drop (a * 6) (evsC X.evs)).length = X.evs.length * 6 - a * 6 := by rw [List.length_drop, evsC_len]
      have hs := kindK_succ X oEx a
      have hset := fun x => matC_set (n := X.evs.length) (M := kindK X oEx a) (a := a) (b := a) (x := x) (by omega)
      have hq : oEx (X.evs.getD a ev0) = ((X.evs.getD a ev0).kd == 1 && (X.evs.getD a ev0).ex) := rfl
      rw [hq] at hs
      generalize (X.evs.getD a ev0).kd = kd at kA hs
      generalize (X.evs.getD a ev0).ex = ex at xA hs
      have fin : ∀ x, x = (kd == 1 && ex) → X.evs.length - (a + 1) < X.evs.length - a ∧ upd2 (kindK X oEx a) a a x = kindK X oEx (a + 1) := fun x hx => ⟨by omega, by rw [hx, hs]⟩
      cases c0 : (kd == 1)
      case false =>
        simp (disch := omega) only [wp, Nat.reduceAdd, Nat.reduceMul, Nat.reduceSub, gl, ml, e1, e3, e4, e5, hg, hm, ha1, kA, xA, dA, c0, hset, hwa]
        obtain ⟨f1, f2⟩ := fin false (by rw [c0]; rfl)
        exact ⟨_, f1, a + 1, rfl, by omega, rfl, by rw [f2], by first | omega | (dsimp only; omega)⟩
      simp (disch := omega) only [wp, Nat.reduceAdd, Nat.reduceMul, Nat.reduceSub, gl, ml, e1, e3, e4, e5, hg, hm, ha1, kA, xA, dA, c0, hset, hwa]
      obtain ⟨f1, f2⟩ := fin ex (by rw [c0]; rfl)
      exact ⟨_, f1, a + 1, rfl, by omega, rfl, by rw [f2], by first | omega | (dsimp only; omega)⟩
    · obtain rfl : a = X.evs.length := by omega
      have ha1 : ¬ ((X.evs.length : Int) < X.evs.length) := by omega
      simp (disch := omega) only [wp, Nat.reduceAdd, Nat.reduceMul, Nat.reduceSub, gl, ml, e1, e3, e4, e5, hg, hm, ha1]
      refine W_immM (fun e g => e 1 = .mp 0 0 ∧ e 3 = .ptr (matC X.evs.length R0) ∧ e 4 = .mp 15 0 ∧ g.hp 0 = some (.cells (grC X) false) ∧ g.hp 15 = some (.cells (matC X.evs.length (kindK X oEx X.evs.length)) false) ∧ 15 < g.nx) ?_ ?_
      · simp (disch := omega) only [wp, Nat.reduceAdd, Nat.reduceMul, Nat.reduceSub, gl, e1, e3, e4, e5, hg, hm]
        exact (by first | omega | (dsimp only; omega))
      · rintro e g ⟨e1, e3, e4, hg, hm, hnx⟩
        have hfz : frz g.hp depth (e 4) = some (.ptr (matC X.evs.length (kindK X oEx X.evs.length))) := by
          rw [e4]
          exact frz_d_mp hm (frzL_flat (matC_flat _ _))
        have hg' : (lckG g (e 4)).hp 0 = some (.cells (grC X) false) := by
          rw [e4]
          exact lck_miss hg (by rw [vis_mpf hm (matC_flat _ _)]; rfl)
        rw [W_imm hfz]
        generalize lckG g (e 4) = g' at hg'
        simp (disch := omega) only [wp, Nat.reduceAdd, Nat.reduceMul, Nat.reduceSub, gl, ml, e1, e3, hg', S.po h, S.then h, S.or h, fin0]
theorem EqN.z {n : Nat} (hn : n ≤ 40) {A : Mx} {R : Rw} (h : EqN n A R) : EqN n A (orR (newR n []) R) :=
  ⟨wf_or (wf_new hn _) h.1, fun a b ha hb' => by
    have hz := (EqN.new hn []).2 a b ha hb'
    rw [h.2 a b ha hb', hb_or, ← hz]
    simp [newM]⟩
theorem q_m1 (k f : Int) (e : Ev) : (e.kd == k && e.md == f) = kindQ k f f e := by
  unfold kindQ
  congr 1
  rw [Bool.eq_iff_iff]
  simp
  omega
section
variable {X : Gr} (h : GraphOk X)
include h
theorem eq_oR : EqN X.evs.length (kindK X (kindQ 1 0 1) X.evs.length) (setR X oR) := kq h fun e hk => by
  unfold oR kindQ
  rw [Bool.eq_iff_iff]
  simp
  omega
theorem eq_oW : EqN X.evs.length (kindK X (kindQ 2 0 2) X.evs.length) (setR X oW) := kq h fun e hk => by
  unfold oW kindQ
  rw [Bool.eq_iff_iff]
  simp
  omega
theorem eq_oF : EqN X.evs.length (kindK X (kindQ 3 1 4) X.evs.length) (setR X oF) := kq h fun e hk => by
  unfold oF kindQ
  rw [Bool.eq_iff_iff]
  simp
  omega
theorem eq_oRel : EqN X.evs.length (kindK X (kindQ 2 2 2) X.evs.length) (setR X oRel) := kq h fun e _ => q_m1 2 2 e
theorem eq_oAcq : EqN X.evs.length (kindK X (kindQ 1 1 1) X.evs.length) (setR X oAcq) := kq h fun e _ => q_m1 1 1 e
theorem eq_oSc : EqN X.evs.length (kindK X (kindQ 3 4 4) X.evs.length) (setR X oSc) := kq h fun e _ => q_m1 3 4 e
theorem eq_oEx : EqN X.evs.length (kindK X oEx X.evs.length) (setR X oEx) := EqN.set h fun i hi => rfl
theorem eq_deps : EqN X.evs.length (deps11 X) (depsR X) := by
  unfold depsR
  rw [h.nOf]
  exact (((EqN.new h.n40 X.data).z h.n40).or (EqN.new h.n40 X.ctrl)).or ((eq_oEx h).then (eq_po h))
end
set_option maxRecDepth 100000 in
section
variable (S : RefF F) (p : Pk_xref11 F) (p10 : Pk_xref10 F) {X : Gr} (hX : FewG X) (h : GraphOk X)
include S p p10 hX h
omit S p p10 h in
theorem FewG.l1 : X.data.length ≤ 1000 ∧ X.ctrl.length ≤ 1000 ∧ X.rmw.length ≤ 1000 := by
  have h1 := hX.data
  have h2 := hX.ctrl
  have h3 := hX.rmw
  omega
omit hX in
theorem m11_bob : MIs F 255 X (bobR X) := by
  unfold bobR bobL locR
  rw [h.nOf]
  have e1 := (eq_po h).then (eq_oRel h)
  have e2 := (eq_oAcq h).then (eq_po h)
  have e3 := (eq_po h).then (eq_oF h)
  have e4 := (eq_oF h).then (eq_po h)
  have e5 := ((eq_oRel h).then (eq_loc h)).then (eq_oW h)
  refine ⟨_, pure_of p.xref11_Bob ?_, ((((e1.z h.n40).or e2).or e3).or e4).or e5⟩
  simp (disch := omega) only [A_xref11_Bob, wp, Nat.reduceAdd, Nat.reduceMul, Nat.reduceSub, gl, S.po h, S.k h, mWrel S p10 h, mRacq S p10 h, mW S p10 h, S.loc h, S.then h, S.or h]
omit p10 in
theorem m11_depsI : MIs F 256 X (depsR X) := by
  obtain ⟨l1, l2, l3⟩ := FewG.l1 hX
  exact ⟨_, m11_deps p.xref11_Deps S h l1 l2, eq_deps h⟩
theorem m11_ppo : MIs F 257 X (oppoR X) := by
  obtain ⟨A, hA, eA⟩ := m11_depsI S p hX h
  unfold oppoR rfR
  rw [h.nOf]
  have e1 := ((eq_oR h).then ((eA.or (eq_inner h (eq_rf h))).plus)).then (eq_oW h)
  refine ⟨_, pure_of p.xref11_Ppo ?_, e1⟩
  simp (disch := omega) only [A_xref11_Ppo, wp, Nat.reduceAdd, Nat.reduceMul, Nat.reduceSub, gl, S.k h, S.rf h, S.inner h, hA, S.or h, S.plus h, S.then h, mW S p10 h]
omit p10 in
theorem m11_detour : MIs F 258 X (odetR X) := by
  unfold odetR rfR
  rw [h.nOf]
  have e1 := ((eq_outer h (eq_co h)).then (eq_outer h (eq_rf h))).and (eq_po h)
  refine ⟨_, pure_of p.xref11_Detour ?_, e1⟩
  simp (disch := omega) only [A_xref11_Detour, wp, Nat.reduceAdd, Nat.reduceMul, Nat.reduceSub, gl, S.co hX h, S.rf h, S.outer h, S.then h, S.po h, S.and h]
theorem m11_psc (h83 : F 83 = some A_xref09_Com) (h72 : F 72 = some A_xref09_Eco) : MIs F 259 X (pscR X) := by
  obtain ⟨l1, l2, l3⟩ := FewG.l1 hX
  obtain ⟨A, hA, eA⟩ := mHb S p10 h l3
  have he := sp_mEco h72 S.px.xref01_New S.px.xref01_R_Plus h.n40 (sp_mCom h83 S.px.xref01_New S.px.xref01_R_Or h.n40 (S.rf h) (S.co hX h) (S.fr hX h))
  unfold pscR
  rw [h.nOf]
  have e1 := (((((eq_oSc h).then eA).then (eq_eco h)).then eA).then (eq_oSc h))
  refine ⟨_, pure_of p.xref11_Psc ?_, e1⟩
  simp (disch := omega) only [A_xref11_Psc, wp, Nat.reduceAdd, Nat.reduceMul, Nat.reduceSub, gl, S.k h, hA, he, S.then h]
theorem m11_ar (h83 : F 83 = some A_xref09_Com) (h72 : F 72 = some A_xref09_Eco) : MIs F 260 X (arR X) := by
  obtain ⟨A, hA, eA⟩ := m11_bob S p p10 h
  obtain ⟨B, hB, eB⟩ := m11_ppo S p p10 hX h
  obtain ⟨C, hC, eC⟩ := m11_detour S p hX h
  obtain ⟨D, hD, eD⟩ := m11_psc S p p10 hX h h83 h72
  unfold arR rfR
  rw [h.nOf]
  have e1 := (((((eq_outer h (eq_rf h)).z h.n40).or eA).or eB).or eC).or eD
  refine ⟨_, pure_of p.xref11_Ar ?_, e1⟩
  simp (disch := omega) only [A_xref11_Ar, wp, Nat.reduceAdd, Nat.reduceMul, Nat.reduceSub, gl, S.rf h, S.outer h, hA, hB, hC, hD, S.or h]
end
end Go.Ab
end
section
/- Resolved functions of package xlaw11, written by a program (res.py). -/
namespace Go.Ab
def A_xlaw11_OrderBob : AFun := { res := [.t 6], body := (.seq (.reg false [{ dst := some 6, op := .mv (.c (.b false)) }])
 (.seq (.reg false [{ dst := some 16, op := .mv (.t 0) },
  { dst := some 17, op := .call .pure (.c (.fn 10 [] [])) [.t 16, .c (.i .i64 4)] },
  { dst := some 18, op := .mv (.t 1) },
  { dst := some 19, op := .call .pure (.c (.fn 10 [] [])) [.t 18, .c (.i .i64 4)] },
  { dst := some 20, op := .mv (.t 2) },
  { dst := some 21, op := .call .pure (.c (.fn 10 [] [])) [.t 20, .c (.i .i64 5)] },
  { dst := some 7, op := .mv (.t 17) },
  { dst := some 8, op := .mv (.t 19) },
  { dst := some 9, op := .mv (.t 21) }])
 (.seq (.reg false [{ dst := some 10, op := .mv (.c (.fn 154 [] [])) }])
 (.seq (.reg false [{ dst := some 22, op := .build (List.replicate 5 (.i .i64 0) ++ [.b false]) [(1, 1, .c (.i .i64 2))] },
  { dst := some 23, op := .build (List.replicate 5 (.i .i64 0) ++ [.b false]) [(1, 1, .c (.i .i64 2)), (3, 1, .c (.i .i64 1))] },
  { dst := some 24, op := .mv (.t 10) },
  { dst := some 25, op := .mv (.t 7) },
  { dst := some 26, op := .call .pure (.t 24) [.t 25, .c (.i .i64 0)] },
  { dst := some 27, op := .bsl true 3 (List.replicate 5 (.i .i64 0) ++ [.b false] ++ List.replicate 5 (.i .i64 0) ++ [.b false] ++ List.replicate 5 (.i .i64 0) ++ [.b false]) [(0, 6, .t 22), (6, 6, .t 23), (12, 6, .t 26)] },
  { dst := some 11, op := .mv (.t 27) }])
 (.seq (.seq (.reg false [{ dst := some 28, op := .mv (.t 9) },
  { dst := some 29, op := .bin .gtr (.t 28) (.c (.i .i64 0)) }])
 (.cond (.t 29) (.reg false [{ dst := some 30, op := .mv (.t 11) },
  { dst := some 31, op := .mv (.t 9) },
  { dst := some 32, op := .build (List.replicate 5 (.i .i64 0) ++ [.b false]) [(0, 1, .c (.i .i64 1)), (1, 1, .c (.i .i64 3)), (2, 1, .t 31)] },
  { dst := some 33, op := .bsl true 1 (List.replicate 5 (.i .i64 0) ++ [.b false]) [(0, 6, .t 32)] },
  { dst := some 34, op := .app 6 48 (.t 30) (.t 33) },
  { dst := some 11, op := .mv (.t 34) }])
 .skip))
 (.seq (.reg false [{ dst := some 35, op := .mv (.t 11) },
  { dst := some 36, op := .len (.t 35) },
  { dst := some 12, op := .mv (.t 36) }])
 (.seq (.reg false [{ dst := some 37, op := .mv (.t 11) },
  { dst := some 38, op := .mv (.t 10) },
  { dst := some 39, op := .mv (.t 8) },
  { dst := some 40, op := .call .pure (.t 38) [.t 39, .c (.i .i64 1)] },
  { dst := some 41, op := .bsl true 1 (List.replicate 5 (.i .i64 0) ++ [.b false]) [(0, 6, .t 40)] },
  { dst := some 42, op := .app 6 48 (.t 37) (.t 41) },
  { dst := some 11, op := .mv (.t 42) }])
 (.seq (.reg false [{ dst := some 43, op := .mv (.t 11) },
  { dst := some 44, op := .bsl true 1 ([.i .i64 0]) [(0, 1, .c (.i .i64 0))] },
  { dst := some 45, op := .bsl true 1 ([.i .i64 0]) [(0, 1, .c (.i .i64 1))] },
  { dst := some 46, op := .bsl true 2 ([.sl [] 0 .rig, .sl [] 0 .rig]) [(0, 1, .t 44), (1, 1, .t 45)] },
  { dst := some 47, op := .build ([.i .i64 0] ++ List.replicate 7 (.sl [] 0 .rig)) [(0, 1, .c (.i .i64 2)), (1, 1, .t 43), (3, 1, .t 46)] },
  { dst := some 13, op := .new ([.i .i64 0] ++ List.replicate 7 (.sl [] 0 .rig)) },
  { dst := none, op := .st 8 (.t 13) (.t 47) }])
 (.seq (.seq (.reg false [{ dst := some 14, op := .mv (.c (.i .i64 0)) }])
 (.blk 0 (.loop (.seq (.seq (.reg false [{ dst := some 48, op := .mv (.t 14) },
  { dst := some 49, op := .mv (.t 11) },
  { dst := some 50, op := .len (.t 49) },
  { dst := some 51, op := .bin .lss (.t 48) (.t 50) }])
 (.cond (.t 51) .skip
 (.ext 0)))
 (.seq (.blk 1 (.reg false [{ dst := some 54, op := .fa 2 (.t 13) },
  { dst := some 55, op := .ld none (.t 54) },
  { dst := some 56, op := .bsl true 1 ([.i .i64 0]) [(0, 1, .c (.i .i64 (-1)))] },
  { dst := some 57, op := .app 1 8 (.t 55) (.t 56) },
  { dst := some 58, op := .fa 2 (.t 13) },
  { dst := none, op := .st 1 (.t 58) (.t 57) }]))
 (.reg false [{ dst := some 52, op := .mv (.t 14) },
  { dst := some 53, op := .bin .add (.t 52) (.c (.i .i64 1)) },
  { dst := some 14, op := .mv (.t 53) }]))))))
 (.seq (.seq (.reg false [{ dst := some 59, op := .mv (.t 7) },
  { dst := some 60, op := .bin .lss (.t 59) (.c (.i .i64 2)) }])
 (.cond (.t 60) (.reg false [{ dst := some 61, op := .fa 2 (.t 13) },
  { dst := some 62, op := .ld none (.t 61) },
  { dst := some 63, op := .ia 1 (.t 62) (.c (.i .i64 2)) },
  { dst := none, op := .st 1 (.t 63) (.c (.i .i64 0)) }])
 (.reg true [{ dst := some 64, op := .fa 3 (.t 13) },
  { dst := some 65, op := .ld none (.t 64), pre := [] },
  { dst := some 66, op := .fa 3 (.t 13) },
  { dst := some 67, op := .ld none (.t 66), pre := [] },
  { dst := some 68, op := .ia 1 (.t 67) (.c (.i .i64 0)) },
  { dst := some 69, op := .ld none (.t 68), pre := [] },
  { dst := some 70, op := .bsl true 1 ([.i .i64 0]) [(0, 1, .c (.i .i64 2))], pre := [] },
  { dst := some 71, op := .app 1 8 (.t 69) (.t 70), pre := [] },
  { dst := some 72, op := .ia 1 (.t 65) (.c (.i .i64 0)) },
  { dst := none, op := .st 1 (.t 72) (.t 71), pre := [7] }])))
 (.seq (.seq (.reg false [{ dst := some 73, op := .mv (.t 8) },
  { dst := some 74, op := .bin .lss (.t 73) (.c (.i .i64 2)) }])
 (.cond (.t 74) (.reg false [{ dst := some 75, op := .fa 2 (.t 13) },
  { dst := some 76, op := .ld none (.t 75) },
  { dst := some 77, op := .mv (.t 12) },
  { dst := some 78, op := .ia 1 (.t 76) (.t 77) },
  { dst := none, op := .st 1 (.t 78) (.c (.i .i64 1)) }])
 (.reg true [{ dst := some 79, op := .fa 3 (.t 13) },
  { dst := some 80, op := .ld none (.t 79), pre := [] },
  { dst := some 81, op := .fa 3 (.t 13) },
  { dst := some 82, op := .ld none (.t 81), pre := [] },
  { dst := some 83, op := .ia 1 (.t 82) (.c (.i .i64 1)) },
  { dst := some 84, op := .ld none (.t 83), pre := [] },
  { dst := some 85, op := .mv (.t 12) },
  { dst := some 86, op := .bsl true 1 ([.i .i64 0]) [(0, 1, .t 85)], pre := [] },
  { dst := some 87, op := .app 1 8 (.t 84) (.t 86), pre := [] },
  { dst := some 88, op := .ia 1 (.t 80) (.c (.i .i64 1)) },
  { dst := none, op := .st 1 (.t 88) (.t 87), pre := [8] }])))
 (.seq (.reg false [{ dst := some 89, op := .mv (.t 7) },
  { dst := some 90, op := .bin .eql (.t 89) (.c (.i .i64 1)) },
  { dst := some 91, op := .mv (.t 90) },
  { dst := some 92, op := .mv (.t 8), grd := some (91, false) },
  { dst := some 93, op := .bin .eql (.t 92) (.c (.i .i64 3)), grd := some (91, false) },
  { dst := some 94, op := .pick (.t 91) (.c (.b true)) (.t 93) },
  { dst := some 15, op := .mv (.t 94) }])
 (.seq (.reg false [{ dst := some 95, op := .ld (some 8) (.t 13) },
  { dst := some 96, op := .call .pure (.c (.fn 155 [] [])) [.t 95] },
  { dst := some 97, op := .mv (.t 12) },
  { dst := some 98, op := .call .pure (.c (.fn 13 [] [])) [.t 96, .c (.i .i64 2), .t 97] },
  { dst := some 99, op := .mv (.t 15) },
  { dst := some 100, op := .eqb false (.t 98) (.t 99) },
  { dst := some 101, op := .mv (.t 100) },
  { dst := some 102, op := .ld (some 8) (.t 13), grd := some (101, true) },
  { dst := some 103, op := .call .pure (.c (.fn 156 [] [])) [.t 102], grd := some (101, true) },
  { dst := some 104, op := .call .pure (.c (.fn 12 [] [])) [.t 103], grd := some (101, true) },
  { dst := some 105, op := .mv (.t 12), grd := some (101, true) },
  { dst := some 106, op := .call .pure (.c (.fn 13 [] [])) [.t 104, .c (.i .i64 2), .t 105], grd := some (101, true) },
  { dst := some 107, op := .mv (.t 15), grd := some (101, true) },
  { dst := some 108, op := .mv (.t 107), grd := some (101, true) },
  { dst := some 109, op := .mv (.t 9), grd := some (108, false) },
  { dst := some 110, op := .bin .gtr (.t 109) (.c (.i .i64 0)), grd := some (108, false) },
  { dst := some 111, op := .pick (.t 108) (.c (.b true)) (.t 110), grd := some (101, true) },
  { dst := some 112, op := .eqb false (.t 106) (.t 111), grd := some (101, true) },
  { dst := some 113, op := .pick (.t 101) (.t 112) (.c (.b false)) },
  { dst := some 114, op := .mv (.t 113) },
  { dst := some 115, op := .ld (some 8) (.t 13), grd := some (114, true) },
  { dst := some 116, op := .call .pure (.c (.fn 155 [] [])) [.t 115], grd := some (114, true) },
  { dst := some 117, op := .call .pure (.c (.fn 13 [] [])) [.t 116, .c (.i .i64 2), .c (.i .i64 3)], grd := some (114, true) },
  { dst := some 118, op := .mv (.t 9), grd := some (114, true) },
  { dst := some 119, op := .bin .gtr (.t 118) (.c (.i .i64 0)), grd := some (114, true) },
  { dst := some 120, op := .mv (.t 119), grd := some (114, true) },
  { dst := some 121, op := .mv (.t 15), grd := some (120, false) },
  { dst := some 122, op := .pick (.t 120) (.c (.b true)) (.t 121), grd := some (114, true) },
  { dst := some 123, op := .eqb false (.t 117) (.t 122), grd := some (114, true) },
  { dst := some 124, op := .pick (.t 114) (.t 123) (.c (.b false)) },
  { dst := some 125, op := .mv (.t 124) },
  { dst := some 126, op := .call .pure (.c (.fn 157 [] [])) [], grd := some (125, true) },
  { dst := some 127, op := .pick (.t 125) (.t 126) (.c (.b false)) },
  { dst := some 6, op := .mv (.t 127) }])
 .ret))))))))))))) }
def A_xlaw11_OrderBob_1 : AFun := { res := [.cell 4 (some 6)], body := (.seq (.reg false [{ dst := some 4, op := .new (List.replicate 5 (.i .i64 0) ++ [.b false]) }])
 (.seq (.reg false [{ dst := some 6, op := .mv (.t 1) },
  { dst := some 7, op := .build (List.replicate 5 (.i .i64 0) ++ [.b false]) [(0, 1, .c (.i .i64 1)), (3, 1, .t 6), (1, 1, .c (.i .i64 1))] },
  { dst := some 5, op := .new (List.replicate 5 (.i .i64 0) ++ [.b false]) },
  { dst := none, op := .st 6 (.t 5) (.t 7) }])
 (.seq (.seq (.reg false [{ dst := some 8, op := .mv (.t 0) },
  { dst := some 9, op := .bin .geq (.t 8) (.c (.i .i64 2)) }])
 (.cond (.t 9) (.reg false [{ dst := some 10, op := .fa 1 (.t 5) },
  { dst := none, op := .st 1 (.t 10) (.c (.i .i64 2)) }])
 .skip))
 (.seq (.seq (.reg false [{ dst := some 11, op := .mv (.t 0) },
  { dst := some 12, op := .bin .rem (.t 11) (.c (.i .i64 2)) },
  { dst := some 13, op := .bin .eql (.t 12) (.c (.i .i64 1)) }])
 (.cond (.t 13) (.reg false [{ dst := some 14, op := .mv (.t 0) },
  { dst := some 15, op := .bin .quo (.t 14) (.c (.i .i64 2)) },
  { dst := some 16, op := .bin .add (.t 15) (.c (.i .i64 1)) },
  { dst := some 17, op := .fa 2 (.t 5) },
  { dst := none, op := .st 1 (.t 17) (.t 16) }])
 .skip))
 (.seq (.reg false [{ dst := some 18, op := .ld (some 6) (.t 5) },
  { dst := none, op := .st 6 (.t 4) (.t 18) }])
 .ret))))) }
def A_xlaw11_awake : AFun := { res := [.t 0], body := (.seq (.reg false [{ dst := some 0, op := .mv (.c (.b false)) }])
 (.seq (.reg false [{ dst := some 1, op := .call .pure (.c (.fn 212 [] [])) [.c (.b true)] },
  { dst := some 2, op := .call .pure (.c (.fn 207 [] [])) [.t 1] },
  { dst := some 3, op := .call .pure (.c (.fn 13 [] [])) [.t 2, .c (.i .i64 2), .c (.i .i64 3)] },
  { dst := some 4, op := .mv (.t 3) },
  { dst := some 5, op := .call .pure (.c (.fn 212 [] [])) [.c (.b true)], grd := some (4, true) },
  { dst := some 6, op := .call .pure (.c (.fn 156 [] [])) [.t 5], grd := some (4, true) },
  { dst := some 7, op := .call .pure (.c (.fn 13 [] [])) [.t 6, .c (.i .i64 2), .c (.i .i64 3)], grd := some (4, true) },
  { dst := some 8, op := .pick (.t 4) (.t 7) (.c (.b false)) },
  { dst := some 9, op := .mv (.t 8) },
  { dst := some 10, op := .call .pure (.c (.fn 212 [] [])) [.c (.b false)], grd := some (9, true) },
  { dst := some 11, op := .call .pure (.c (.fn 156 [] [])) [.t 10], grd := some (9, true) },
  { dst := some 12, op := .call .pure (.c (.fn 13 [] [])) [.t 11, .c (.i .i64 2), .c (.i .i64 3)], grd := some (9, true) },
  { dst := some 13, op := .un .not (.t 12), grd := some (9, true) },
  { dst := some 14, op := .pick (.t 9) (.t 13) (.c (.b false)) },
  { dst := some 15, op := .mv (.t 14) },
  { dst := some 16, op := .call .pure (.c (.fn 212 [] [])) [.c (.b true)], grd := some (15, true) },
  { dst := some 17, op := .call .pure (.c (.fn 213 [] [])) [.t 16], grd := some (15, true) },
  { dst := some 18, op := .call .pure (.c (.fn 13 [] [])) [.t 17, .c (.i .i64 2), .c (.i .i64 3)], grd := some (15, true) },
  { dst := some 19, op := .pick (.t 15) (.t 18) (.c (.b false)) },
  { dst := some 0, op := .mv (.t 19) }])
 .ret)) }
def A_xlaw11_after : AFun := { res := [.cell 2 (some 8)], body := (.seq (.reg false [{ dst := some 2, op := .new ([.i .i64 0] ++ List.replicate 7 (.sl [] 0 .rig)) }])
 (.seq (.reg false [{ dst := some 4, op := .build (List.replicate 5 (.i .i64 0) ++ [.b false]) [(1, 1, .c (.i .i64 2))] },
  { dst := some 5, op := .build (List.replicate 5 (.i .i64 0) ++ [.b false]) [(1, 1, .c (.i .i64 2)), (3, 1, .c (.i .i64 1))] },
  { dst := some 6, op := .build (List.replicate 5 (.i .i64 0) ++ [.b false]) [(0, 1, .c (.i .i64 1)), (1, 1, .c (.i .i64 1))] },
  { dst := some 7, op := .build (List.replicate 5 (.i .i64 0) ++ [.b false]) [(0, 1, .c (.i .i64 1)), (1, 1, .c (.i .i64 2)), (3, 1, .c (.i .i64 1))] },
  { dst := some 8, op := .bsl true 4 (List.replicate 5 (.i .i64 0) ++ [.b false] ++ List.replicate 5 (.i .i64 0) ++ [.b false] ++ List.replicate 5 (.i .i64 0) ++ [.b false] ++ List.replicate 5 (.i .i64 0) ++ [.b false]) [(0, 6, .t 4), (6, 6, .t 5), (12, 6, .t 6), (18, 6, .t 7)] },
  { dst := some 9, op := .bsl true 4 (List.replicate 4 (.i .i64 0)) [(0, 1, .c (.i .i64 (-1))), (1, 1, .c (.i .i64 (-1))), (2, 1, .c (.i .i64 0)), (3, 1, .c (.i .i64 (-1)))] },
  { dst := some 10, op := .bsl true 1 ([.i .i64 0]) [(0, 1, .c (.i .i64 0))] },
  { dst := some 11, op := .bsl true 2 ([.i .i64 0, .i .i64 0]) [(0, 1, .c (.i .i64 1)), (1, 1, .c (.i .i64 3))] },
  { dst := some 12, op := .bsl true 2 ([.sl [] 0 .rig, .sl [] 0 .rig]) [(0, 1, .t 10), (1, 1, .t 11)] },
  { dst := some 13, op := .build ([.i .i64 0] ++ List.replicate 7 (.sl [] 0 .rig)) [(0, 1, .c (.i .i64 2)), (1, 1, .t 8), (2, 1, .t 9), (3, 1, .t 12)] },
  { dst := some 3, op := .new ([.i .i64 0] ++ List.replicate 7 (.sl [] 0 .rig)) },
  { dst := none, op := .st 8 (.t 3) (.t 13) }])
 (.seq (.seq (.reg false [{ dst := some 14, op := .mv (.t 0) }])
 (.cond (.t 14) (.reg false [{ dst := some 15, op := .build ([.i .i64 0, .i .i64 0]) [(0, 1, .c (.i .i64 2)), (1, 1, .c (.i .i64 3))] },
  { dst := some 16, op := .bsl true 1 ([.i .i64 0, .i .i64 0]) [(0, 2, .t 15)] },
  { dst := some 17, op := .fa 5 (.t 3) },
  { dst := none, op := .st 1 (.t 17) (.t 16) }])
 .skip))
 (.seq (.reg false [{ dst := some 18, op := .ld (some 8) (.t 3) },
  { dst := none, op := .st 8 (.t 2) (.t 18) }])
 .ret)))) }
def A_xlaw11_OrderAny : AFun := { res := [.t 2], body := (.seq (.reg false [{ dst := some 1, op := .box (.t 0) },
  { dst := some 2, op := .mv (.c (.b false)) }])
 (.seq (.seq (.reg false [{ dst := some 3, op := .ld (some 8) (.t 1) },
  { dst := some 4, op := .call .pure (.c (.fn 44 [] [])) [.t 3] },
  { dst := some 5, op := .un .not (.t 4) },
  { dst := some 6, op := .mv (.t 5) },
  { dst := some 7, op := .fa 1 (.t 1), grd := some (6, false) },
  { dst := some 8, op := .ld none (.t 7), grd := some (6, false) },
  { dst := some 9, op := .len (.t 8), grd := some (6, false) },
  { dst := some 10, op := .bin .gtr (.t 9) (.c (.i .i64 20)), grd := some (6, false) },
  { dst := some 11, op := .pick (.t 6) (.c (.b true)) (.t 10) },
  { dst := some 12, op := .mv (.t 11) },
  { dst := some 13, op := .ld (some 8) (.t 1), grd := some (12, false) },
  { dst := some 14, op := .call .pure (.c (.fn 45 [] [])) [.t 13], grd := some (12, false) },
  { dst := some 15, op := .un .not (.t 14), grd := some (12, false) },
  { dst := some 16, op := .pick (.t 12) (.c (.b true)) (.t 15) }])
 (.cond (.t 16) (.seq (.reg false [{ dst := some 17, op := .call .pure (.c (.fn 157 [] [])) [] },
  { dst := some 2, op := .mv (.t 17) }])
 .ret)
 .skip))
 (.seq (.reg false [{ dst := some 18, op := .ld (some 8) (.t 1) },
  { dst := some 19, op := .call .pure (.c (.fn 252 [] [])) [.t 18] },
  { dst := some 20, op := .mv (.t 19) },
  { dst := some 21, op := .call .pure (.c (.fn 157 [] [])) [], grd := some (20, true) },
  { dst := some 22, op := .pick (.t 20) (.t 21) (.c (.b false)) },
  { dst := some 2, op := .mv (.t 22) }])
 .ret))) }
def A_xlaw11_all : AFun := { res := [.t 2], body := (.seq (.reg false [{ dst := some 1, op := .box (.t 0) },
  { dst := some 2, op := .mv (.c (.b false)) }])
 (.seq (.reg true [{ dst := some 3, op := .ld (some 8) (.t 1), pre := [] },
  { dst := some 4, op := .call .pure (.c (.fn 155 [] [])) [.t 3], pre := [] },
  { dst := some 5, op := .ld (some 8) (.t 1), pre := [] },
  { dst := some 6, op := .call .pure (.c (.fn 255 [] [])) [.t 5], pre := [] },
  { dst := some 7, op := .call .pure (.c (.fn 254 [] [])) [.t 4, .t 6], pre := [] },
  { dst := some 8, op := .mv (.t 7) },
  { dst := some 9, op := .ld (some 8) (.t 1), grd := some (8, true), pre := [] },
  { dst := some 10, op := .call .pure (.c (.fn 213 [] [])) [.t 9], grd := some (8, true), pre := [] },
  { dst := some 11, op := .ld (some 8) (.t 1), grd := some (8, true), pre := [] },
  { dst := some 12, op := .call .pure (.c (.fn 256 [] [])) [.t 11], grd := some (8, true), pre := [] },
  { dst := some 13, op := .call .pure (.c (.fn 254 [] [])) [.t 10, .t 12], grd := some (8, true), pre := [] },
  { dst := some 14, op := .pick (.t 8) (.t 13) (.c (.b false)) },
  { dst := some 15, op := .mv (.t 14) },
  { dst := some 16, op := .ld (some 8) (.t 1), grd := some (15, true), pre := [] },
  { dst := some 17, op := .call .pure (.c (.fn 207 [] [])) [.t 16], grd := some (15, true), pre := [] },
  { dst := some 18, op := .ld (some 8) (.t 1), grd := some (15, true), pre := [] },
  { dst := some 19, op := .call .pure (.c (.fn 257 [] [])) [.t 18], grd := some (15, true), pre := [] },
  { dst := some 20, op := .call .pure (.c (.fn 254 [] [])) [.t 17, .t 19], grd := some (15, true), pre := [] },
  { dst := some 21, op := .pick (.t 15) (.t 20) (.c (.b false)) },
  { dst := some 22, op := .mv (.t 21) },
  { dst := some 23, op := .ld (some 8) (.t 1), grd := some (22, true), pre := [] },
  { dst := some 24, op := .call .pure (.c (.fn 209 [] [])) [.t 23], grd := some (22, true), pre := [] },
  { dst := some 25, op := .ld (some 8) (.t 1), grd := some (22, true), pre := [] },
  { dst := some 26, op := .call .pure (.c (.fn 258 [] [])) [.t 25], grd := some (22, true), pre := [] },
  { dst := some 27, op := .call .pure (.c (.fn 254 [] [])) [.t 24, .t 26], grd := some (22, true), pre := [] },
  { dst := some 28, op := .pick (.t 22) (.t 27) (.c (.b false)) },
  { dst := some 29, op := .mv (.t 28) },
  { dst := some 30, op := .ld (some 8) (.t 1), grd := some (29, true), pre := [] },
  { dst := some 31, op := .call .pure (.c (.fn 211 [] [])) [.t 30], grd := some (29, true), pre := [] },
  { dst := some 32, op := .ld (some 8) (.t 1), grd := some (29, true), pre := [] },
  { dst := some 33, op := .call .pure (.c (.fn 259 [] [])) [.t 32], grd := some (29, true), pre := [] },
  { dst := some 34, op := .call .pure (.c (.fn 254 [] [])) [.t 31, .t 33], grd := some (29, true), pre := [] },
  { dst := some 35, op := .pick (.t 29) (.t 34) (.c (.b false)) },
  { dst := some 36, op := .mv (.t 35) },
  { dst := some 37, op := .ld (some 8) (.t 1), grd := some (36, true), pre := [] },
  { dst := some 38, op := .call .pure (.c (.fn 156 [] [])) [.t 37], grd := some (36, true), pre := [] },
  { dst := some 39, op := .ld (some 8) (.t 1), grd := some (36, true), pre := [] },
  { dst := some 40, op := .call .pure (.c (.fn 260 [] [])) [.t 39], grd := some (36, true), pre := [] },
  { dst := some 41, op := .call .pure (.c (.fn 254 [] [])) [.t 38, .t 40], grd := some (36, true), pre := [] },
  { dst := some 42, op := .pick (.t 36) (.t 41) (.c (.b false)) },
  { dst := some 2, op := .mv (.t 42) }])
 .ret)) }
def A_xlaw11_same : AFun := { res := [.t 4], body := (.seq (.reg false [{ dst := some 4, op := .mv (.c (.b false)) }])
 (.seq (.reg true [{ dst := some 5, op := .mv (.t 0) },
  { dst := some 6, op := .eqn true (.t 5) (.c (.nilp)) },
  { dst := some 7, op := .mv (.t 6) },
  { dst := some 8, op := .mv (.t 0), grd := some (7, true) },
  { dst := some 9, op := .call .pure (.c (.fn 17 [] [])) [.t 8], grd := some (7, true), pre := [] },
  { dst := some 10, op := .mv (.t 1), grd := some (7, true) },
  { dst := some 11, op := .nilck (.t 10), grd := some (7, true) },
  { dst := some 12, op := .fa 0 (.t 11), grd := some (7, true) },
  { dst := some 13, op := .ld none (.t 12), grd := some (7, true), pre := [] },
  { dst := some 14, op := .bin .eql (.t 9) (.t 13), grd := some (7, true) },
  { dst := some 15, op := .pick (.t 7) (.t 14) (.c (.b false)) },
  { dst := some 16, op := .mv (.t 15) },
  { dst := some 17, op := .mv (.t 0), grd := some (16, true) },
  { dst := some 18, op := .call .pure (.c (.fn 15 [] [])) [.t 17], grd := some (16, true), pre := [] },
  { dst := some 19, op := .mv (.t 1), grd := some (16, true) },
  { dst := some 20, op := .call .pure (.c (.fn 56 [] [])) [.t 19], grd := some (16, true), pre := [] },
  { dst := some 21, op := .call .pure (.c (.fn 55 [] [])) [.t 18, .t 20], grd := some (16, true), pre := [] },
  { dst := some 22, op := .pick (.t 16) (.t 21) (.c (.b false)) },
  { dst := some 4, op := .mv (.t 22) }])
 .ret)) }
structure Pk_xlaw11 (F : Funs) : Prop where
  xlaw11_OrderBob : F 140 = some A_xlaw11_OrderBob
  xlaw11_OrderBob_1 : F 154 = some A_xlaw11_OrderBob_1
  xlaw11_awake : F 157 = some A_xlaw11_awake
  xlaw11_after : F 212 = some A_xlaw11_after
  xlaw11_OrderAny : F 250 = some A_xlaw11_OrderAny
  xlaw11_all : F 252 = some A_xlaw11_all
  xlaw11_same : F 254 = some A_xlaw11_same
end Go.Ab
end
section
/- exegesislaw11: after, awake, all; OrderAny. -/
set_option linter.unusedVariables false
set_option linter.unusedSimpArgs false
namespace Go.Ab
variable {F : Funs}
def aftB (b : Bool) : Gr := if b then aftH 0 else aftH 2
set_option maxRecDepth 100000 in
set_option maxHeartbeats 4000000 in
theorem so_after (h212 : F 212 = some A_xlaw11_after) (b : Bool) : pureS F 212 [.b b] = some (.agg (grC (aftB b))) := by
  refine pure_of h212 ?_
  have r5 : ∀ x : AV, List.replicate 5 x = [x, x, x, x, x] := fun _ => rfl
  have r4 : ∀ x : AV, List.replicate 4 x = [x, x, x, x] := fun _ => rfl
  have r7 : ∀ x : AV, List.replicate 7 x = [x, x, x, x, x, x, x] := fun _ => rfl
  have s8 : ∀ a1 a2 a3 a4 a5 a6 a7 a8 c1 c2 c3 c4 c5 c6 c7 c8 : AV, splice [a1, a2, a3, a4, a5, a6, a7, a8] 0 [c1, c2, c3, c4, c5, c6, c7, c8] = [c1, c2, c3, c4, c5, c6, c7, c8] := fun _ _ _ _ _ _ _ _ _ _ _ _ _ _ _ _ => rfl
  have p8 : ∀ a1 a2 a3 a4 a5 a6 a7 a8 : AV, part [a1, a2, a3, a4, a5, a6, a7, a8] 0 (some 8) = some (.agg [a1, a2, a3, a4, a5, a6, a7, a8]) := fun _ _ _ _ _ _ _ _ => rfl
  cases b
  · simp (disch := omega) only [A_xlaw11_after, wp, Nat.reduceAdd, Nat.reduceMul, Nat.reduceSub, gl, res_cell, resC, r5, r4, r7, s8, p8, splice_s, splice_6, List.length_set]
    refine frz_d_agg ?_
    show frzL _ (7 + 1) _ = _
    simp only [frzL, frz]
    rfl
  · simp (disch := omega) only [A_xlaw11_after, wp, Nat.reduceAdd, Nat.reduceMul, Nat.reduceSub, gl, res_cell, resC, r5, r4, r7, s8, p8, splice_s, splice_6, List.length_set]
    refine frz_d_agg ?_
    show frzL _ (7 + 1) _ = _
    simp only [frzL, frz]
    rfl
theorem afb_few (b : Bool) : Few (aftB b) := by cases b; exact aft_few 2; exact aft_few 0
theorem afb_1 : has (nOf (aftB true)) (oppoR (aftB true)) 2 3 = true := by decide +kernel
theorem afb_2 : has (nOf (aftB true)) (arR (aftB true)) 2 3 = true := by decide +kernel
theorem afb_3 : has (nOf (aftB false)) (arR (aftB false)) 2 3 = false := by decide +kernel
theorem afb_4 : has (nOf (aftB true)) (depsR (aftB true)) 2 3 = true := by decide +kernel
set_option maxRecDepth 100000 in
set_option maxHeartbeats 4000000 in
theorem so_awake (h157 : F 157 = some A_xlaw11_awake) (h212 : F 212 = some A_xlaw11_after) (S : OrdF F) : pureS F 157 [] = some (.b true) := by
  refine pure_of h157 ?_
  have a0 := so_after h212 true
  have a1 := so_after h212 false
  have n0 := nOf_le (aftB true)
  have n1 := nOf_le (aftB false)
  have p0 := so_ppo S (afb_few true) (by decide) (by decide)
  have p1 := so_ar S (afb_few true) (by decide) (by decide) (by decide)
  have p2 := so_ar S (afb_few false) (by decide) (by decide) (by decide)
  have p3 := so_deps S (afb_few true) (by decide) (by decide)
  simp (disch := omega) only [A_xlaw11_awake, wp, Nat.reduceAdd, Nat.reduceMul, Nat.reduceSub, gl, a0, a1, p0, p1, p2, p3, sp_has S.sy.pr n0, sp_has S.sy.pr n1, afb_1, afb_2, afb_3, afb_4]
set_option maxRecDepth 100000 in
set_option maxHeartbeats 4000000 in
theorem so_allL (h252 : F 252 = some A_xlaw11_all) (h254 : F 254 = some A_xlaw11_same) (S : OrdF F) (T : RefF F) (p : Pk_xref11 F) (p10 : Pk_xref10 F) (h83 : F 83 = some A_xref09_Com) (h72 : F 72 = some A_xref09_Eco) {X : Gr} (hX : FewG X) (h : GraphOk X) : pureS F 252 [.agg (grC X)] = some (.b true) := by
  refine pure_of h252 ?_
  have hf := hX.few
  have n40 := h.n40
  obtain ⟨l1, l2, l3⟩ := FewG.l1 hX
  have a1 := so_bob S hf
  have a2 := so_deps S hf l1 l2
  have a3 := so_ppo S hf l1 l2
  have a4 := so_detour S hf
  have a5 := so_psc S hf l3
  have a6 := so_ar S hf l1 l2 l3
  obtain ⟨A1, b1, e1⟩ := m11_bob T p p10 h
  obtain ⟨A2, b2, e2⟩ := m11_depsI T p hX h
  obtain ⟨A3, b3, e3⟩ := m11_ppo T p p10 hX h
  obtain ⟨A4, b4, e4⟩ := m11_detour T p hX h
  obtain ⟨A5, b5, e5⟩ := m11_psc T p p10 hX h h83 h72
  obtain ⟨A6, b6, e6⟩ := m11_ar T p p10 hX h h83 h72
  have hs : F 254 = some A_xlaw09_same := h254
  rw [h.nOf] at a1 a2 a3 a4 a5 a6
  have c1 := sp_sameG hs T.px.xref01_SamePairs T.px.xref01_R_Pairs S.sy.pr n40 e1.2
  have c2 := sp_sameG hs T.px.xref01_SamePairs T.px.xref01_R_Pairs S.sy.pr n40 e2.2
  have c3 := sp_sameG hs T.px.xref01_SamePairs T.px.xref01_R_Pairs S.sy.pr n40 e3.2
  have c4 := sp_sameG hs T.px.xref01_SamePairs T.px.xref01_R_Pairs S.sy.pr n40 e4.2
  have c5 := sp_sameG hs T.px.xref01_SamePairs T.px.xref01_R_Pairs S.sy.pr n40 e5.2
  have c6 := sp_sameG hs T.px.xref01_SamePairs T.px.xref01_R_Pairs S.sy.pr n40 e6.2
  simp (disch := omega) only [A_xlaw11_all, wp, Nat.reduceAdd, Nat.reduceMul, Nat.reduceSub, gl, a1, a2, a3, a4, a5, a6, b1, b2, b3, b4, b5, b6, c1, c2, c3, c4, c5, c6]
set_option maxRecDepth 100000 in
set_option maxHeartbeats 4000000 in
theorem so_orderAny {f : Nat} (hf : F f = some A_xlaw11_OrderAny) (h44 : F 44 = some A_xlaw00_FewGraph) (h157 : F 157 = some A_xlaw11_awake) (h212 : F 212 = some A_xlaw11_after) (h252 : F 252 = some A_xlaw11_all) (h254 : F 254 = some A_xlaw11_same) (S : OrdF F) (T : RefF F) (p : Pk_xref11 F) (p10 : Pk_xref10 F) (h83 : F 83 = some A_xref09_Com) (h72 : F 72 = some A_xref09_Eco) (X : Gr) : pureS F f [.agg (grC X)] = some (.b true) := by
  refine pure_of hf ?_
  have aw := so_awake h157 h212 S
  obtain ⟨b1, e1, p1⟩ := sp_fewGraph h44 X
  cases b1
  case false => simp (disch := omega) only [A_xlaw11_OrderAny, wp, Nat.reduceAdd, Nat.reduceMul, Nat.reduceSub, gl, e1, aw]
  have hX := p1 rfl
  by_cases hl : (20 : Int) < X.evs.length
  case pos => simp (disch := omega) only [A_xlaw11_OrderAny, wp, Nat.reduceAdd, Nat.reduceMul, Nat.reduceSub, gl, e1, aw, hl]
  obtain ⟨b2, e2, p2⟩ := sp_check T.p6.xref06_Check T.p6.xref06_event T.p6.xref06_rf T.p6.xref06_co T.p6.xref06_rmw T.p6.xref06_deps T.p6.xref06_rising hX
  cases b2
  case false => simp (disch := omega) only [A_xlaw11_OrderAny, wp, Nat.reduceAdd, Nat.reduceMul, Nat.reduceSub, gl, e1, aw, hl, e2]
  have h := p2 rfl
  have ha := so_allL h252 h254 S T p p10 h83 h72 hX h
  simp (disch := omega) only [A_xlaw11_OrderAny, wp, Nat.reduceAdd, Nat.reduceMul, Nat.reduceSub, gl, e1, aw, hl, e2, ha]
end Go.Ab
end
