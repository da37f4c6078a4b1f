/- The abstract machine, its adequacy, what functions compute; lemmas, no claim of its own. -/
import Derived.Test.YtkiecemdbkjccaaGreatGA
import Derived.Test.YtkiecemdbkjccaaGreatGB
import Derived.Test.YtkiecemdbkjccaaGreatGC
section
/- Resolved functions of package eco, written by a program (res.py). -/
namespace Go.Ab
def A_eco_Inner : AFun := { res := [.t 4], body := (.seq (.reg false [{ dst := some 2, op := .box (.t 0) },
  { dst := some 4, op := .mv (.c (.nilp)) }])
 (.seq (.reg false [{ dst := some 5, op := .ld (some 8) (.t 2) },
  { dst := some 6, op := .mv (.t 1) },
  { dst := some 7, op := .call .pure (.c (.fn 57 [] [])) [.t 5, .t 6, .c (.fn 58 [] [])] },
  { dst := some 4, op := .mv (.t 7) }])
 .ret)) }
def A_eco_Outer : AFun := { res := [.t 4], body := (.seq (.reg false [{ dst := some 2, op := .box (.t 0) },
  { dst := some 4, op := .mv (.c (.nilp)) }])
 (.seq (.reg false [{ dst := some 5, op := .ld (some 8) (.t 2) },
  { dst := some 6, op := .mv (.t 1) },
  { dst := some 7, op := .call .pure (.c (.fn 57 [] [])) [.t 5, .t 6, .c (.fn 59 [] [])] },
  { dst := some 4, op := .mv (.t 7) }])
 .ret)) }
def A_eco_Loc : AFun := { res := [.t 2], body := (.seq (.reg false [{ dst := some 1, op := .box (.t 0) },
  { dst := some 2, op := .mv (.c (.nilp)) }])
 (.seq (.reg true [{ dst := some 3, op := .ld (some 8) (.t 1), pre := [] },
  { dst := some 4, op := .ld (some 8) (.t 1), pre := [] },
  { dst := some 5, op := .call .pure (.c (.fn 60 [] [])) [.t 4], pre := [] },
  { dst := some 6, op := .call .pure (.c (.fn 57 [] [])) [.t 3, .t 5, .c (.fn 61 [] [])], pre := [] },
  { dst := some 2, op := .mv (.t 6) }])
 .ret)) }
def A_eco_Eco : AFun := { res := [.t 2], body := (.seq (.reg false [{ dst := some 1, op := .box (.t 0) },
  { dst := some 2, op := .mv (.c (.nilp)) }])
 (.seq (.reg true [{ dst := some 3, op := .ld (some 8) (.t 1), pre := [] },
  { dst := some 4, op := .call .pure (.c (.fn 48 [] [])) [.t 3], pre := [] },
  { dst := some 5, op := .ld (some 8) (.t 1), pre := [] },
  { dst := some 6, op := .call .pure (.c (.fn 49 [] [])) [.t 5], pre := [] },
  { dst := some 7, op := .call .pure (.c (.fn 24 [] [])) [.t 4, .t 6], pre := [] },
  { dst := some 8, op := .ld (some 8) (.t 1), pre := [] },
  { dst := some 9, op := .call .pure (.c (.fn 50 [] [])) [.t 8], pre := [] },
  { dst := some 10, op := .call .pure (.c (.fn 24 [] [])) [.t 7, .t 9], pre := [] },
  { dst := some 11, op := .call .pure (.c (.fn 12 [] [])) [.t 10], pre := [] },
  { dst := some 2, op := .mv (.t 11) }])
 .ret)) }
def A_eco_Rf : AFun := { res := [.t 2], body := (.seq (.reg false [{ dst := some 1, op := .box (.t 0) },
  { dst := some 2, op := .mv (.c (.nilp)) }])
 (.seq (.reg false [{ dst := some 3, op := .ld (some 8) (.t 1) },
  { dst := some 4, op := .call .pure (.c (.fn 80 [] [])) [.t 3, .c (.s ⟨#[114, 102]⟩)] },
  { dst := some 2, op := .mv (.t 4) }])
 .ret)) }
def A_eco_Co : AFun := { res := [.t 2], body := (.seq (.reg false [{ dst := some 1, op := .box (.t 0) },
  { dst := some 2, op := .mv (.c (.nilp)) }])
 (.seq (.reg false [{ dst := some 3, op := .ld (some 8) (.t 1) },
  { dst := some 4, op := .call .pure (.c (.fn 80 [] [])) [.t 3, .c (.s ⟨#[99, 111]⟩)] },
  { dst := some 2, op := .mv (.t 4) }])
 .ret)) }
def A_eco_Fr : AFun := { res := [.t 2], body := (.seq (.reg false [{ dst := some 1, op := .box (.t 0) },
  { dst := some 2, op := .mv (.c (.nilp)) }])
 (.seq (.reg false [{ dst := some 3, op := .ld (some 8) (.t 1) },
  { dst := some 4, op := .call .pure (.c (.fn 80 [] [])) [.t 3, .c (.s ⟨#[102, 114]⟩)] },
  { dst := some 2, op := .mv (.t 4) }])
 .ret)) }
def A_eco_some : AFun := { res := [.t 6], body := (.seq (.reg false [{ dst := some 3, op := .box (.t 0) },
  { dst := some 6, op := .mv (.c (.nilp)) }])
 (.seq (.reg false [{ dst := some 7, op := .mv (.c (.sl [] 0 .rig)) }])
 (.seq (.seq (.reg false [{ dst := some 10, op := .mv (.t 1) },
  { dst := some 11, op := .call .pure (.c (.fn 15 [] [])) [.t 10] },
  { dst := some 12, op := .len (.t 11) },
  { dst := some 13, op := .mv (.c (.i .i64 0)) }])
 (.blk 0 (.loop (.seq (.reg false [{ dst := some 14, op := .bin .lss (.t 13) (.t 12) }])
 (.seq (.cond (.t 14) .skip
 (.ext 0))
 (.seq (.blk 1 (.seq (.reg false [{ dst := some 15, op := .ia 2 (.t 11) (.t 13) },
  { dst := some 16, op := .ld (some 2) (.t 15) },
  { dst := some 9, op := .new ([.i .i64 0, .i .i64 0]) },
  { dst := none, op := .st 2 (.t 9) (.t 16) }])
 (.seq (.reg true [{ dst := some 17, op := .fa 0 (.t 9) },
  { dst := some 18, op := .ld none (.t 17), pre := [] },
  { dst := some 19, op := .fa 1 (.t 3) },
  { dst := some 20, op := .ld none (.t 19), pre := [] },
  { dst := some 21, op := .len (.t 20) },
  { dst := some 22, op := .bin .lss (.t 18) (.t 21) },
  { dst := some 23, op := .mv (.t 22) },
  { dst := some 24, op := .fa 1 (.t 9), grd := some (23, true) },
  { dst := some 25, op := .ld none (.t 24), grd := some (23, true), pre := [] },
  { dst := some 26, op := .fa 1 (.t 3), grd := some (23, true) },
  { dst := some 27, op := .ld none (.t 26), grd := some (23, true), pre := [] },
  { dst := some 28, op := .len (.t 27), grd := some (23, true) },
  { dst := some 29, op := .bin .lss (.t 25) (.t 28), grd := some (23, true) },
  { dst := some 30, op := .pick (.t 23) (.t 29) (.c (.b false)) },
  { dst := some 31, op := .mv (.t 30) },
  { dst := some 32, op := .mv (.t 2), grd := some (31, true) },
  { dst := some 33, op := .fa 1 (.t 3), grd := some (31, true) },
  { dst := some 34, op := .ld none (.t 33), grd := some (31, true), pre := [] },
  { dst := some 35, op := .fa 0 (.t 9), grd := some (31, true) },
  { dst := some 36, op := .ld none (.t 35), grd := some (31, true), pre := [] },
  { dst := some 37, op := .ia 6 (.t 34) (.t 36), grd := some (31, true) },
  { dst := some 38, op := .ld (some 6) (.t 37), grd := some (31, true), pre := [] },
  { dst := some 39, op := .fa 1 (.t 3), grd := some (31, true) },
  { dst := some 40, op := .ld none (.t 39), grd := some (31, true), pre := [] },
  { dst := some 41, op := .fa 1 (.t 9), grd := some (31, true) },
  { dst := some 42, op := .ld none (.t 41), grd := some (31, true), pre := [] },
  { dst := some 43, op := .ia 6 (.t 40) (.t 42), grd := some (31, true) },
  { dst := some 44, op := .ld (some 6) (.t 43), grd := some (31, true), pre := [] },
  { dst := some 45, op := .call .pure (.t 32) [.t 38, .t 44], grd := some (31, true), pre := [] },
  { dst := some 46, op := .pick (.t 31) (.t 45) (.c (.b false)) }])
 (.cond (.t 46) (.reg false [{ dst := some 47, op := .mv (.t 7) },
  { dst := some 48, op := .ld (some 2) (.t 9) },
  { dst := some 49, op := .bsl true 1 ([.i .i64 0, .i .i64 0]) [(0, 2, .t 48)] },
  { dst := some 50, op := .app 2 16 (.t 47) (.t 49) },
  { dst := some 7, op := .mv (.t 50) }])
 .skip))))
 (.reg false [{ dst := some 51, op := .bin .add (.t 13) (.c (.i .i64 1)) },
  { dst := some 13, op := .mv (.t 51) }])))))))
 (.seq (.reg false [{ dst := some 52, op := .ld (some 8) (.t 3) },
  { dst := some 53, op := .mv (.t 7) },
  { dst := some 54, op := .call .pure (.c (.fn 81 [] [])) [.t 52, .t 53] },
  { dst := some 6, op := .mv (.t 54) }])
 .ret)))) }
def A_eco_Inner_1 : AFun := { res := [.t 4], body := (.seq (.reg false [{ dst := some 2, op := .box (.t 0) },
  { dst := some 3, op := .box (.t 1) },
  { dst := some 4, op := .mv (.c (.b false)) }])
 (.seq (.reg false [{ dst := some 5, op := .fa 0 (.t 2) },
  { dst := some 6, op := .ld none (.t 5) },
  { dst := some 7, op := .fa 0 (.t 3) },
  { dst := some 8, op := .ld none (.t 7) },
  { dst := some 9, op := .bin .eql (.t 6) (.t 8) },
  { dst := some 4, op := .mv (.t 9) }])
 .ret)) }
def A_eco_Outer_1 : AFun := { res := [.t 4], body := (.seq (.reg false [{ dst := some 2, op := .box (.t 0) },
  { dst := some 3, op := .box (.t 1) },
  { dst := some 4, op := .mv (.c (.b false)) }])
 (.seq (.reg false [{ dst := some 5, op := .fa 0 (.t 2) },
  { dst := some 6, op := .ld none (.t 5) },
  { dst := some 7, op := .fa 0 (.t 3) },
  { dst := some 8, op := .ld none (.t 7) },
  { dst := some 9, op := .bin .neq (.t 6) (.t 8) },
  { dst := some 4, op := .mv (.t 9) }])
 .ret)) }
def A_eco_Loc_1 : AFun := { res := [.t 4], body := (.seq (.reg false [{ dst := some 2, op := .box (.t 0) },
  { dst := some 3, op := .box (.t 1) },
  { dst := some 4, op := .mv (.c (.b false)) }])
 (.seq (.reg false [{ dst := some 5, op := .fa 1 (.t 2) },
  { dst := some 6, op := .ld none (.t 5) },
  { dst := some 7, op := .bin .neq (.t 6) (.c (.i .i64 3)) },
  { dst := some 8, op := .mv (.t 7) },
  { dst := some 9, op := .fa 1 (.t 3), grd := some (8, true) },
  { dst := some 10, op := .ld none (.t 9), grd := some (8, true) },
  { dst := some 11, op := .bin .neq (.t 10) (.c (.i .i64 3)), grd := some (8, true) },
  { dst := some 12, op := .pick (.t 8) (.t 11) (.c (.b false)) },
  { dst := some 13, op := .mv (.t 12) },
  { dst := some 14, op := .fa 3 (.t 2), grd := some (13, true) },
  { dst := some 15, op := .ld none (.t 14), grd := some (13, true) },
  { dst := some 16, op := .fa 3 (.t 3), grd := some (13, true) },
  { dst := some 17, op := .ld none (.t 16), grd := some (13, true) },
  { dst := some 18, op := .bin .eql (.t 15) (.t 17), grd := some (13, true) },
  { dst := some 19, op := .pick (.t 13) (.t 18) (.c (.b false)) },
  { dst := some 4, op := .mv (.t 19) }])
 .ret)) }
def A_eco_pairs : AFun := { res := [.t 4], body := (.seq (.reg false [{ dst := some 2, op := .box (.t 0) },
  { dst := some 4, op := .mv (.c (.nilp)) }])
 (.seq (.reg false [{ dst := some 5, op := .new ([.sl [] 0 .rig]) }])
 (.seq (.reg false [{ dst := some 12, op := .mkfn 92 [] [.t 5] },
  { dst := some 6, op := .new ([.nilf]) },
  { dst := none, op := .st 1 (.t 6) (.t 12) }])
 (.seq (.reg false [{ dst := some 13, op := .mkfn 93 [] [.t 2, .t 6] },
  { dst := some 7, op := .new ([.nilf]) },
  { dst := none, op := .st 1 (.t 7) (.t 13) }])
 (.seq (.reg false [{ dst := some 14, op := .mkmap },
  { dst := some 15, op := .mkfn 94 [] [.t 6] },
  { dst := none, op := .mput (.t 14) (.c (.s ⟨#[114, 102]⟩)) (.t 15) },
  { dst := some 16, op := .mkfn 95 [] [.t 7] },
  { dst := none, op := .mput (.t 14) (.c (.s ⟨#[99, 111]⟩)) (.t 16) },
  { dst := some 17, op := .mkfn 96 [] [.t 7] },
  { dst := none, op := .mput (.t 14) (.c (.s ⟨#[102, 114]⟩)) (.t 17) },
  { dst := some 18, op := .mv (.t 14) },
  { dst := some 8, op := .mv (.t 18) }])
 (.seq (.seq (.reg false [{ dst := some 19, op := .fa 1 (.t 2) },
  { dst := some 20, op := .ld none (.t 19) },
  { dst := some 21, op := .len (.t 20) },
  { dst := some 22, op := .mv (.c (.i .i64 0)) }])
 (.blk 0 (.loop (.seq (.reg false [{ dst := some 23, op := .bin .lss (.t 22) (.t 21) }])
 (.seq (.cond (.t 23) .skip
 (.ext 0))
 (.seq (.blk 1 (.seq (.reg false [{ dst := some 24, op := .mv (.t 22) },
  { dst := some 25, op := .ia 6 (.t 20) (.t 22) },
  { dst := some 26, op := .ld (some 6) (.t 25) },
  { dst := some 10, op := .new (List.replicate 5 (.i .i64 0) ++ [.b false]) },
  { dst := some 9, op := .mv (.t 24) },
  { dst := none, op := .st 6 (.t 10) (.t 26) }])
 (.seq (.reg false [{ dst := some 11, op := .mv (.c (.i .i64 (-1))) }])
 (.seq (.seq (.reg false [{ dst := some 27, op := .mv (.t 9) },
  { dst := some 28, op := .fa 2 (.t 2) },
  { dst := some 29, op := .ld none (.t 28) },
  { dst := some 30, op := .len (.t 29) },
  { dst := some 31, op := .bin .lss (.t 27) (.t 30) }])
 (.cond (.t 31) (.reg false [{ dst := some 32, op := .fa 2 (.t 2) },
  { dst := some 33, op := .ld none (.t 32) },
  { dst := some 34, op := .mv (.t 9) },
  { dst := some 35, op := .ia 1 (.t 33) (.t 34) },
  { dst := some 36, op := .ld none (.t 35) },
  { dst := some 11, op := .mv (.t 36) }])
 .skip))
 (.reg false [{ dst := some 37, op := .mv (.t 8) },
  { dst := some 38, op := .mv (.t 1) },
  { dst := some 39, op := .mget (.t 37) (.t 38) },
  { dst := some 40, op := .mv (.t 9) },
  { dst := some 41, op := .mv (.t 11) },
  { dst := some 42, op := .ld (some 6) (.t 10) },
  { dst := some 43, op := .call .raw (.t 39) [.t 40, .t 41, .t 42] }])))))
 (.reg false [{ dst := some 44, op := .bin .add (.t 22) (.c (.i .i64 1)) },
  { dst := some 22, op := .mv (.t 44) }])))))))
 (.seq (.reg false [{ dst := some 45, op := .ld (some 8) (.t 2) },
  { dst := some 46, op := .ld none (.t 5) },
  { dst := some 47, op := .call .pure (.c (.fn 81 [] [])) [.t 45, .t 46] },
  { dst := some 4, op := .mv (.t 47) }])
 .ret))))))) }
def A_eco_pairs_1 : AFun := { res := [], body := (.reg false [{ dst := some 5, op := .ld none (.t 2) },
  { dst := some 6, op := .mv (.t 0) },
  { dst := some 7, op := .mv (.t 1) },
  { dst := some 8, op := .build ([.i .i64 0, .i .i64 0]) [(0, 1, .t 6), (1, 1, .t 7)] },
  { dst := some 9, op := .bsl true 1 ([.i .i64 0, .i .i64 0]) [(0, 2, .t 8)] },
  { dst := some 10, op := .app 2 16 (.t 5) (.t 9) },
  { dst := none, op := .st 1 (.t 2) (.t 10) }]) }
def A_eco_pairs_2 : AFun := { res := [], body := (.seq (.reg false [{ dst := some 11, op := .fa 3 (.t 2) },
  { dst := some 12, op := .ld none (.t 11) },
  { dst := some 13, op := .len (.t 12) },
  { dst := some 14, op := .mv (.c (.i .i64 0)) }])
 (.blk 0 (.loop (.seq (.reg false [{ dst := some 15, op := .bin .lss (.t 14) (.t 13) }])
 (.seq (.cond (.t 15) .skip
 (.ext 0))
 (.seq (.blk 1 (.seq (.reg false [{ dst := some 16, op := .ia 1 (.t 12) (.t 14) },
  { dst := some 17, op := .ld none (.t 16) },
  { dst := some 7, op := .mv (.t 17) }])
 (.seq (.reg false [{ dst := some 8, op := .mv (.c (.b false)) }])
 (.seq (.reg false [{ dst := some 18, op := .mv (.t 7) },
  { dst := some 19, op := .len (.t 18) },
  { dst := some 20, op := .mv (.c (.i .i64 0)) }])
 (.blk 2 (.loop (.seq (.reg false [{ dst := some 21, op := .bin .lss (.t 20) (.t 19) }])
 (.seq (.cond (.t 21) .skip
 (.ext 2))
 (.seq (.blk 3 (.seq (.reg false [{ dst := some 22, op := .ia 1 (.t 18) (.t 20) },
  { dst := some 23, op := .ld none (.t 22) },
  { dst := some 10, op := .mv (.t 23) }])
 (.seq (.seq (.reg false [{ dst := some 24, op := .mv (.t 8) }])
 (.cond (.t 24) (.reg false [{ dst := some 25, op := .ld none (.t 3) },
  { dst := some 26, op := .mv (.t 0) },
  { dst := some 27, op := .mv (.t 10) },
  { dst := some 28, op := .call .raw (.t 25) [.t 26, .t 27] }])
 .skip))
 (.reg false [{ dst := some 29, op := .mv (.t 8) },
  { dst := some 30, op := .mv (.t 29) },
  { dst := some 31, op := .mv (.t 10), grd := some (30, false) },
  { dst := some 32, op := .mv (.t 1), grd := some (30, false) },
  { dst := some 33, op := .bin .eql (.t 31) (.t 32), grd := some (30, false) },
  { dst := some 34, op := .pick (.t 30) (.c (.b true)) (.t 33) },
  { dst := some 8, op := .mv (.t 34) }]))))
 (.reg false [{ dst := some 35, op := .bin .add (.t 20) (.c (.i .i64 1)) },
  { dst := some 20, op := .mv (.t 35) }]))))))))))
 (.reg false [{ dst := some 36, op := .bin .add (.t 14) (.c (.i .i64 1)) },
  { dst := some 14, op := .mv (.t 36) }]))))))) }
def A_eco_pairs_3 : AFun := { res := [], body := (.seq (.reg false [{ dst := some 6, op := .box (.t 2) }])
 (.seq (.reg false [{ dst := some 7, op := .fa 1 (.t 6) },
  { dst := some 8, op := .ld none (.t 7) },
  { dst := some 9, op := .bin .eql (.t 8) (.c (.i .i64 1)) }])
 (.cond (.t 9) (.reg false [{ dst := some 10, op := .ld none (.t 3) },
  { dst := some 11, op := .mv (.t 1) },
  { dst := some 12, op := .mv (.t 0) },
  { dst := some 13, op := .call .raw (.t 10) [.t 11, .t 12] }])
 .skip))) }
def A_eco_pairs_4 : AFun := { res := [], body := (.seq (.reg false [{ dst := some 6, op := .box (.t 2) }])
 (.seq (.reg false [{ dst := some 7, op := .fa 1 (.t 6) },
  { dst := some 8, op := .ld none (.t 7) },
  { dst := some 9, op := .bin .eql (.t 8) (.c (.i .i64 2)) }])
 (.cond (.t 9) (.reg false [{ dst := some 10, op := .ld none (.t 3) },
  { dst := some 11, op := .mv (.t 0) },
  { dst := some 12, op := .mv (.t 0) },
  { dst := some 13, op := .call .raw (.t 10) [.t 11, .t 12] }])
 .skip))) }
def A_eco_pairs_5 : AFun := { res := [], body := (.seq (.reg false [{ dst := some 6, op := .box (.t 2) }])
 (.seq (.reg false [{ dst := some 7, op := .fa 1 (.t 6) },
  { dst := some 8, op := .ld none (.t 7) },
  { dst := some 9, op := .bin .eql (.t 8) (.c (.i .i64 1)) }])
 (.cond (.t 9) (.reg false [{ dst := some 10, op := .ld none (.t 3) },
  { dst := some 11, op := .mv (.t 0) },
  { dst := some 12, op := .mv (.t 1) },
  { dst := some 13, op := .call .raw (.t 10) [.t 11, .t 12] }])
 .skip))) }
structure Pk_eco (F : Funs) : Prop where
  eco_Inner : F 39 = some A_eco_Inner
  eco_Outer : F 40 = some A_eco_Outer
  eco_Loc : F 41 = some A_eco_Loc
  eco_Eco : F 42 = some A_eco_Eco
  eco_Rf : F 48 = some A_eco_Rf
  eco_Co : F 49 = some A_eco_Co
  eco_Fr : F 50 = some A_eco_Fr
  eco_some : F 57 = some A_eco_some
  eco_Inner_1 : F 58 = some A_eco_Inner_1
  eco_Outer_1 : F 59 = some A_eco_Outer_1
  eco_Loc_1 : F 61 = some A_eco_Loc_1
  eco_pairs : F 80 = some A_eco_pairs
  eco_pairs_1 : F 92 = some A_eco_pairs_1
  eco_pairs_2 : F 93 = some A_eco_pairs_2
  eco_pairs_3 : F 94 = some A_eco_pairs_3
  eco_pairs_4 : F 95 = some A_eco_pairs_4
  eco_pairs_5 : F 96 = some A_eco_pairs_5
end Go.Ab
end
section
/- Resolved functions of package graph, written by a program (res.py). -/
namespace Go.Ab
def A_graph_Po : AFun := { res := [.t 2], body := (.seq (.reg false [{ dst := some 1, op := .box (.t 0) },
  { dst := some 2, op := .mv (.c (.nilp)) }])
 (.seq (.reg false [{ dst := some 3, op := .mv (.c (.sl [] 0 .rig)) }])
 (.seq (.seq (.reg false [{ dst := some 8, op := .fa 1 (.t 1) },
  { dst := some 9, op := .ld none (.t 8) },
  { dst := some 10, op := .len (.t 9) },
  { dst := some 11, op := .mv (.c (.i .i64 0)) }])
 (.blk 0 (.loop (.seq (.reg false [{ dst := some 12, op := .bin .lss (.t 11) (.t 10) }])
 (.seq (.cond (.t 12) .skip
 (.ext 0))
 (.seq (.blk 1 (.seq (.reg false [{ dst := some 13, op := .mv (.t 11) },
  { dst := some 14, op := .ia 6 (.t 9) (.t 11) },
  { dst := some 15, op := .ld (some 6) (.t 14) },
  { dst := some 5, op := .new (List.replicate 5 (.i .i64 0) ++ [.b false]) },
  { dst := some 4, op := .mv (.t 13) },
  { dst := none, op := .st 6 (.t 5) (.t 15) }])
 (.seq (.reg false [{ dst := some 16, op := .fa 1 (.t 1) },
  { dst := some 17, op := .ld none (.t 16) },
  { dst := some 18, op := .len (.t 17) },
  { dst := some 19, op := .mv (.c (.i .i64 0)) }])
 (.blk 2 (.loop (.seq (.reg false [{ dst := some 20, op := .bin .lss (.t 19) (.t 18) }])
 (.seq (.cond (.t 20) .skip
 (.ext 2))
 (.seq (.blk 3 (.seq (.reg false [{ dst := some 21, op := .mv (.t 19) },
  { dst := some 22, op := .ia 6 (.t 17) (.t 19) },
  { dst := some 23, op := .ld (some 6) (.t 22) },
  { dst := some 7, op := .new (List.replicate 5 (.i .i64 0) ++ [.b false]) },
  { dst := some 6, op := .mv (.t 21) },
  { dst := none, op := .st 6 (.t 7) (.t 23) }])
 (.seq (.reg false [{ dst := some 24, op := .fa 0 (.t 5) },
  { dst := some 25, op := .ld none (.t 24) },
  { dst := some 26, op := .bin .eql (.t 25) (.c (.i .i64 0)) },
  { dst := some 27, op := .mv (.t 26) },
  { dst := some 28, op := .fa 0 (.t 7), grd := some (27, true) },
  { dst := some 29, op := .ld none (.t 28), grd := some (27, true) },
  { dst := some 30, op := .bin .neq (.t 29) (.c (.i .i64 0)), grd := some (27, true) },
  { dst := some 31, op := .pick (.t 27) (.t 30) (.c (.b false)) },
  { dst := some 32, op := .mv (.t 31) },
  { dst := some 33, op := .fa 0 (.t 5), grd := some (32, false) },
  { dst := some 34, op := .ld none (.t 33), grd := some (32, false) },
  { dst := some 35, op := .fa 0 (.t 7), grd := some (32, false) },
  { dst := some 36, op := .ld none (.t 35), grd := some (32, false) },
  { dst := some 37, op := .bin .eql (.t 34) (.t 36), grd := some (32, false) },
  { dst := some 38, op := .mv (.t 37), grd := some (32, false) },
  { dst := some 39, op := .fa 0 (.t 5), grd := some (38, true) },
  { dst := some 40, op := .ld none (.t 39), grd := some (38, true) },
  { dst := some 41, op := .bin .neq (.t 40) (.c (.i .i64 0)), grd := some (38, true) },
  { dst := some 42, op := .pick (.t 38) (.t 41) (.c (.b false)), grd := some (32, false) },
  { dst := some 43, op := .mv (.t 42), grd := some (32, false) },
  { dst := some 44, op := .mv (.t 4), grd := some (43, true) },
  { dst := some 45, op := .mv (.t 6), grd := some (43, true) },
  { dst := some 46, op := .bin .lss (.t 44) (.t 45), grd := some (43, true) },
  { dst := some 47, op := .pick (.t 43) (.t 46) (.c (.b false)), grd := some (32, false) },
  { dst := some 48, op := .pick (.t 32) (.c (.b true)) (.t 47) }])
 (.cond (.t 48) (.reg false [{ dst := some 49, op := .mv (.t 3) },
  { dst := some 50, op := .mv (.t 4) },
  { dst := some 51, op := .mv (.t 6) },
  { dst := some 52, op := .build ([.i .i64 0, .i .i64 0]) [(0, 1, .t 50), (1, 1, .t 51)] },
  { dst := some 53, op := .bsl true 1 ([.i .i64 0, .i .i64 0]) [(0, 2, .t 52)] },
  { dst := some 54, op := .app 2 16 (.t 49) (.t 53) },
  { dst := some 3, op := .mv (.t 54) }])
 .skip))))
 (.reg false [{ dst := some 55, op := .bin .add (.t 19) (.c (.i .i64 1)) },
  { dst := some 19, op := .mv (.t 55) }])))))))))
 (.reg false [{ dst := some 56, op := .bin .add (.t 11) (.c (.i .i64 1)) },
  { dst := some 11, op := .mv (.t 56) }])))))))
 (.seq (.reg false [{ dst := some 57, op := .ld (some 8) (.t 1) },
  { dst := some 58, op := .mv (.t 3) },
  { dst := some 59, op := .call .pure (.c (.fn 81 [] [])) [.t 57, .t 58] },
  { dst := some 2, op := .mv (.t 59) }])
 .ret)))) }
def A_graph_Of : AFun := { res := [.t 4], body := (.seq (.reg false [{ dst := some 2, op := .box (.t 0) },
  { dst := some 4, op := .mv (.c (.nilp)) }])
 (.seq (.reg false [{ dst := some 5, op := .fa 1 (.t 2) },
  { dst := some 6, op := .ld none (.t 5) },
  { dst := some 7, op := .len (.t 6) },
  { dst := some 8, op := .mv (.t 1) },
  { dst := some 9, op := .call .pure (.c (.fn 11 [] [])) [.t 7, .t 8] },
  { dst := some 4, op := .mv (.t 9) }])
 .ret)) }
def A_graph_Check : AFun := { res := [.t 2], body := (.seq (.reg false [{ dst := some 1, op := .box (.t 0) },
  { dst := some 2, op := .mv (.c (.b false)) }])
 (.seq (.seq (.reg false [{ dst := some 4, op := .fa 0 (.t 1) },
  { dst := some 5, op := .ld none (.t 4) },
  { dst := some 6, op := .bin .lss (.t 5) (.c (.i .i64 1)) },
  { dst := some 7, op := .mv (.t 6) },
  { dst := some 8, op := .fa 0 (.t 1), grd := some (7, false) },
  { dst := some 9, op := .ld none (.t 8), grd := some (7, false) },
  { dst := some 10, op := .bin .gtr (.t 9) (.c (.i .i64 4)), grd := some (7, false) },
  { dst := some 11, op := .pick (.t 7) (.c (.b true)) (.t 10) },
  { dst := some 12, op := .mv (.t 11) },
  { dst := some 13, op := .fa 1 (.t 1), grd := some (12, false) },
  { dst := some 14, op := .ld none (.t 13), grd := some (12, false) },
  { dst := some 15, op := .len (.t 14), grd := some (12, false) },
  { dst := some 16, op := .bin .gtr (.t 15) (.c (.i .i64 40)), grd := some (12, false) },
  { dst := some 17, op := .pick (.t 12) (.c (.b true)) (.t 16) },
  { dst := some 18, op := .mv (.t 17) },
  { dst := some 19, op := .fa 1 (.t 1), grd := some (18, false) },
  { dst := some 20, op := .ld none (.t 19), grd := some (18, false) },
  { dst := some 21, op := .len (.t 20), grd := some (18, false) },
  { dst := some 22, op := .fa 0 (.t 1), grd := some (18, false) },
  { dst := some 23, op := .ld none (.t 22), grd := some (18, false) },
  { dst := some 24, op := .bin .lss (.t 21) (.t 23), grd := some (18, false) },
  { dst := some 25, op := .pick (.t 18) (.c (.b true)) (.t 24) },
  { dst := some 26, op := .mv (.t 25) },
  { dst := some 27, op := .ld (some 8) (.t 1), grd := some (26, false) },
  { dst := some 28, op := .call .pure (.c (.fn 186 [] [])) [.t 27], grd := some (26, false) },
  { dst := some 29, op := .un .not (.t 28), grd := some (26, false) },
  { dst := some 30, op := .pick (.t 26) (.c (.b true)) (.t 29) },
  { dst := some 31, op := .mv (.t 30) },
  { dst := some 32, op := .ld (some 8) (.t 1), grd := some (31, false) },
  { dst := some 33, op := .call .pure (.c (.fn 187 [] [])) [.t 32], grd := some (31, false) },
  { dst := some 34, op := .un .not (.t 33), grd := some (31, false) },
  { dst := some 35, op := .pick (.t 31) (.c (.b true)) (.t 34) },
  { dst := some 36, op := .mv (.t 35) },
  { dst := some 37, op := .ld (some 8) (.t 1), grd := some (36, false) },
  { dst := some 38, op := .call .pure (.c (.fn 188 [] [])) [.t 37], grd := some (36, false) },
  { dst := some 39, op := .un .not (.t 38), grd := some (36, false) },
  { dst := some 40, op := .pick (.t 36) (.c (.b true)) (.t 39) },
  { dst := some 41, op := .mv (.t 40) },
  { dst := some 42, op := .ld (some 8) (.t 1), grd := some (41, false) },
  { dst := some 43, op := .call .pure (.c (.fn 189 [] [])) [.t 42], grd := some (41, false) },
  { dst := some 44, op := .un .not (.t 43), grd := some (41, false) },
  { dst := some 45, op := .pick (.t 41) (.c (.b true)) (.t 44) },
  { dst := some 46, op := .mv (.t 45) },
  { dst := some 47, op := .ld (some 8) (.t 1), grd := some (46, false) },
  { dst := some 48, op := .call .pure (.c (.fn 190 [] [])) [.t 47], grd := some (46, false) },
  { dst := some 49, op := .un .not (.t 48), grd := some (46, false) },
  { dst := some 50, op := .pick (.t 46) (.c (.b true)) (.t 49) }])
 (.cond (.t 50) (.seq (.reg false [{ dst := some 2, op := .mv (.c (.b false)) }])
 .ret)
 .skip))
 (.seq (.reg false [{ dst := some 3, op := .mv (.c (.fn 191 [] [])) }])
 (.seq (.reg false [{ dst := some 51, op := .ld (some 8) (.t 1) },
  { dst := some 52, op := .fa 5 (.t 1) },
  { dst := some 53, op := .ld none (.t 52) },
  { dst := some 54, op := .mv (.t 3) },
  { dst := some 55, op := .call .pure (.c (.fn 192 [] [])) [.t 51, .t 53, .t 54] },
  { dst := some 56, op := .mv (.t 55) },
  { dst := some 57, op := .ld (some 8) (.t 1), grd := some (56, true) },
  { dst := some 58, op := .fa 6 (.t 1), grd := some (56, true) },
  { dst := some 59, op := .ld none (.t 58), grd := some (56, true) },
  { dst := some 60, op := .mv (.t 3), grd := some (56, true) },
  { dst := some 61, op := .call .pure (.c (.fn 192 [] [])) [.t 57, .t 59, .t 60], grd := some (56, true) },
  { dst := some 62, op := .pick (.t 56) (.t 61) (.c (.b false)) },
  { dst := some 63, op := .mv (.t 62) },
  { dst := some 64, op := .ld (some 8) (.t 1), grd := some (63, true) },
  { dst := some 65, op := .fa 7 (.t 1), grd := some (63, true) },
  { dst := some 66, op := .ld none (.t 65), grd := some (63, true) },
  { dst := some 67, op := .mv (.t 3), grd := some (63, true) },
  { dst := some 68, op := .call .pure (.c (.fn 192 [] [])) [.t 64, .t 66, .t 67], grd := some (63, true) },
  { dst := some 69, op := .pick (.t 63) (.t 68) (.c (.b false)) },
  { dst := some 2, op := .mv (.t 69) }])
 .ret)))) }
def A_graph_Set : AFun := { res := [.t 4], body := (.seq (.reg false [{ dst := some 2, op := .box (.t 0) },
  { dst := some 4, op := .mv (.c (.nilp)) }])
 (.seq (.reg false [{ dst := some 5, op := .mv (.c (.sl [] 0 .rig)) }])
 (.seq (.reg false [{ dst := some 9, op := .mv (.t 1) },
  { dst := some 10, op := .build ([.nilf]) [(0, 1, .t 9)] },
  { dst := some 6, op := .new ([.nilf]) },
  { dst := none, op := .st 1 (.t 6) (.t 10) }])
 (.seq (.seq (.reg false [{ dst := some 11, op := .fa 1 (.t 2) },
  { dst := some 12, op := .ld none (.t 11) },
  { dst := some 13, op := .len (.t 12) },
  { dst := some 14, op := .mv (.c (.i .i64 0)) }])
 (.blk 0 (.loop (.seq (.reg false [{ dst := some 15, op := .bin .lss (.t 14) (.t 13) }])
 (.seq (.cond (.t 15) .skip
 (.ext 0))
 (.seq (.blk 1 (.seq (.reg false [{ dst := some 16, op := .mv (.t 14) },
  { dst := some 17, op := .ia 6 (.t 12) (.t 14) },
  { dst := some 18, op := .ld (some 6) (.t 17) },
  { dst := some 8, op := .new (List.replicate 5 (.i .i64 0) ++ [.b false]) },
  { dst := some 7, op := .mv (.t 16) },
  { dst := none, op := .st 6 (.t 8) (.t 18) }])
 (.seq (.reg false [{ dst := some 19, op := .fa 0 (.t 6) },
  { dst := some 20, op := .ld none (.t 19) },
  { dst := some 21, op := .ld (some 6) (.t 8) },
  { dst := some 22, op := .call .pure (.t 20) [.t 21] }])
 (.cond (.t 22) (.reg false [{ dst := some 23, op := .mv (.t 5) },
  { dst := some 24, op := .mv (.t 7) },
  { dst := some 25, op := .mv (.t 7) },
  { dst := some 26, op := .build ([.i .i64 0, .i .i64 0]) [(0, 1, .t 24), (1, 1, .t 25)] },
  { dst := some 27, op := .bsl true 1 ([.i .i64 0, .i .i64 0]) [(0, 2, .t 26)] },
  { dst := some 28, op := .app 2 16 (.t 23) (.t 27) },
  { dst := some 5, op := .mv (.t 28) }])
 .skip))))
 (.reg false [{ dst := some 29, op := .bin .add (.t 14) (.c (.i .i64 1)) },
  { dst := some 14, op := .mv (.t 29) }])))))))
 (.seq (.reg false [{ dst := some 30, op := .ld (some 8) (.t 2) },
  { dst := some 31, op := .mv (.t 5) },
  { dst := some 32, op := .call .pure (.c (.fn 81 [] [])) [.t 30, .t 31] },
  { dst := some 4, op := .mv (.t 32) }])
 .ret))))) }
def A_graph_first : AFun := { res := [.t 2], body := (.seq (.reg false [{ dst := some 1, op := .box (.t 0) },
  { dst := some 2, op := .mv (.c (.b false)) }])
 (.seq (.seq (.reg false [{ dst := some 4, op := .fa 0 (.t 1) },
  { dst := some 5, op := .ld none (.t 4) },
  { dst := some 6, op := .mv (.c (.i .i64 0)) }])
 (.blk 0 (.loop (.seq (.reg false [{ dst := some 7, op := .bin .lss (.t 6) (.t 5) }])
 (.seq (.cond (.t 7) .skip
 (.ext 0))
 (.seq (.blk 1 (.seq (.reg false [{ dst := some 8, op := .mv (.t 6) },
  { dst := some 3, op := .mv (.t 8) }])
 (.seq (.reg false [{ dst := some 9, op := .fa 1 (.t 1) },
  { dst := some 10, op := .ld none (.t 9) },
  { dst := some 11, op := .mv (.t 3) },
  { dst := some 12, op := .ia 6 (.t 10) (.t 11) },
  { dst := some 13, op := .ld (some 6) (.t 12) },
  { dst := some 14, op := .mv (.t 3) },
  { dst := some 15, op := .build (List.replicate 5 (.i .i64 0) ++ [.b false]) [(1, 1, .c (.i .i64 2)), (3, 1, .t 14)] },
  { dst := some 16, op := .eqa true [0, 0, 0, 0, 0, 1] (.t 13) (.t 15) }])
 (.cond (.t 16) (.seq (.reg false [{ dst := some 2, op := .mv (.c (.b false)) }])
 .ret)
 .skip))))
 (.reg false [{ dst := some 17, op := .bin .add (.t 6) (.c (.i .i64 1)) },
  { dst := some 6, op := .mv (.t 17) }])))))))
 (.seq (.reg false [{ dst := some 2, op := .mv (.c (.b true)) }])
 .ret))) }
def A_graph_threads : AFun := { res := [.t 2], body := (.seq (.reg false [{ dst := some 1, op := .box (.t 0) },
  { dst := some 2, op := .mv (.c (.b false)) }])
 (.seq (.reg false [{ dst := some 3, op := .mv (.c (.i .i64 1)) }])
 (.seq (.seq (.reg false [{ dst := some 6, op := .fa 1 (.t 1) },
  { dst := some 7, op := .ld none (.t 6) },
  { dst := some 8, op := .fa 0 (.t 1) },
  { dst := some 9, op := .ld none (.t 8) },
  { dst := some 10, op := .slice 6 (.t 7) (some (.t 9)) none none },
  { dst := some 11, op := .len (.t 10) },
  { dst := some 12, op := .mv (.c (.i .i64 0)) }])
 (.blk 0 (.loop (.seq (.reg false [{ dst := some 13, op := .bin .lss (.t 12) (.t 11) }])
 (.seq (.cond (.t 13) .skip
 (.ext 0))
 (.seq (.blk 1 (.seq (.reg false [{ dst := some 14, op := .ia 6 (.t 10) (.t 12) },
  { dst := some 15, op := .ld (some 6) (.t 14) },
  { dst := some 5, op := .new (List.replicate 5 (.i .i64 0) ++ [.b false]) },
  { dst := none, op := .st 6 (.t 5) (.t 15) }])
 (.seq (.seq (.reg false [{ dst := some 16, op := .fa 0 (.t 5) },
  { dst := some 17, op := .ld none (.t 16) },
  { dst := some 18, op := .mv (.t 3) },
  { dst := some 19, op := .bin .lss (.t 17) (.t 18) },
  { dst := some 20, op := .mv (.t 19) },
  { dst := some 21, op := .fa 0 (.t 5), grd := some (20, false) },
  { dst := some 22, op := .ld none (.t 21), grd := some (20, false) },
  { dst := some 23, op := .bin .gtr (.t 22) (.c (.i .i64 4)), grd := some (20, false) },
  { dst := some 24, op := .pick (.t 20) (.c (.b true)) (.t 23) },
  { dst := some 25, op := .mv (.t 24) },
  { dst := some 26, op := .ld (some 6) (.t 5), grd := some (25, false) },
  { dst := some 27, op := .fa 0 (.t 1), grd := some (25, false) },
  { dst := some 28, op := .ld none (.t 27), grd := some (25, false) },
  { dst := some 29, op := .call .pure (.c (.fn 236 [] [])) [.t 26, .t 28], grd := some (25, false) },
  { dst := some 30, op := .un .not (.t 29), grd := some (25, false) },
  { dst := some 31, op := .pick (.t 25) (.c (.b true)) (.t 30) }])
 (.cond (.t 31) (.seq (.reg false [{ dst := some 2, op := .mv (.c (.b false)) }])
 .ret)
 .skip))
 (.reg false [{ dst := some 32, op := .fa 0 (.t 5) },
  { dst := some 33, op := .ld none (.t 32) },
  { dst := some 3, op := .mv (.t 33) }]))))
 (.reg false [{ dst := some 34, op := .bin .add (.t 12) (.c (.i .i64 1)) },
  { dst := some 12, op := .mv (.t 34) }])))))))
 (.seq (.reg false [{ dst := some 2, op := .mv (.c (.b true)) }])
 .ret)))) }
def A_graph_rf : AFun := { res := [.t 2], body := (.seq (.reg false [{ dst := some 1, op := .box (.t 0) },
  { dst := some 2, op := .mv (.c (.b false)) }])
 (.seq (.seq (.reg false [{ dst := some 6, op := .fa 2 (.t 1) },
  { dst := some 7, op := .ld none (.t 6) },
  { dst := some 8, op := .len (.t 7) },
  { dst := some 9, op := .fa 1 (.t 1) },
  { dst := some 10, op := .ld none (.t 9) },
  { dst := some 11, op := .len (.t 10) },
  { dst := some 12, op := .bin .neq (.t 8) (.t 11) }])
 (.cond (.t 12) (.seq (.reg false [{ dst := some 2, op := .mv (.c (.b false)) }])
 .ret)
 .skip))
 (.seq (.seq (.reg false [{ dst := some 13, op := .fa 1 (.t 1) },
  { dst := some 14, op := .ld none (.t 13) },
  { dst := some 15, op := .len (.t 14) },
  { dst := some 16, op := .mv (.c (.i .i64 0)) }])
 (.blk 0 (.loop (.seq (.reg false [{ dst := some 17, op := .bin .lss (.t 16) (.t 15) }])
 (.seq (.cond (.t 17) .skip
 (.ext 0))
 (.seq (.blk 1 (.seq (.reg false [{ dst := some 18, op := .mv (.t 16) },
  { dst := some 19, op := .ia 6 (.t 14) (.t 16) },
  { dst := some 20, op := .ld (some 6) (.t 19) },
  { dst := some 4, op := .new (List.replicate 5 (.i .i64 0) ++ [.b false]) },
  { dst := some 3, op := .mv (.t 18) },
  { dst := none, op := .st 6 (.t 4) (.t 20) }])
 (.seq (.reg false [{ dst := some 21, op := .fa 2 (.t 1) },
  { dst := some 22, op := .ld none (.t 21) },
  { dst := some 23, op := .mv (.t 3) },
  { dst := some 24, op := .ia 1 (.t 22) (.t 23) },
  { dst := some 25, op := .ld none (.t 24) },
  { dst := some 5, op := .mv (.t 25) }])
 (.blk 2 (.seq (.reg false [{ dst := some 27, op := .fa 1 (.t 4) },
  { dst := some 28, op := .ld none (.t 27) },
  { dst := some 29, op := .bin .neq (.t 28) (.c (.i .i64 1)) },
  { dst := some 30, op := .mv (.t 29) },
  { dst := some 31, op := .mv (.t 5), grd := some (30, true) },
  { dst := some 32, op := .bin .neq (.t 31) (.c (.i .i64 (-1))), grd := some (30, true) },
  { dst := some 33, op := .pick (.t 30) (.t 32) (.c (.b false)) },
  { dst := some 26, op := .mv (.t 33) }])
 (.cond (.t 26) (.seq (.reg false [{ dst := some 2, op := .mv (.c (.b false)) }])
 .ret)
 (.seq (.reg true [{ dst := some 35, op := .fa 1 (.t 4) },
  { dst := some 36, op := .ld none (.t 35), pre := [] },
  { dst := some 37, op := .bin .eql (.t 36) (.c (.i .i64 1)) },
  { dst := some 38, op := .mv (.t 37) },
  { dst := some 39, op := .ld (some 8) (.t 1), grd := some (38, true), pre := [] },
  { dst := some 40, op := .mv (.t 5), grd := some (38, true) },
  { dst := some 41, op := .fa 3 (.t 4), grd := some (38, true) },
  { dst := some 42, op := .ld none (.t 41), grd := some (38, true), pre := [] },
  { dst := some 43, op := .call .pure (.c (.fn 237 [] [])) [.t 39, .t 40, .t 42], grd := some (38, true), pre := [] },
  { dst := some 44, op := .un .not (.t 43), grd := some (38, true) },
  { dst := some 45, op := .mv (.t 44), grd := some (38, true) },
  { dst := some 46, op := .fa 1 (.t 1), grd := some (45, false) },
  { dst := some 47, op := .ld none (.t 46), grd := some (45, false), pre := [] },
  { dst := some 48, op := .mv (.t 5), grd := some (45, false) },
  { dst := some 49, op := .ia 6 (.t 47) (.t 48), grd := some (45, false) },
  { dst := some 50, op := .fa 4 (.t 49), grd := some (45, false) },
  { dst := some 51, op := .ld none (.t 50), grd := some (45, false), pre := [] },
  { dst := some 52, op := .fa 4 (.t 4), grd := some (45, false) },
  { dst := some 53, op := .ld none (.t 52), grd := some (45, false), pre := [] },
  { dst := some 54, op := .bin .neq (.t 51) (.t 53), grd := some (45, false) },
  { dst := some 55, op := .pick (.t 45) (.c (.b true)) (.t 54), grd := some (38, true) },
  { dst := some 56, op := .pick (.t 38) (.t 55) (.c (.b false)) },
  { dst := some 34, op := .mv (.t 56) }])
 (.cond (.t 34) (.seq (.reg false [{ dst := some 2, op := .mv (.c (.b false)) }])
 .ret)
 .skip))))))))
 (.reg false [{ dst := some 57, op := .bin .add (.t 16) (.c (.i .i64 1)) },
  { dst := some 16, op := .mv (.t 57) }])))))))
 (.seq (.reg false [{ dst := some 2, op := .mv (.c (.b true)) }])
 .ret)))) }
def A_graph_co : AFun := { res := [.t 2], body := (.seq (.reg false [{ dst := some 1, op := .box (.t 0) },
  { dst := some 2, op := .mv (.c (.b false)) }])
 (.seq (.seq (.reg false [{ dst := some 11, op := .fa 3 (.t 1) },
  { dst := some 12, op := .ld none (.t 11) },
  { dst := some 13, op := .len (.t 12) },
  { dst := some 14, op := .fa 0 (.t 1) },
  { dst := some 15, op := .ld none (.t 14) },
  { dst := some 16, op := .bin .neq (.t 13) (.t 15) }])
 (.cond (.t 16) (.seq (.reg false [{ dst := some 2, op := .mv (.c (.b false)) }])
 .ret)
 .skip))
 (.seq (.reg false [{ dst := some 3, op := .mv (.c (.i .i64 0)) }])
 (.seq (.reg false [{ dst := some 4, op := .new (List.replicate 40 (.b false)) }])
 (.seq (.seq (.reg false [{ dst := some 17, op := .fa 3 (.t 1) },
  { dst := some 18, op := .ld none (.t 17) },
  { dst := some 19, op := .len (.t 18) },
  { dst := some 20, op := .mv (.c (.i .i64 0)) }])
 (.blk 0 (.loop (.seq (.reg false [{ dst := some 21, op := .bin .lss (.t 20) (.t 19) }])
 (.seq (.cond (.t 21) .skip
 (.ext 0))
 (.seq (.blk 1 (.seq (.reg false [{ dst := some 22, op := .mv (.t 20) },
  { dst := some 23, op := .ia 1 (.t 18) (.t 20) },
  { dst := some 24, op := .ld none (.t 23) },
  { dst := some 5, op := .mv (.t 22) },
  { dst := some 6, op := .mv (.t 24) }])
 (.seq (.seq (.reg false [{ dst := some 25, op := .mv (.t 6) },
  { dst := some 26, op := .len (.t 25) },
  { dst := some 27, op := .bin .eql (.t 26) (.c (.i .i64 0)) },
  { dst := some 28, op := .mv (.t 27) },
  { dst := some 29, op := .mv (.t 6), grd := some (28, false) },
  { dst := some 30, op := .ia 1 (.t 29) (.c (.i .i64 0)), grd := some (28, false) },
  { dst := some 31, op := .ld none (.t 30), grd := some (28, false) },
  { dst := some 32, op := .mv (.t 5), grd := some (28, false) },
  { dst := some 33, op := .bin .neq (.t 31) (.t 32), grd := some (28, false) },
  { dst := some 34, op := .pick (.t 28) (.c (.b true)) (.t 33) }])
 (.cond (.t 34) (.seq (.reg false [{ dst := some 2, op := .mv (.c (.b false)) }])
 .ret)
 .skip))
 (.seq (.reg false [{ dst := some 35, op := .mv (.t 6) },
  { dst := some 36, op := .len (.t 35) },
  { dst := some 37, op := .mv (.c (.i .i64 0)) }])
 (.blk 2 (.loop (.seq (.reg false [{ dst := some 38, op := .bin .lss (.t 37) (.t 36) }])
 (.seq (.cond (.t 38) .skip
 (.ext 2))
 (.seq (.blk 3 (.seq (.reg false [{ dst := some 39, op := .ia 1 (.t 35) (.t 37) },
  { dst := some 40, op := .ld none (.t 39) },
  { dst := some 8, op := .mv (.t 40) }])
 (.seq (.seq (.reg false [{ dst := some 41, op := .ld (some 8) (.t 1) },
  { dst := some 42, op := .mv (.t 8) },
  { dst := some 43, op := .mv (.t 5) },
  { dst := some 44, op := .call .pure (.c (.fn 237 [] [])) [.t 41, .t 42, .t 43] },
  { dst := some 45, op := .un .not (.t 44) },
  { dst := some 46, op := .mv (.t 45) },
  { dst := some 47, op := .mv (.t 8), grd := some (46, false) },
  { dst := some 48, op := .iaa 40 1 (.t 4) (.t 47), grd := some (46, false) },
  { dst := some 49, op := .ld none (.t 48), grd := some (46, false) },
  { dst := some 50, op := .pick (.t 46) (.c (.b true)) (.t 49) }])
 (.cond (.t 50) (.seq (.reg false [{ dst := some 2, op := .mv (.c (.b false)) }])
 .ret)
 .skip))
 (.seq (.reg false [{ dst := some 51, op := .mv (.t 8) },
  { dst := some 52, op := .iaa 40 1 (.t 4) (.t 51) },
  { dst := none, op := .st 1 (.t 52) (.c (.b true)) }])
 (.reg false [{ dst := some 53, op := .mv (.t 3) },
  { dst := some 54, op := .bin .add (.t 53) (.c (.i .i64 1)) },
  { dst := some 3, op := .mv (.t 54) }])))))
 (.reg false [{ dst := some 55, op := .bin .add (.t 37) (.c (.i .i64 1)) },
  { dst := some 37, op := .mv (.t 55) }]))))))))))
 (.reg false [{ dst := some 56, op := .bin .add (.t 20) (.c (.i .i64 1)) },
  { dst := some 20, op := .mv (.t 56) }])))))))
 (.seq (.seq (.reg false [{ dst := some 57, op := .fa 1 (.t 1) },
  { dst := some 58, op := .ld none (.t 57) },
  { dst := some 59, op := .len (.t 58) },
  { dst := some 60, op := .mv (.c (.i .i64 0)) }])
 (.blk 4 (.loop (.seq (.reg false [{ dst := some 61, op := .bin .lss (.t 60) (.t 59) }])
 (.seq (.cond (.t 61) .skip
 (.ext 4))
 (.seq (.blk 5 (.seq (.reg false [{ dst := some 62, op := .ia 6 (.t 58) (.t 60) },
  { dst := some 63, op := .ld (some 6) (.t 62) },
  { dst := some 10, op := .new (List.replicate 5 (.i .i64 0) ++ [.b false]) },
  { dst := none, op := .st 6 (.t 10) (.t 63) }])
 (.seq (.reg false [{ dst := some 64, op := .fa 1 (.t 10) },
  { dst := some 65, op := .ld none (.t 64) },
  { dst := some 66, op := .bin .eql (.t 65) (.c (.i .i64 2)) }])
 (.cond (.t 66) (.reg false [{ dst := some 67, op := .mv (.t 3) },
  { dst := some 68, op := .bin .sub (.t 67) (.c (.i .i64 1)) },
  { dst := some 3, op := .mv (.t 68) }])
 .skip))))
 (.reg false [{ dst := some 69, op := .bin .add (.t 60) (.c (.i .i64 1)) },
  { dst := some 60, op := .mv (.t 69) }])))))))
 (.seq (.reg false [{ dst := some 70, op := .mv (.t 3) },
  { dst := some 71, op := .bin .eql (.t 70) (.c (.i .i64 0)) },
  { dst := some 2, op := .mv (.t 71) }])
 .ret))))))) }
def A_graph_rmw : AFun := { res := [.t 2], body := (.seq (.reg false [{ dst := some 1, op := .box (.t 0) },
  { dst := some 2, op := .mv (.c (.b false)) }])
 (.seq (.reg false [{ dst := some 3, op := .mv (.c (.fn 238 [] [])) }])
 (.seq (.seq (.reg false [{ dst := some 10, op := .ld (some 8) (.t 1) },
  { dst := some 11, op := .fa 4 (.t 1) },
  { dst := some 12, op := .ld none (.t 11) },
  { dst := some 13, op := .mv (.t 3) },
  { dst := some 14, op := .call .pure (.c (.fn 192 [] [])) [.t 10, .t 12, .t 13] },
  { dst := some 15, op := .un .not (.t 14) }])
 (.cond (.t 15) (.seq (.reg false [{ dst := some 2, op := .mv (.c (.b false)) }])
 .ret)
 .skip))
 (.seq (.reg false [{ dst := some 4, op := .mv (.c (.i .i64 0)) }])
 (.seq (.seq (.reg false [{ dst := some 16, op := .fa 1 (.t 1) },
  { dst := some 17, op := .ld none (.t 16) },
  { dst := some 18, op := .len (.t 17) },
  { dst := some 19, op := .mv (.c (.i .i64 0)) }])
 (.blk 0 (.loop (.seq (.reg false [{ dst := some 20, op := .bin .lss (.t 19) (.t 18) }])
 (.seq (.cond (.t 20) .skip
 (.ext 0))
 (.seq (.blk 1 (.seq (.reg false [{ dst := some 21, op := .ia 6 (.t 17) (.t 19) },
  { dst := some 22, op := .ld (some 6) (.t 21) },
  { dst := some 6, op := .new (List.replicate 5 (.i .i64 0) ++ [.b false]) },
  { dst := none, op := .st 6 (.t 6) (.t 22) }])
 (.seq (.reg false [{ dst := some 23, op := .fa 5 (.t 6) },
  { dst := some 24, op := .ld none (.t 23) }])
 (.cond (.t 24) (.reg false [{ dst := some 25, op := .mv (.t 4) },
  { dst := some 26, op := .bin .add (.t 25) (.c (.i .i64 1)) },
  { dst := some 4, op := .mv (.t 26) }])
 .skip))))
 (.reg false [{ dst := some 27, op := .bin .add (.t 19) (.c (.i .i64 1)) },
  { dst := some 19, op := .mv (.t 27) }])))))))
 (.seq (.reg false [{ dst := some 7, op := .mv (.c (.i .i64 (-1))) }])
 (.seq (.seq (.reg false [{ dst := some 28, op := .fa 4 (.t 1) },
  { dst := some 29, op := .ld none (.t 28) },
  { dst := some 30, op := .len (.t 29) },
  { dst := some 31, op := .mv (.c (.i .i64 0)) }])
 (.blk 2 (.loop (.seq (.reg false [{ dst := some 32, op := .bin .lss (.t 31) (.t 30) }])
 (.seq (.cond (.t 32) .skip
 (.ext 2))
 (.seq (.blk 3 (.seq (.reg false [{ dst := some 33, op := .ia 2 (.t 29) (.t 31) },
  { dst := some 34, op := .ld (some 2) (.t 33) },
  { dst := some 9, op := .new ([.i .i64 0, .i .i64 0]) },
  { dst := none, op := .st 2 (.t 9) (.t 34) }])
 (.seq (.seq (.reg false [{ dst := some 35, op := .fa 1 (.t 9) },
  { dst := some 36, op := .ld none (.t 35) },
  { dst := some 37, op := .fa 0 (.t 9) },
  { dst := some 38, op := .ld none (.t 37) },
  { dst := some 39, op := .bin .add (.t 38) (.c (.i .i64 1)) },
  { dst := some 40, op := .bin .neq (.t 36) (.t 39) },
  { dst := some 41, op := .mv (.t 40) },
  { dst := some 42, op := .fa 0 (.t 9), grd := some (41, false) },
  { dst := some 43, op := .ld none (.t 42), grd := some (41, false) },
  { dst := some 44, op := .mv (.t 7), grd := some (41, false) },
  { dst := some 45, op := .bin .leq (.t 43) (.t 44), grd := some (41, false) },
  { dst := some 46, op := .pick (.t 41) (.c (.b true)) (.t 45) }])
 (.cond (.t 46) (.seq (.reg false [{ dst := some 2, op := .mv (.c (.b false)) }])
 .ret)
 .skip))
 (.reg false [{ dst := some 47, op := .fa 1 (.t 9) },
  { dst := some 48, op := .ld none (.t 47) },
  { dst := some 7, op := .mv (.t 48) }]))))
 (.reg false [{ dst := some 49, op := .bin .add (.t 31) (.c (.i .i64 1)) },
  { dst := some 31, op := .mv (.t 49) }])))))))
 (.seq (.reg false [{ dst := some 50, op := .mv (.t 4) },
  { dst := some 51, op := .fa 4 (.t 1) },
  { dst := some 52, op := .ld none (.t 51) },
  { dst := some 53, op := .len (.t 52) },
  { dst := some 54, op := .bin .mul (.c (.i .i64 2)) (.t 53) },
  { dst := some 55, op := .bin .eql (.t 50) (.t 54) },
  { dst := some 2, op := .mv (.t 55) }])
 .ret)))))))) }
def A_graph_Check_1 : AFun := { res := [.t 4], body := (.seq (.reg false [{ dst := some 2, op := .box (.t 0) },
  { dst := some 3, op := .box (.t 1) },
  { dst := some 4, op := .mv (.c (.b false)) }])
 (.seq (.reg false [{ dst := some 5, op := .fa 1 (.t 2) },
  { dst := some 6, op := .ld none (.t 5) },
  { dst := some 7, op := .bin .eql (.t 6) (.c (.i .i64 1)) },
  { dst := some 8, op := .mv (.t 7) },
  { dst := some 9, op := .fa 0 (.t 2), grd := some (8, true) },
  { dst := some 10, op := .ld none (.t 9), grd := some (8, true) },
  { dst := some 11, op := .fa 0 (.t 3), grd := some (8, true) },
  { dst := some 12, op := .ld none (.t 11), grd := some (8, true) },
  { dst := some 13, op := .bin .eql (.t 10) (.t 12), grd := some (8, true) },
  { dst := some 14, op := .pick (.t 8) (.t 13) (.c (.b false)) },
  { dst := some 4, op := .mv (.t 14) }])
 .ret)) }
def A_graph_list : AFun := { res := [.t 6], body := (.seq (.reg false [{ dst := some 3, op := .box (.t 0) },
  { dst := some 6, op := .mv (.c (.b false)) }])
 (.seq (.seq (.reg false [{ dst := some 9, op := .mv (.t 1) },
  { dst := some 10, op := .len (.t 9) },
  { dst := some 11, op := .mv (.c (.i .i64 0)) }])
 (.blk 0 (.loop (.seq (.reg false [{ dst := some 12, op := .bin .lss (.t 11) (.t 10) }])
 (.seq (.cond (.t 12) .skip
 (.ext 0))
 (.seq (.blk 1 (.seq (.reg false [{ dst := some 13, op := .mv (.t 11) },
  { dst := some 14, op := .ia 2 (.t 9) (.t 11) },
  { dst := some 15, op := .ld (some 2) (.t 14) },
  { dst := some 8, op := .new ([.i .i64 0, .i .i64 0]) },
  { dst := some 7, op := .mv (.t 13) },
  { dst := none, op := .st 2 (.t 8) (.t 15) }])
 (.seq (.reg true [{ dst := some 16, op := .fa 0 (.t 8) },
  { dst := some 17, op := .ld none (.t 16), pre := [] },
  { dst := some 18, op := .bin .lss (.t 17) (.c (.i .i64 0)) },
  { dst := some 19, op := .mv (.t 18) },
  { dst := some 20, op := .fa 1 (.t 8), grd := some (19, false) },
  { dst := some 21, op := .ld none (.t 20), grd := some (19, false), pre := [] },
  { dst := some 22, op := .fa 1 (.t 3), grd := some (19, false) },
  { dst := some 23, op := .ld none (.t 22), grd := some (19, false), pre := [] },
  { dst := some 24, op := .len (.t 23), grd := some (19, false) },
  { dst := some 25, op := .bin .geq (.t 21) (.t 24), grd := some (19, false) },
  { dst := some 26, op := .pick (.t 19) (.c (.b true)) (.t 25) },
  { dst := some 27, op := .mv (.t 26) },
  { dst := some 28, op := .fa 0 (.t 8), grd := some (27, false) },
  { dst := some 29, op := .ld none (.t 28), grd := some (27, false), pre := [] },
  { dst := some 30, op := .fa 1 (.t 8), grd := some (27, false) },
  { dst := some 31, op := .ld none (.t 30), grd := some (27, false), pre := [] },
  { dst := some 32, op := .bin .geq (.t 29) (.t 31), grd := some (27, false) },
  { dst := some 33, op := .pick (.t 27) (.c (.b true)) (.t 32) },
  { dst := some 34, op := .mv (.t 33) },
  { dst := some 35, op := .mv (.t 7), grd := some (34, false) },
  { dst := some 36, op := .bin .gtr (.t 35) (.c (.i .i64 0)), grd := some (34, false) },
  { dst := some 37, op := .mv (.t 36), grd := some (34, false) },
  { dst := some 38, op := .mv (.t 1), grd := some (37, true) },
  { dst := some 39, op := .mv (.t 7), grd := some (37, true) },
  { dst := some 40, op := .bin .sub (.t 39) (.c (.i .i64 1)), grd := some (37, true) },
  { dst := some 41, op := .ia 2 (.t 38) (.t 40), grd := some (37, true) },
  { dst := some 42, op := .ld (some 2) (.t 41), grd := some (37, true), pre := [] },
  { dst := some 43, op := .ld (some 2) (.t 8), grd := some (37, true), pre := [] },
  { dst := some 44, op := .call .pure (.c (.fn 239 [] [])) [.t 42, .t 43], grd := some (37, true), pre := [] },
  { dst := some 45, op := .bin .geq (.t 44) (.c (.i .i64 0)), grd := some (37, true) },
  { dst := some 46, op := .pick (.t 37) (.t 45) (.c (.b false)), grd := some (34, false) },
  { dst := some 47, op := .pick (.t 34) (.c (.b true)) (.t 46) },
  { dst := some 48, op := .mv (.t 47) },
  { dst := some 49, op := .mv (.t 2), grd := some (48, false) },
  { dst := some 50, op := .fa 1 (.t 3), grd := some (48, false) },
  { dst := some 51, op := .ld none (.t 50), grd := some (48, false), pre := [] },
  { dst := some 52, op := .fa 0 (.t 8), grd := some (48, false) },
  { dst := some 53, op := .ld none (.t 52), grd := some (48, false), pre := [] },
  { dst := some 54, op := .ia 6 (.t 51) (.t 53), grd := some (48, false) },
  { dst := some 55, op := .ld (some 6) (.t 54), grd := some (48, false), pre := [] },
  { dst := some 56, op := .fa 1 (.t 3), grd := some (48, false) },
  { dst := some 57, op := .ld none (.t 56), grd := some (48, false), pre := [] },
  { dst := some 58, op := .fa 1 (.t 8), grd := some (48, false) },
  { dst := some 59, op := .ld none (.t 58), grd := some (48, false), pre := [] },
  { dst := some 60, op := .ia 6 (.t 57) (.t 59), grd := some (48, false) },
  { dst := some 61, op := .ld (some 6) (.t 60), grd := some (48, false), pre := [] },
  { dst := some 62, op := .call .pure (.t 49) [.t 55, .t 61], grd := some (48, false), pre := [] },
  { dst := some 63, op := .un .not (.t 62), grd := some (48, false) },
  { dst := some 64, op := .pick (.t 48) (.c (.b true)) (.t 63) }])
 (.cond (.t 64) (.seq (.reg false [{ dst := some 6, op := .mv (.c (.b false)) }])
 .ret)
 .skip))))
 (.reg false [{ dst := some 65, op := .bin .add (.t 11) (.c (.i .i64 1)) },
  { dst := some 11, op := .mv (.t 65) }])))))))
 (.seq (.reg false [{ dst := some 6, op := .mv (.c (.b true)) }])
 .ret))) }
def A_graph_event : AFun := { res := [.t 4], body := (.seq (.reg false [{ dst := some 2, op := .box (.t 0) },
  { dst := some 4, op := .mv (.c (.b false)) }])
 (.seq (.reg false [{ dst := some 6, op := .fa 3 (.t 2) },
  { dst := some 7, op := .ld none (.t 6) },
  { dst := some 8, op := .bin .geq (.t 7) (.c (.i .i64 0)) },
  { dst := some 9, op := .mv (.t 8) },
  { dst := some 10, op := .fa 3 (.t 2), grd := some (9, true) },
  { dst := some 11, op := .ld none (.t 10), grd := some (9, true) },
  { dst := some 12, op := .mv (.t 1), grd := some (9, true) },
  { dst := some 13, op := .bin .lss (.t 11) (.t 12), grd := some (9, true) },
  { dst := some 14, op := .pick (.t 9) (.t 13) (.c (.b false)) },
  { dst := some 5, op := .mv (.t 14) }])
 (.seq (.seq (.reg false [{ dst := some 15, op := .fa 1 (.t 2) },
  { dst := some 16, op := .ld none (.t 15) }])
 (.blk 0 (.seq (.reg false [{ dst := some 18, op := .bin .eql (.t 16) (.c (.i .i64 1)) },
  { dst := some 17, op := .mv (.t 18) }])
 (.cond (.t 17) (.seq (.reg false [{ dst := some 19, op := .mv (.t 5) },
  { dst := some 20, op := .mv (.t 19) },
  { dst := some 21, op := .fa 2 (.t 2), grd := some (20, true) },
  { dst := some 22, op := .ld none (.t 21), grd := some (20, true) },
  { dst := some 23, op := .bin .eql (.t 22) (.c (.i .i64 0)), grd := some (20, true) },
  { dst := some 24, op := .mv (.t 23), grd := some (20, true) },
  { dst := some 25, op := .fa 2 (.t 2), grd := some (24, false) },
  { dst := some 26, op := .ld none (.t 25), grd := some (24, false) },
  { dst := some 27, op := .bin .eql (.t 26) (.c (.i .i64 1)), grd := some (24, false) },
  { dst := some 28, op := .pick (.t 24) (.c (.b true)) (.t 27), grd := some (20, true) },
  { dst := some 29, op := .pick (.t 20) (.t 28) (.c (.b false)) },
  { dst := some 4, op := .mv (.t 29) }])
 .ret)
 (.seq (.reg false [{ dst := some 31, op := .bin .eql (.t 16) (.c (.i .i64 2)) },
  { dst := some 30, op := .mv (.t 31) }])
 (.cond (.t 30) (.seq (.reg false [{ dst := some 32, op := .mv (.t 5) },
  { dst := some 33, op := .mv (.t 32) },
  { dst := some 34, op := .fa 2 (.t 2), grd := some (33, true) },
  { dst := some 35, op := .ld none (.t 34), grd := some (33, true) },
  { dst := some 36, op := .bin .eql (.t 35) (.c (.i .i64 0)), grd := some (33, true) },
  { dst := some 37, op := .mv (.t 36), grd := some (33, true) },
  { dst := some 38, op := .fa 2 (.t 2), grd := some (37, false) },
  { dst := some 39, op := .ld none (.t 38), grd := some (37, false) },
  { dst := some 40, op := .bin .eql (.t 39) (.c (.i .i64 2)), grd := some (37, false) },
  { dst := some 41, op := .pick (.t 37) (.c (.b true)) (.t 40), grd := some (33, true) },
  { dst := some 42, op := .pick (.t 33) (.t 41) (.c (.b false)) },
  { dst := some 4, op := .mv (.t 42) }])
 .ret)
 .skip))))))
 (.seq (.reg false [{ dst := some 43, op := .fa 1 (.t 2) },
  { dst := some 44, op := .ld none (.t 43) },
  { dst := some 45, op := .bin .eql (.t 44) (.c (.i .i64 3)) },
  { dst := some 46, op := .mv (.t 45) },
  { dst := some 47, op := .fa 2 (.t 2), grd := some (46, true) },
  { dst := some 48, op := .ld none (.t 47), grd := some (46, true) },
  { dst := some 49, op := .bin .geq (.t 48) (.c (.i .i64 1)), grd := some (46, true) },
  { dst := some 50, op := .pick (.t 46) (.t 49) (.c (.b false)) },
  { dst := some 51, op := .mv (.t 50) },
  { dst := some 52, op := .fa 2 (.t 2), grd := some (51, true) },
  { dst := some 53, op := .ld none (.t 52), grd := some (51, true) },
  { dst := some 54, op := .bin .leq (.t 53) (.c (.i .i64 4)), grd := some (51, true) },
  { dst := some 55, op := .pick (.t 51) (.t 54) (.c (.b false)) },
  { dst := some 56, op := .mv (.t 55) },
  { dst := some 57, op := .fa 3 (.t 2), grd := some (56, true) },
  { dst := some 58, op := .ld none (.t 57), grd := some (56, true) },
  { dst := some 59, op := .bin .eql (.t 58) (.c (.i .i64 0)), grd := some (56, true) },
  { dst := some 60, op := .pick (.t 56) (.t 59) (.c (.b false)) },
  { dst := some 61, op := .mv (.t 60) },
  { dst := some 62, op := .fa 4 (.t 2), grd := some (61, true) },
  { dst := some 63, op := .ld none (.t 62), grd := some (61, true) },
  { dst := some 64, op := .bin .eql (.t 63) (.c (.i .i64 0)), grd := some (61, true) },
  { dst := some 65, op := .pick (.t 61) (.t 64) (.c (.b false)) },
  { dst := some 66, op := .mv (.t 65) },
  { dst := some 67, op := .fa 5 (.t 2), grd := some (66, true) },
  { dst := some 68, op := .ld none (.t 67), grd := some (66, true) },
  { dst := some 69, op := .un .not (.t 68), grd := some (66, true) },
  { dst := some 70, op := .pick (.t 66) (.t 69) (.c (.b false)) },
  { dst := some 4, op := .mv (.t 70) }])
 .ret)))) }
def A_graph_write : AFun := { res := [.t 6], body := (.seq (.reg false [{ dst := some 3, op := .box (.t 0) },
  { dst := some 6, op := .mv (.c (.b false)) }])
 (.seq (.reg false [{ dst := some 7, op := .mv (.t 1) },
  { dst := some 8, op := .bin .geq (.t 7) (.c (.i .i64 0)) },
  { dst := some 9, op := .mv (.t 8) },
  { dst := some 10, op := .mv (.t 1), grd := some (9, true) },
  { dst := some 11, op := .fa 1 (.t 3), grd := some (9, true) },
  { dst := some 12, op := .ld none (.t 11), grd := some (9, true) },
  { dst := some 13, op := .len (.t 12), grd := some (9, true) },
  { dst := some 14, op := .bin .lss (.t 10) (.t 13), grd := some (9, true) },
  { dst := some 15, op := .pick (.t 9) (.t 14) (.c (.b false)) },
  { dst := some 16, op := .mv (.t 15) },
  { dst := some 17, op := .fa 1 (.t 3), grd := some (16, true) },
  { dst := some 18, op := .ld none (.t 17), grd := some (16, true) },
  { dst := some 19, op := .mv (.t 1), grd := some (16, true) },
  { dst := some 20, op := .ia 6 (.t 18) (.t 19), grd := some (16, true) },
  { dst := some 21, op := .fa 1 (.t 20), grd := some (16, true) },
  { dst := some 22, op := .ld none (.t 21), grd := some (16, true) },
  { dst := some 23, op := .bin .eql (.t 22) (.c (.i .i64 2)), grd := some (16, true) },
  { dst := some 24, op := .pick (.t 16) (.t 23) (.c (.b false)) },
  { dst := some 25, op := .mv (.t 24) },
  { dst := some 26, op := .fa 1 (.t 3), grd := some (25, true) },
  { dst := some 27, op := .ld none (.t 26), grd := some (25, true) },
  { dst := some 28, op := .mv (.t 1), grd := some (25, true) },
  { dst := some 29, op := .ia 6 (.t 27) (.t 28), grd := some (25, true) },
  { dst := some 30, op := .fa 3 (.t 29), grd := some (25, true) },
  { dst := some 31, op := .ld none (.t 30), grd := some (25, true) },
  { dst := some 32, op := .mv (.t 2), grd := some (25, true) },
  { dst := some 33, op := .bin .eql (.t 31) (.t 32), grd := some (25, true) },
  { dst := some 34, op := .pick (.t 25) (.t 33) (.c (.b false)) },
  { dst := some 6, op := .mv (.t 34) }])
 .ret)) }
def A_graph_rmw_1 : AFun := { res := [.t 4], body := (.seq (.reg false [{ dst := some 2, op := .box (.t 0) },
  { dst := some 3, op := .box (.t 1) },
  { dst := some 4, op := .mv (.c (.b false)) }])
 (.seq (.reg false [{ dst := some 5, op := .fa 1 (.t 2) },
  { dst := some 6, op := .ld none (.t 5) },
  { dst := some 7, op := .bin .eql (.t 6) (.c (.i .i64 1)) },
  { dst := some 8, op := .mv (.t 7) },
  { dst := some 9, op := .fa 1 (.t 3), grd := some (8, true) },
  { dst := some 10, op := .ld none (.t 9), grd := some (8, true) },
  { dst := some 11, op := .bin .eql (.t 10) (.c (.i .i64 2)), grd := some (8, true) },
  { dst := some 12, op := .pick (.t 8) (.t 11) (.c (.b false)) },
  { dst := some 13, op := .mv (.t 12) },
  { dst := some 14, op := .fa 3 (.t 2), grd := some (13, true) },
  { dst := some 15, op := .ld none (.t 14), grd := some (13, true) },
  { dst := some 16, op := .fa 3 (.t 3), grd := some (13, true) },
  { dst := some 17, op := .ld none (.t 16), grd := some (13, true) },
  { dst := some 18, op := .bin .eql (.t 15) (.t 17), grd := some (13, true) },
  { dst := some 19, op := .pick (.t 13) (.t 18) (.c (.b false)) },
  { dst := some 20, op := .mv (.t 19) },
  { dst := some 21, op := .fa 5 (.t 2), grd := some (20, true) },
  { dst := some 22, op := .ld none (.t 21), grd := some (20, true) },
  { dst := some 23, op := .pick (.t 20) (.t 22) (.c (.b false)) },
  { dst := some 24, op := .mv (.t 23) },
  { dst := some 25, op := .fa 5 (.t 3), grd := some (24, true) },
  { dst := some 26, op := .ld none (.t 25), grd := some (24, true) },
  { dst := some 27, op := .pick (.t 24) (.t 26) (.c (.b false)) },
  { dst := some 28, op := .mv (.t 27) },
  { dst := some 29, op := .fa 0 (.t 2), grd := some (28, true) },
  { dst := some 30, op := .ld none (.t 29), grd := some (28, true) },
  { dst := some 31, op := .fa 0 (.t 3), grd := some (28, true) },
  { dst := some 32, op := .ld none (.t 31), grd := some (28, true) },
  { dst := some 33, op := .bin .eql (.t 30) (.t 32), grd := some (28, true) },
  { dst := some 34, op := .pick (.t 28) (.t 33) (.c (.b false)) },
  { dst := some 4, op := .mv (.t 34) }])
 .ret)) }
def A_graph_order : AFun := { res := [.t 4], body := (.seq (.reg false [{ dst := some 2, op := .box (.t 0) },
  { dst := some 3, op := .box (.t 1) },
  { dst := some 4, op := .mv (.c (.i .i64 0)) }])
 (.seq (.reg true [{ dst := some 5, op := .fa 0 (.t 2) },
  { dst := some 6, op := .ld none (.t 5), pre := [] },
  { dst := some 7, op := .fa 0 (.t 3) },
  { dst := some 8, op := .ld none (.t 7), pre := [] },
  { dst := some 9, op := .call .pure (.c (.fn 248 [] [])) [.t 6, .t 8], pre := [] },
  { dst := some 10, op := .fa 1 (.t 2) },
  { dst := some 11, op := .ld none (.t 10), pre := [] },
  { dst := some 12, op := .fa 1 (.t 3) },
  { dst := some 13, op := .ld none (.t 12), pre := [] },
  { dst := some 14, op := .call .pure (.c (.fn 248 [] [])) [.t 11, .t 13], pre := [] },
  { dst := some 15, op := .bsl true 2 ([.i .i64 0, .i .i64 0]) [(0, 1, .t 9), (1, 1, .t 14)], pre := [] },
  { dst := some 16, op := .call .pure (.c (.fn 249 [] [])) [.t 15], pre := [] },
  { dst := some 4, op := .mv (.t 16) }])
 .ret)) }
structure Pk_graph (F : Funs) : Prop where
  graph_Po : F 60 = some A_graph_Po
  graph_Of : F 81 = some A_graph_Of
  graph_Check : F 152 = some A_graph_Check
  graph_Set : F 166 = some A_graph_Set
  graph_first : F 186 = some A_graph_first
  graph_threads : F 187 = some A_graph_threads
  graph_rf : F 188 = some A_graph_rf
  graph_co : F 189 = some A_graph_co
  graph_rmw : F 190 = some A_graph_rmw
  graph_Check_1 : F 191 = some A_graph_Check_1
  graph_list : F 192 = some A_graph_list
  graph_event : F 236 = some A_graph_event
  graph_write : F 237 = some A_graph_write
  graph_rmw_1 : F 238 = some A_graph_rmw_1
  graph_order : F 239 = some A_graph_order
end Go.Ab
end
section
/- Graphs asx the program has them. -/
set_option linter.unusedVariables false
set_option linter.unusedSimpArgs false
namespace Go.Ab
structure Ev where
  th : Int
  kd : Int
  md : Int
  lc : Int
  vl : Int
  ex : Bool
structure Gr where
  locs : Int
  evs : List Ev
  rf : List Int
  co : List (List Int)
  rmw : List (Int × Int)
  data : List (Int × Int)
  ctrl : List (Int × Int)
  ctrli : List (Int × Int)
def ev0 : Ev := ⟨0, 0, 0, 0, 0, false⟩
def evC (e : Ev) : List AV := [.i .i64 e.th, .i .i64 e.kd, .i .i64 e.md, .i .i64 e.lc, .i .i64 e.vl, .b e.ex]
def evsC (l : List Ev) : List AV := l.flatMap evC
def coC (l : List (List Int)) : List AV := l.map fun c => .sl (intsC c) c.length .non
def grC (g : Gr) : List AV := [.i .i64 g.locs, .sl (evsC g.evs) g.evs.length .non, .sl (intsC g.rf) g.rf.length .non, .sl (coC g.co) g.co.length .non,
  .sl (pairsC g.rmw) g.rmw.length .non, .sl (pairsC g.data) g.data.length .non, .sl (pairsC g.ctrl) g.ctrl.length .non, .sl (pairsC g.ctrli) g.ctrli.length .non]
theorem evsC_len (l : List Ev) : (evsC l).length = l.length * 6 := by
  induction l with
  | nil => rfl
  | cons p l ih => simp only [evsC, List.flatMap_cons, List.length_append, List.length_cons, evC, List.length_nil] at ih ⊢; omega
theorem ev_part : ∀ {l : List Ev} {k : Nat} (h : k < l.length), part ((evsC l).drop (k * 6)) 0 (some 6) = some (.agg (evC (l.getD k ev0)))
  | p :: l, 0, _ => by simp [evsC, part, evC]
  | p :: l, k + 1, h => by
    have := ev_part (l := l) (k := k) (by simpa using h)
    simp only [List.getD_cons_succ]
    rw [← this]
    simp [evsC, Nat.succ_mul, evC]
theorem coC_len (l : List (List Int)) : (coC l).length = l.length := by simp [coC]
theorem co_part {l : List (List Int)} {k : Nat} (h : k < l.length) : part ((coC l).drop (k * 1)) 0 none = some (.sl (intsC (l.getD k [])) (l.getD k []).length .non) := by
  simp only [part, coC, List.getElem?_drop, Nat.mul_one, Nat.add_zero, List.getElem?_map, List.getElem?_eq_getElem h, Option.map_some, List.getD_eq_getElem?_getD, Option.getD_some]
theorem splice_ev (e : Ev) : splice (List.replicate 5 (AV.i .i64 0) ++ [.b false]) 0 (evC e) = evC e := rfl
theorem part_22 (a b : AV) : part [a, b] 0 (some 2) = some (.agg [a, b]) := rfl
theorem evC_len (e : Ev) : (evC e).length = 6 := rfl
theorem evC_one (e : Ev) : (evC e).all one = true := rfl
theorem evC_flat (e : Ev) : (evC e).all flat = true := rfl
theorem evC_all (e : Ev) : part (evC e) 0 (some 6) = some (.agg (evC e)) := rfl
theorem ev_th (e : Ev) : part (evC e) 0 none = some (.i .i64 e.th) := rfl
theorem ev_kd (e : Ev) : part (evC e) 1 none = some (.i .i64 e.kd) := rfl
theorem ev_md (e : Ev) : part (evC e) 2 none = some (.i .i64 e.md) := rfl
theorem ev_lc (e : Ev) : part (evC e) 3 none = some (.i .i64 e.lc) := rfl
theorem ev_vl (e : Ev) : part (evC e) 4 none = some (.i .i64 e.vl) := rfl
theorem ev_ex (e : Ev) : part (evC e) 5 none = some (.b e.ex) := rfl
theorem grC_len (g : Gr) : (grC g).length = 8 := rfl
theorem grC_one (g : Gr) : (grC g).all one = true := rfl
theorem grC_all (g : Gr) : part (grC g) 0 (some 8) = some (.agg (grC g)) := rfl
theorem gr_locs (g : Gr) : part (grC g) 0 none = some (.i .i64 g.locs) := rfl
theorem gr_evs (g : Gr) : part (grC g) 1 none = some (.sl (evsC g.evs) g.evs.length .non) := rfl
theorem gr_rf (g : Gr) : part (grC g) 2 none = some (.sl (intsC g.rf) g.rf.length .non) := rfl
theorem gr_co (g : Gr) : part (grC g) 3 none = some (.sl (coC g.co) g.co.length .non) := rfl
theorem gr_rmw (g : Gr) : part (grC g) 4 none = some (.sl (pairsC g.rmw) g.rmw.length .non) := rfl
theorem gr_data (g : Gr) : part (grC g) 5 none = some (.sl (pairsC g.data) g.data.length .non) := rfl
theorem gr_ctrl (g : Gr) : part (grC g) 6 none = some (.sl (pairsC g.ctrl) g.ctrl.length .non) := rfl
theorem gr_ctrli (g : Gr) : part (grC g) 7 none = some (.sl (pairsC g.ctrli) g.ctrli.length .non) := rfl
theorem frz_gr (hp) (g : Gr) : frz hp depth (.agg (grC g)) = some (.agg (grC g)) := by
  refine frz_d_agg ?_
  show frzL hp (7 + 1) _ = _
  simp only [grC, frzL, frz]
theorem frz_ev (hp) (e : Ev) : frz hp depth (.agg (evC e)) = some (.agg (evC e)) := frz_d_agg (frzL_flat (d := 7) (evC_flat e))
theorem vis_gr (hp) (g : Gr) : vis hp depth (.agg (grC g)) = [] := by
  show vis hp (8 + 1) _ = _
  simp only [vis, grC, List.flatMap_cons, List.flatMap_nil, List.nil_append, List.append_nil]
theorem vis_ev (hp) (e : Ev) : vis hp depth (.agg (evC e)) = [] := by
  show vis hp (8 + 1) _ = _
  simp only [vis, evC, List.flatMap_cons, List.flatMap_nil, List.nil_append, List.append_nil]
/-! bundle -/
set_option maxRecDepth 10000 in
theorem gl : type_of% (And.intro (And.intro (And.intro (And.intro (And.intro @evC_len @evC_one) (And.intro @evC_flat (And.intro @evC_all @ev_th))) (And.intro (And.intro @ev_kd @ev_md) (And.intro @ev_lc (And.intro @ev_vl @ev_ex)))) (And.intro (And.intro (And.intro @grC_len @grC_one) (And.intro @grC_all (And.intro @gr_locs @gr_evs))) (And.intro (And.intro @gr_rf (And.intro @gr_co @gr_rmw)) (And.intro @gr_data (And.intro @gr_ctrl @gr_ctrli))))) (And.intro (And.intro (And.intro (And.intro @frz_gr @frz_ev) (And.intro @vis_gr (And.intro @vis_ev @splice_ev))) (And.intro (And.intro @evsC_len @coC_len) (And.intro @o_raw (And.intro @vRaw_fn @res_0)))) (And.intro (And.intro (And.intro @retP_nrm @retP_ret) (And.intro @o_mget (And.intro @vMget_S @mgS_map))) (And.intro (And.intro @o_mkmap (And.intro @o_mput @vMput_S)) (And.intro @mpS_map (And.intro @mpO_none @part_22)))))) := (And.intro (And.intro (And.intro (And.intro (And.intro @evC_len @evC_one) (And.intro @evC_flat (And.intro @evC_all @ev_th))) (And.intro (And.intro @ev_kd @ev_md) (And.intro @ev_lc (And.intro @ev_vl @ev_ex)))) (And.intro (And.intro (And.intro @grC_len @grC_one) (And.intro @grC_all (And.intro @gr_locs @gr_evs))) (And.intro (And.intro @gr_rf (And.intro @gr_co @gr_rmw)) (And.intro @gr_data (And.intro @gr_ctrl @gr_ctrli))))) (And.intro (And.intro (And.intro (And.intro @frz_gr @frz_ev) (And.intro @vis_gr (And.intro @vis_ev @splice_ev))) (And.intro (And.intro @evsC_len @coC_len) (And.intro @o_raw (And.intro @vRaw_fn @res_0)))) (And.intro (And.intro (And.intro @retP_nrm @retP_ret) (And.intro @o_mget (And.intro @vMget_S @mgS_map))) (And.intro (And.intro @o_mkmap (And.intro @o_mput @vMput_S)) (And.intro @mpS_map (And.intro @mpO_none @part_22))))))
/-! end of bundle -/
end Go.Ab
end
section
/- graph.Of; the closures of eco.pairs. -/
set_option linter.unusedVariables false
set_option linter.unusedSimpArgs false
namespace Go.Ab
variable {F : Funs}
set_option maxRecDepth 100000 in
theorem sp_of (h81 : F 81 = some A_graph_Of) (pr : Pk_rel F) (G : Gr) (l : List (Int × Int)) (t : Tok) (hl : l.length < 9000000000000000000) : pureS F 81 [.agg (grC G), .sl (pairsC l) l.length t] = some (.ptr (relC (clamp G.evs.length) (newR (clamp G.evs.length) l))) := by
  refine pure_of h81 ?_
  simp (disch := omega) only [A_graph_Of, wp, Nat.reduceAdd, Nat.reduceMul, Nat.reduceSub, gl, sp_new pr _ l _ hl]

/-- What the closures of 'pairs' stand on. -/
structure EcoSt (X : Gr) (l : List (Int × Int)) (g : G) : Prop where
  gr : g.hp 0 = some (.cells (grC X) false)
  put : ∃ t, g.hp 2 = some (.cells [.sl (pairsC l) l.length t] false) ∧ Live g 2 t
  f4 : g.hp 4 = some (.cells [.fn 92 [] [.mp 2 0]] false)
  f7 : g.hp 7 = some (.cells [.fn 93 [] [.mp 0 0, .mp 4 0]] false)
  m9 : g.hp 9 = some (.map [(.s ⟨#[114, 102]⟩, .fn 94 [] [.mp 4 0]), (.s ⟨#[99, 111]⟩, .fn 95 [] [.mp 7 0]), (.s ⟨#[102, 114]⟩, .fn 96 [] [.mp 7 0])])
  nx : 9 < g.nx
/-- What is above stays. -/
def Kept (g g' : G) : Prop := g.nx ≤ g'.nx ∧ ∀ i, 9 < i → i < g.nx → CM (g.hp i) → g'.hp i = g.hp i
theorem Kept.refl (g : G) : Kept g g := ⟨Nat.le_refl _, fun _ _ _ _ => rfl⟩
theorem Kept.trans {g g1 g2 : G} (h : Kept g g1) (k : Kept g1 g2) : Kept g g2 := ⟨Nat.le_trans h.1 k.1, fun i h1 h2 h3 => by
  have e := h.2 i h1 h2 h3
  rw [← e]
  exact k.2 i h1 (Nat.lt_of_lt_of_le h2 h.1) (by rw [e]; exact h3)⟩
/-- Nothing but the count has gone on. -/
theorem EcoSt.same {X : Gr} {l : List (Int × Int)} {g g' : G} (h : EcoSt X l g) (k : Kept g g') (h9 : ∀ i, i ≤ 9 → g'.hp i = g.hp i) (ht : ∀ i b, g.hp i = some (.tok b) → g'.hp i = g.hp i) : EcoSt X l g' := by
  obtain ⟨t, h1, h2⟩ := h.put
  refine ⟨by rw [h9 0 (by omega)]; exact h.gr, ⟨t, by rw [h9 2 (by omega)]; exact h1, ?_⟩, by rw [h9 4 (by omega)]; exact h.f4, by rw [h9 7 (by omega)]; exact h.f7, by rw [h9 9 (by omega)]; exact h.m9, Nat.lt_of_lt_of_le h.nx k.1⟩
  rcases h2 with rfl | ⟨τ, rfl, hτ, hlt⟩
  · exact .inl rfl
  · exact .inr ⟨τ, rfl, by rw [ht τ _ hτ]; exact hτ, Nat.lt_of_lt_of_le hlt k.1⟩

set_option maxRecDepth 100000 in
theorem sp_put (h92 : F 92 = some A_eco_pairs_1) {X : Gr} {l : List (Int × Int)} {g : G} (S : EcoSt X l g) (hl : l.length < 1099511627776) (a b : Int) :
    ∃ v g', callS F 92 [.i .i64 a, .i .i64 b, .mp 2 0] g = some (v, g') ∧ EcoSt X (l ++ [(a, b)]) g' ∧ Kept g g' := by
  refine raw_of (P := fun v g' => EcoSt X (l ++ [(a, b)]) g' ∧ Kept g g') h92 ?_
  obtain ⟨t, hp, ht⟩ := S.put
  have hnx := S.nx
  have h0 := S.gr; have h4 := S.f4; have h7 := S.f7; have h9 := S.m9
  rcases ht with rfl | ⟨τ, rfl, hτ, hlt⟩
  · simp (disch := omega) only [A_eco_pairs_1, wp, Nat.reduceAdd, Nat.reduceMul, Nat.reduceSub, gl, hp, pairsC_len]
    refine ⟨_, rfl, ?_, ?_⟩
    · refine ⟨?_, ⟨.own (g.nx + 5) 2, ?_, ?_⟩, ?_, ?_, ?_, by dsimp only; omega⟩
      · simp (disch := omega) only [upd_ne]; exact h0
      · simp (disch := omega) only [upd_same, pairsC_app, pairsC_one, List.length_append]; rfl
      · exact .inr ⟨_, rfl, by simp (disch := omega) only [upd_same, upd_ne], by dsimp only; omega⟩
      · simp (disch := omega) only [upd_ne]; exact h4
      · simp (disch := omega) only [upd_ne]; exact h7
      · simp (disch := omega) only [upd_ne]; exact h9
    · refine ⟨by dsimp only; omega, fun i i1 i2 i3 => ?_⟩
      simp (disch := omega) only [upd_ne]
  · have n0 : τ ≠ 0 := fun h => by rw [h, h0] at hτ; cases hτ
    have n2 : τ ≠ 2 := fun h => by rw [h, hp] at hτ; cases hτ
    have n4 : τ ≠ 4 := fun h => by rw [h, h4] at hτ; cases hτ
    have n7 : τ ≠ 7 := fun h => by rw [h, h7] at hτ; cases hτ
    have n9 : τ ≠ 9 := fun h => by rw [h, h9] at hτ; cases hτ
    simp (disch := omega) only [A_eco_pairs_1, wp, Nat.reduceAdd, Nat.reduceMul, Nat.reduceSub, gl, hp, pairsC_len, hτ]
    refine ⟨_, rfl, ?_, ?_⟩
    · refine ⟨?_, ⟨.own (g.nx + 5) 2, ?_, ?_⟩, ?_, ?_, ?_, by dsimp only; omega⟩
      · simp (disch := omega) only [upd_ne]; exact h0
      · simp (disch := omega) only [upd_same, pairsC_app, pairsC_one, List.length_append]; rfl
      · exact .inr ⟨_, rfl, by simp (disch := omega) only [upd_same, upd_ne], by dsimp only; omega⟩
      · simp (disch := omega) only [upd_ne]; exact h4
      · simp (disch := omega) only [upd_ne]; exact h7
      · simp (disch := omega) only [upd_ne]; exact h9
    · refine ⟨by dsimp only; omega, fun i i1 i2 i3 => ?_⟩
      have : i ≠ τ := fun h => by rw [h, hτ] at i3; exact i3
      simp (disch := omega) only [upd_ne]
end Go.Ab
end
section
/- The closure 'behind' of eco.pairs. -/
set_option linter.unusedVariables false
set_option linter.unusedSimpArgs false
namespace Go.Ab
variable {F : Funs}
def aftS (w : Int) (p : List Int × Bool) (i : Int) : List Int × Bool := (if p.2 then p.1 ++ [i] else p.1, p.2 || i == w)
/-- What stands in a list behind 'w', and whether it was met. -/
def aft (w : Int) (c : List Int) : List Int × Bool := c.foldl (aftS w) ([], false)
def behL (a w : Int) (co : List (List Int)) : List (Int × Int) := co.flatMap fun c => (aft w c).1.map fun i => (a, i)
theorem aft_take {w : Int} {c : List Int} {k : Nat} (h : k < c.length) : aft w (c.take (k + 1)) = aftS w (aft w (c.take k)) (c.getD k 0) := by
  unfold aft
  rw [List.take_add_one, List.foldl_append, List.getElem?_eq_getElem h, List.getD_eq_getElem?_getD, List.getElem?_eq_getElem h]
  rfl
theorem behL_take {a w : Int} {co : List (List Int)} {k : Nat} (h : k < co.length) : behL a w (co.take (k + 1)) = behL a w (co.take k) ++ (aft w (co.getD k [])).1.map (fun i => (a, i)) := by
  unfold behL
  rw [List.take_add_one, List.flatMap_append, List.getElem?_eq_getElem h, List.getD_eq_getElem?_getD, List.getElem?_eq_getElem h]
  simp
theorem aft_len (w : Int) (c : List Int) : (aft w c).1.length ≤ c.length := by
  have key : ∀ (c : List Int) (p : List Int × Bool), (c.foldl (aftS w) p).1.length ≤ p.1.length + c.length := by
    intro c
    induction c with
    | nil => intro p; simp
    | cons i c ih =>
      intro p
      rw [List.foldl_cons]
      have := ih (aftS w p i)
      have h2 : (aftS w p i).1.length ≤ p.1.length + 1 := by unfold aftS; split <;> simp
      simp only [List.length_cons]; omega
  have := key c ([], false)
  unfold aft
  simpa using this
theorem behL_len (a w : Int) (co : List (List Int)) {b : Nat} (h : ∀ c ∈ co, c.length ≤ b) : (behL a w co).length ≤ co.length * b := by
  induction co with
  | nil => simp [behL]
  | cons c co ih =>
    have h1 := ih fun d hd => h d (List.mem_cons_of_mem _ hd)
    have h2 := aft_len w c
    have h3 := h c (List.mem_cons_self ..)
    unfold behL at h1 ⊢
    rw [List.flatMap_cons, List.length_append, List.length_map, List.length_cons, Nat.succ_mul]
    omega
theorem EcoSt.on {X : Gr} {l : List (Int × Int)} {g : G} (h : EcoSt X l g) {n : Nat} (hn : g.nx ≤ n) : EcoSt X l ⟨g.hp, n⟩ :=
  h.same ⟨hn, fun _ _ _ _ => rfl⟩ (fun _ _ => rfl) (fun _ _ _ => rfl)
theorem Kept.on {g g' : G} (h : Kept g g') {n : Nat} (hn : g'.nx ≤ n) : Kept g ⟨g'.hp, n⟩ := ⟨Nat.le_trans h.1 hn, h.2⟩
theorem Kept.from {g g' : G} {n : Nat} (hn : g.nx ≤ n) (h : Kept ⟨g.hp, n⟩ g') : Kept g g' := ⟨Nat.le_trans hn h.1, fun i h1 h2 h3 => h.2 i h1 (Nat.lt_of_lt_of_le h2 hn) h3⟩

set_option maxRecDepth 100000 in
set_option maxHeartbeats 4000000 in
theorem sp_behind (h93 : F 93 = some A_eco_pairs_2) (h92 : F 92 = some A_eco_pairs_1) {X : Gr} {l : List (Int × Int)} {g : G} (S : EcoSt X l g) (hl : l.length < 1000000) (hco : X.co.length ≤ 1000 ∧ ∀ c ∈ X.co, c.length ≤ 1000) (a w : Int) :
    ∃ v g', callS F 93 [.i .i64 a, .i .i64 w, .mp 0 0, .mp 4 0] g = some (v, g') ∧ EcoSt X (l ++ behL a w X.co) g' ∧ Kept g g' := by
  refine raw_of (P := fun v g' => EcoSt X (l ++ behL a w X.co) g' ∧ Kept g g') h93 ?_
  have h0 := S.gr
  have hnx := S.nx
  simp (disch := omega) only [A_eco_pairs_2, wp, Nat.reduceAdd, Nat.reduceMul, Nat.reduceSub, gl, h0]
  refine W_loop (fun q e g1 => ∃ k, q = X.co.length - k ∧ k ≤ X.co.length ∧ e 0 = .i .i64 a ∧ e 1 = .i .i64 w ∧ e 3 = .mp 4 0 ∧ e 12 = .sl (coC X.co) X.co.length .non ∧ e 13 = .i .i64 X.co.length ∧ e 14 = .i .i64 k ∧ EcoSt X (l ++ behL a w (X.co.take k)) g1 ∧ Kept g g1) X.co.length ?_ ?_
  · refine ⟨0, rfl, Nat.zero_le _, ?_⟩
    simp (disch := omega) only [wp, Nat.reduceAdd, Nat.reduceMul, Nat.reduceSub]
    refine ⟨rfl, ?_, (Kept.refl g).on (by omega)⟩
    have : l ++ behL a w (List.take 0 X.co) = l := by simp [behL]
    rw [this]
    exact S.on (by omega)
  · rintro q e g1 ⟨k, rfl, hk, e0, e1, e3, e12, e13, e14, S1, K1⟩
    by_cases hk' : k < X.co.length
    · have hk1 : (k : Int) < X.co.length := by omega
      have hwk := succ_wrap (k := k) (by omega)
      have hcp := co_part hk'
      have hbt := behL_take (a := a) (w := w) hk'
      have hcl : (X.co.getD k []).length ≤ 1000 := hco.2 _ (by rw [List.getD_eq_getElem?_getD, List.getElem?_eq_getElem hk']; exact List.getElem_mem hk')
      have hbl : (behL a w (X.co.take k)).length ≤ 1000000 := by
        have h1 := behL_len a w (X.co.take k) (b := 1000) fun c hc => hco.2 c (List.mem_of_mem_take hc)
        rw [List.length_take] at h1
        have h2 : min k X.co.length * 1000 ≤ 1000 * 1000 := Nat.mul_le_mul (by omega) (Nat.le_refl _)
        omega
      generalize X.co.getD k [] = c at hcp hbt hcl
      generalize behL a w (X.co.take k) = B at S1 hbt hbl
      simp (disch := omega) only [wp, Nat.reduceAdd, Nat.reduceMul, Nat.reduceSub, gl, e0, e1, e3, e12, e13, e14, hk1, hcp]
      refine W_loop (fun q e g2 => ∃ j, q = c.length - j ∧ j ≤ c.length ∧ e 0 = .i .i64 a ∧ e 1 = .i .i64 w ∧ e 3 = .mp 4 0 ∧ e 12 = .sl (coC X.co) X.co.length .non ∧ e 13 = .i .i64 X.co.length ∧ e 14 = .i .i64 k ∧ e 18 = .sl (intsC c) c.length .non ∧ e 19 = .i .i64 c.length ∧ e 20 = .i .i64 j ∧ e 8 = .b (aft w (c.take j)).2 ∧ EcoSt X (l ++ B ++ (aft w (c.take j)).1.map fun i => (a, i)) g2 ∧ Kept g g2) c.length ?_ ?_
      · refine ⟨0, rfl, Nat.zero_le _, ?_⟩
        simp (disch := omega) only [wp, Nat.reduceAdd, Nat.reduceMul, Nat.reduceSub, e0, e1, e3, e12, e13, e14]
        refine ⟨rfl, rfl, ?_, K1.on (by omega)⟩
        have : l ++ B ++ (aft w (List.take 0 c)).1.map (fun i => (a, i)) = l ++ B := by simp [aft]
        rw [this]
        exact S1.on (by omega)
      · rintro q e g2 ⟨j, rfl, hj, e0, e1, e3, e12, e13, e14, e18, e19, e20, e8, S2, K2⟩
        by_cases hj' : j < c.length
        · have hj1 : (j : Int) < c.length := by omega
          have hwj := succ_wrap (k := j) (by omega)
          have hip := ints_part hj'
          have hat := aft_take (w := w) hj'
          have hal := aft_len w (c.take j)
          rw [List.length_take] at hal
          generalize c.getD j 0 = i at hip hat
          generalize aft w (c.take j) = p at hat e8 S2 hal
          obtain ⟨acc, s⟩ := p
          simp only at e8 S2 hal
          have hL : (l ++ B ++ acc.map fun i => (a, i)).length < 1099511627776 := by
            rw [List.length_append, List.length_append, List.length_map]; omega
          cases s with
          | true =>
            have f4 := S2.f4
            have n2 := S2.nx
            simp (disch := omega) only [wp, Nat.reduceAdd, Nat.reduceMul, Nat.reduceSub, gl, e0, e1, e3, e12, e13, e14, e18, e19, e20, e8, hj1, hip, f4]
            refine bindO_call _ (sp_put h92 (S2.on (n := _) (by omega)) hL a i) ?_
            rintro v g3 ⟨S3, K3⟩
            simp (disch := omega) only [wp, Nat.reduceAdd, Nat.reduceMul, Nat.reduceSub, gl, e0, e1, e3, e12, e13, e14, e18, e19, e20, e8, hwj]
            have n3 := K3.1
            dsimp only at n3
            refine ⟨c.length - (j + 1), by omega, j + 1, rfl, by omega, rfl, ?_, ?_, ((K2.trans (K3.from (by omega))).on (by first | omega | (dsimp only; omega)))⟩
            · rw [hat]; rfl
            · rw [hat]
              simp only [aftS, if_true, List.map_append, List.map_cons, List.map_nil]
              rw [← List.append_assoc]
              exact S3.on (by first | omega | (dsimp only; omega))
          | false =>
            simp (disch := omega) only [wp, Nat.reduceAdd, Nat.reduceMul, Nat.reduceSub, gl, e0, e1, e3, e12, e13, e14, e18, e19, e20, e8, hj1, hip, hwj]
            refine ⟨c.length - (j + 1), by omega, j + 1, rfl, by omega, rfl, ?_, ?_, K2.on (by first | omega | (dsimp only; omega))⟩
            · rw [hat]; simp [aftS]
            · rw [hat]
              simp only [aftS, Bool.false_eq_true, if_false]
              exact S2.on (by first | omega | (dsimp only; omega))
        · obtain rfl : j = c.length := by omega
          have hj1 : ¬ ((c.length : Int) < c.length) := by omega
          simp (disch := omega) only [wp, Nat.reduceAdd, Nat.reduceMul, Nat.reduceSub, gl, e0, e1, e3, e12, e13, e14, e18, e19, e20, e8, hj1, hwk]
          refine ⟨X.co.length - (k + 1), by omega, k + 1, rfl, by omega, rfl, ?_, K2.on (by first | omega | (dsimp only; omega))⟩
          rw [hbt, ← List.append_assoc]
          rw [List.take_length] at S2
          exact S2.on (by first | omega | (dsimp only; omega))
    · obtain rfl : k = X.co.length := by omega
      have hk1 : ¬ ((X.co.length : Int) < X.co.length) := by omega
      simp (disch := omega) only [wp, Nat.reduceAdd, Nat.reduceMul, Nat.reduceSub, gl, e0, e1, e3, e12, e13, e14, hk1]
      rw [List.take_length] at S1
      exact ⟨_, rfl, S1.on (by first | omega | (dsimp only; omega)), K1.on (by first | omega | (dsimp only; omega))⟩
end Go.Ab
end
section
/- The closures rf, co, fr of eco.pairs; pairs. -/
set_option linter.unusedVariables false
set_option linter.unusedSimpArgs false
namespace Go.Ab
variable {F : Funs}
theorem EcoSt.grow {X : Gr} {l : List (Int × Int)} {g g' : G} (h : EcoSt X l g) (hn : g.nx ≤ g'.nx) (ho : ∀ i, i < g.nx → g'.hp i = g.hp i) : EcoSt X l g' ∧ Kept g g' := by
  have h9 := h.nx
  obtain ⟨t, h1, h2⟩ := h.put
  refine ⟨⟨by rw [ho 0 (by omega)]; exact h.gr, ⟨t, by rw [ho 2 (by omega)]; exact h1, ?_⟩, by rw [ho 4 (by omega)]; exact h.f4, by rw [ho 7 (by omega)]; exact h.f7, by rw [ho 9 (by omega)]; exact h.m9, by omega⟩, hn, fun i _ hi _ => ho i hi⟩
  rcases h2 with rfl | ⟨τ, rfl, hτ, hlt⟩
  · exact .inl rfl
  · exact .inr ⟨τ, rfl, by rw [ho τ hlt]; exact hτ, by omega⟩
def rfS (i w : Int) (e : Ev) : List (Int × Int) := if e.kd = 1 then [(w, i)] else []
def coS (co : List (List Int)) (i w : Int) (e : Ev) : List (Int × Int) := if e.kd = 2 then behL i i co else []
def frS (co : List (List Int)) (i w : Int) (e : Ev) : List (Int × Int) := if e.kd = 1 then behL i w co else []
set_option maxRecDepth 100000 in
theorem sp_94 (h94 : F 94 = some A_eco_pairs_3) (h92 : F 92 = some A_eco_pairs_1) {X : Gr} {l : List (Int × Int)} {g : G} (S : EcoSt X l g) (hl : l.length < 1000000) (i w : Int) (e : Ev) :
    ∃ v g', callS F 94 [.i .i64 i, .i .i64 w, .agg (evC e), .mp 4 0] g = some (v, g') ∧ EcoSt X (l ++ rfS i w e) g' ∧ Kept g g' := by
  refine raw_of (P := fun v g' => EcoSt X (l ++ rfS i w e) g' ∧ Kept g g') h94 ?_
  have hnx := S.nx
  have f4 := S.f4
  have grow := fun (n : Nat) (hn : g.nx ≤ n) => S.grow (g' := ⟨upd g.hp g.nx (some (.cells (evC e) false)), n⟩) hn fun i hi => by
    show upd _ _ _ _ = _
    rw [upd_ne _ _ (by omega)]
  by_cases hk : e.kd = 1
  · have hk1 : (e.kd == 1) = true := by simp [hk]
    simp (disch := omega) only [A_eco_pairs_3, wp, Nat.reduceAdd, Nat.reduceMul, Nat.reduceSub, gl, hk1, f4]
    obtain ⟨S1, K1⟩ := grow (g.nx + 1 + 3 + 4) (by omega)
    refine bindO_call _ (sp_put h92 S1 (by omega) w i) ?_
    rintro v g3 ⟨S3, K3⟩
    simp (disch := omega) only [wp, Nat.reduceAdd, Nat.reduceMul, Nat.reduceSub, gl]
    have : rfS i w e = [(w, i)] := if_pos hk
    rw [this]
    exact ⟨_, rfl, S3, K1.trans K3⟩
  · have hk1 : (e.kd == 1) = false := by simp [hk]
    simp (disch := omega) only [A_eco_pairs_3, wp, Nat.reduceAdd, Nat.reduceMul, Nat.reduceSub, gl, hk1, f4]
    have : l ++ rfS i w e = l := by rw [rfS, if_neg hk]; simp
    rw [this]
    exact ⟨_, rfl, (grow _ (by omega)).1, (grow _ (by omega)).2⟩
set_option maxRecDepth 100000 in
theorem sp_95 (h95 : F 95 = some A_eco_pairs_4) (h93 : F 93 = some A_eco_pairs_2) (h92 : F 92 = some A_eco_pairs_1) {X : Gr} {l : List (Int × Int)} {g : G} (S : EcoSt X l g) (hl : l.length < 1000000) (hco : X.co.length ≤ 1000 ∧ ∀ c ∈ X.co, c.length ≤ 1000) (i w : Int) (e : Ev) :
    ∃ v g', callS F 95 [.i .i64 i, .i .i64 w, .agg (evC e), .mp 7 0] g = some (v, g') ∧ EcoSt X (l ++ coS X.co i w e) g' ∧ Kept g g' := by
  refine raw_of (P := fun v g' => EcoSt X (l ++ coS X.co i w e) g' ∧ Kept g g') h95 ?_
  have hnx := S.nx
  have f7 := S.f7
  have grow := fun (n : Nat) (hn : g.nx ≤ n) => S.grow (g' := ⟨upd g.hp g.nx (some (.cells (evC e) false)), n⟩) hn fun i hi => by
    show upd _ _ _ _ = _
    rw [upd_ne _ _ (by omega)]
  by_cases hk : e.kd = 2
  · have hk1 : (e.kd == 2) = true := by simp [hk]
    simp (disch := omega) only [A_eco_pairs_4, wp, Nat.reduceAdd, Nat.reduceMul, Nat.reduceSub, gl, hk1, f7]
    obtain ⟨S1, K1⟩ := grow (g.nx + 1 + 3 + 4) (by omega)
    refine bindO_call _ (sp_behind h93 h92 S1 hl hco i i) ?_
    rintro v g3 ⟨S3, K3⟩
    simp (disch := omega) only [wp, Nat.reduceAdd, Nat.reduceMul, Nat.reduceSub, gl]
    have : coS X.co i w e = behL i i X.co := if_pos hk
    rw [this]
    exact ⟨_, rfl, S3, K1.trans K3⟩
  · have hk1 : (e.kd == 2) = false := by simp [hk]
    simp (disch := omega) only [A_eco_pairs_4, wp, Nat.reduceAdd, Nat.reduceMul, Nat.reduceSub, gl, hk1, f7]
    have : l ++ coS X.co i w e = l := by rw [coS, if_neg hk]; simp
    rw [this]
    exact ⟨_, rfl, (grow _ (by omega)).1, (grow _ (by omega)).2⟩
set_option maxRecDepth 100000 in
theorem sp_96 (h96 : F 96 = some A_eco_pairs_5) (h93 : F 93 = some A_eco_pairs_2) (h92 : F 92 = some A_eco_pairs_1) {X : Gr} {l : List (Int × Int)} {g : G} (S : EcoSt X l g) (hl : l.length < 1000000) (hco : X.co.length ≤ 1000 ∧ ∀ c ∈ X.co, c.length ≤ 1000) (i w : Int) (e : Ev) :
    ∃ v g', callS F 96 [.i .i64 i, .i .i64 w, .agg (evC e), .mp 7 0] g = some (v, g') ∧ EcoSt X (l ++ frS X.co i w e) g' ∧ Kept g g' := by
  refine raw_of (P := fun v g' => EcoSt X (l ++ frS X.co i w e) g' ∧ Kept g g') h96 ?_
  have hnx := S.nx
  have f7 := S.f7
  have grow := fun (n : Nat) (hn : g.nx ≤ n) => S.grow (g' := ⟨upd g.hp g.nx (some (.cells (evC e) false)), n⟩) hn fun i hi => by
    show upd _ _ _ _ = _
    rw [upd_ne _ _ (by omega)]
  by_cases hk : e.kd = 1
  · have hk1 : (e.kd == 1) = true := by simp [hk]
    simp (disch := omega) only [A_eco_pairs_5, wp, Nat.reduceAdd, Nat.reduceMul, Nat.reduceSub, gl, hk1, f7]
    obtain ⟨S1, K1⟩ := grow (g.nx + 1 + 3 + 4) (by omega)
    refine bindO_call _ (sp_behind h93 h92 S1 hl hco i w) ?_
    rintro v g3 ⟨S3, K3⟩
    simp (disch := omega) only [wp, Nat.reduceAdd, Nat.reduceMul, Nat.reduceSub, gl]
    have : frS X.co i w e = behL i w X.co := if_pos hk
    rw [this]
    exact ⟨_, rfl, S3, K1.trans K3⟩
  · have hk1 : (e.kd == 1) = false := by simp [hk]
    simp (disch := omega) only [A_eco_pairs_5, wp, Nat.reduceAdd, Nat.reduceMul, Nat.reduceSub, gl, hk1, f7]
    have : l ++ frS X.co i w e = l := by rw [frS, if_neg hk]; simp
    rw [this]
    exact ⟨_, rfl, (grow _ (by omega)).1, (grow _ (by omega)).2⟩
end Go.Ab
end
section
/- eco.pairs. -/
set_option linter.unusedVariables false
set_option linter.unusedSimpArgs false
namespace Go.Ab
variable {F : Funs}
/-- A graph of few events. -/
def Few (X : Gr) : Prop := X.evs.length ≤ 60 ∧ X.co.length ≤ 6 ∧ ∀ c ∈ X.co, c.length ≤ 60
def wOf (X : Gr) (i : Nat) : Int := if i < X.rf.length then X.rf.getD i 0 else -1
def pairsE (stp : Int → Int → Ev → List (Int × Int)) (X : Gr) (k : Nat) : List (Int × Int) := (List.range k).flatMap fun (i : Nat) => stp (i : Int) (wOf X i) (X.evs.getD i ev0)
theorem pairsE_succ (stp X k) : pairsE stp X (k + 1) = pairsE stp X k ++ stp k (wOf X k) (X.evs.getD k ev0) := by simp [pairsE, List.range_succ]
theorem pairsE_len {stp X} (h : ∀ i w e, (stp i w e).length ≤ 1000) : ∀ k, (pairsE stp X k).length ≤ k * 1000
  | 0 => by simp [pairsE]
  | k + 1 => by
    rw [pairsE_succ, List.length_append, Nat.succ_mul]
    have h1 := pairsE_len (X := X) h k
    have h2 := h k (wOf X k) (X.evs.getD k ev0)
    omega
theorem mlook_cons (x k : ByteArray) (v : AV) (es) : mlook ((.s x, v) :: es) k = if k == x then some v else mlook es k := rfl
set_option maxRecDepth 100000 in
set_option maxHeartbeats 4000000 in
theorem sp_pairsE (h80 : F 80 = some A_eco_pairs) (h81 : F 81 = some A_graph_Of) (pr : Pk_rel F) {X : Gr} (hX : Few X) {s : ByteArray} {fid : Nat} {caps : List AV} {stp : Int → Int → Ev → List (Int × Int)}
    (hm : mlook [(.s ⟨#[114, 102]⟩, .fn 94 [] [.mp 4 0]), (.s ⟨#[99, 111]⟩, .fn 95 [] [.mp 7 0]), (.s ⟨#[102, 114]⟩, .fn 96 [] [.mp 7 0])] s = some (.fn fid [] caps))
    (hlen : ∀ i w e, (stp i w e).length ≤ 1000)
    (hstp : ∀ (l : List (Int × Int)) (g : G), EcoSt X l g → l.length < 1000000 → ∀ (i w : Int) (e : Ev), ∃ v g', callS F fid ([.i .i64 i, .i .i64 w, .agg (evC e)] ++ caps) g = some (v, g') ∧ EcoSt X (l ++ stp i w e) g' ∧ Kept g g') :
    pureS F 80 [.agg (grC X), .s s] = some (.ptr (relC (clamp X.evs.length) (newR (clamp X.evs.length) (pairsE stp X X.evs.length)))) := by
  refine pure_of h80 ?_
  have e1 : mlook [(AV.s ⟨#[114, 102]⟩, AV.fn 94 [] [.mp 4 0])] ⟨#[99, 111]⟩ = none := by rfl
  have e2 : mlook [(AV.s ⟨#[114, 102]⟩, AV.fn 94 [] [.mp 4 0]), (AV.s ⟨#[99, 111]⟩, AV.fn 95 [] [.mp 7 0])] ⟨#[102, 114]⟩ = none := by rfl
  have e0 : mlook [] (⟨#[114, 102]⟩ : ByteArray) = none := rfl
  have hev := hX.1
  simp (disch := omega) only [A_eco_pairs, wp, Nat.reduceAdd, Nat.reduceMul, Nat.reduceSub, gl, e0, e1, e2]
  refine W_loop (fun q e g => ∃ k, q = X.evs.length - k ∧ k ≤ X.evs.length ∧ e 1 = .s s ∧ e 2 = .mp 0 0 ∧ e 5 = .mp 2 0 ∧ e 8 = .mm 9 ∧ e 20 = .sl (evsC X.evs) X.evs.length .non ∧ e 21 = .i .i64 X.evs.length ∧ e 22 = .i .i64 k ∧ EcoSt X (pairsE stp X k) g) X.evs.length ?_ ?_
  · refine ⟨0, rfl, Nat.zero_le _, ?_⟩
    simp (disch := omega) only [wp, Nat.reduceAdd, Nat.reduceMul, Nat.reduceSub]
    refine ⟨rfl, ?_, ⟨.rig, ?_, .inl rfl⟩, ?_, ?_, ?_, ?_⟩
    · simp (disch := omega) only [upd_same, upd_ne]
    · simp (disch := omega) only [upd_same, upd_ne]; rfl
    · simp (disch := omega) only [upd_same, upd_ne]
    · simp (disch := omega) only [upd_same, upd_ne]
    · simp (disch := omega) only [upd_same, upd_ne]
    · first | omega | (dsimp only; omega)
  · rintro q e g ⟨k, rfl, hk, e1, e2, e5, e8, e20, e21, e22, S⟩
    have hnx := S.nx
    have h0 := S.gr
    have h9 := S.m9
    by_cases hk' : k < X.evs.length
    · have hk1 : (k : Int) < X.evs.length := by omega
      have hwk := succ_wrap (k := k) (by omega)
      have hp := ev_part hk'
      have hs := pairsE_succ stp X k
      have hl := pairsE_len (X := X) hlen k
      generalize hE : X.evs.getD k ev0 = ev at hp hs
      have grow : ∀ n, g.nx ≤ n → EcoSt X (pairsE stp X k) ⟨upd (upd g.hp (g.nx + 1 + 3) (some (.cells (List.replicate 5 (AV.i .i64 0) ++ [.b false]) false))) (g.nx + 1 + 3) (some (.cells (evC ev) false)), n⟩ := fun n hn =>
        (S.grow hn fun i hi => by
          show upd _ _ _ _ = _
          rw [upd_ne _ _ (by omega), upd_ne _ _ (by omega)]).1
      by_cases hr : k < X.rf.length
      · have hr1 : (k : Int) < X.rf.length := by omega
        have hip := ints_part hr
        have hw : wOf X k = X.rf.getD k 0 := if_pos hr
        rw [hw] at hs
        generalize X.rf.getD k 0 = w at hip hs
        simp (disch := omega) only [wp, Nat.reduceAdd, Nat.reduceMul, Nat.reduceSub, gl, e1, e2, e5, e8, e20, e21, e22, h0, h9, hk1, hp, hr1, hip, hm]
        refine bindO_call _ (hstp _ _ (grow _ (by omega)) (by omega) k w ev) ?_
        rintro v g3 ⟨S3, K3⟩
        simp (disch := omega) only [wp, Nat.reduceAdd, Nat.reduceMul, Nat.reduceSub, gl, e1, e2, e5, e8, e20, e21, e22, hwk]
        refine ⟨X.evs.length - (k + 1), by omega, k + 1, rfl, by omega, rfl, ?_⟩
        rw [hs]
        exact S3.on (by first | omega | (dsimp only; omega))
      · have hr1 : ¬ (k : Int) < X.rf.length := by omega
        have hw : wOf X k = -1 := if_neg hr
        rw [hw] at hs
        simp (disch := omega) only [wp, Nat.reduceAdd, Nat.reduceMul, Nat.reduceSub, gl, e1, e2, e5, e8, e20, e21, e22, h0, h9, hk1, hp, hr1, hm]
        refine bindO_call _ (hstp _ _ (grow _ (by omega)) (by omega) k (-1) ev) ?_
        rintro v g3 ⟨S3, K3⟩
        simp (disch := omega) only [wp, Nat.reduceAdd, Nat.reduceMul, Nat.reduceSub, gl, e1, e2, e5, e8, e20, e21, e22, hwk]
        refine ⟨X.evs.length - (k + 1), by omega, k + 1, rfl, by omega, rfl, ?_⟩
        rw [hs]
        exact S3.on (by first | omega | (dsimp only; omega))
    · obtain rfl : k = X.evs.length := by omega
      have hk1 : ¬ ((X.evs.length : Int) < X.evs.length) := by omega
      obtain ⟨t, hp, ht⟩ := S.put
      have hl := pairsE_len (X := X) hlen X.evs.length
      have hof := sp_of h81 pr X (pairsE stp X X.evs.length) .non (by omega)
      simp (disch := omega) only [wp, Nat.reduceAdd, Nat.reduceMul, Nat.reduceSub, gl, e1, e2, e5, e8, e20, e21, e22, h0, hk1, hp, hof]
end Go.Ab
end
section
/- eco.Rf, Co, Fr, Eco, some, Inner, Outer. -/
set_option linter.unusedVariables false
set_option linter.unusedSimpArgs false
namespace Go.Ab
variable {F : Funs}
def nOf (X : Gr) : Nat := clamp X.evs.length
def relE (stp : Int → Int → Ev → List (Int × Int)) (X : Gr) : Rw := newR (nOf X) (pairsE stp X X.evs.length)
theorem few_beh {X : Gr} (hX : Few X) (i w : Int) : (behL i w X.co).length ≤ 1000 := by
  have h1 := behL_len i w X.co hX.2.2
  have h2 : X.co.length * 60 ≤ 6 * 60 := Nat.mul_le_mul hX.2.1 (Nat.le_refl _)
  omega
theorem few_co {X : Gr} (hX : Few X) : X.co.length ≤ 1000 ∧ ∀ c ∈ X.co, c.length ≤ 1000 := ⟨by have := hX.2.1; omega, fun c hc => by have := hX.2.2 c hc; omega⟩
set_option maxRecDepth 100000 in
theorem sp_Rf (pe : Pk_eco F) (h81 : F 81 = some A_graph_Of) (pr : Pk_rel F) {X : Gr} (hX : Few X) : pureS F 48 [.agg (grC X)] = some (.ptr (relC (nOf X) (relE rfS X))) := by
  refine pure_of pe.eco_Rf ?_
  have h := sp_pairsE pe.eco_pairs h81 pr hX (s := ⟨#[114, 102]⟩) (fid := 94) (caps := [.mp 4 0]) (stp := rfS) (by rfl) (fun i w e => by unfold rfS; split <;> simp) (fun l g S hl i w e => sp_94 pe.eco_pairs_3 pe.eco_pairs_1 S hl i w e)
  simp (disch := omega) only [A_eco_Rf, wp, Nat.reduceAdd, Nat.reduceMul, Nat.reduceSub, gl, h]
  rfl
set_option maxRecDepth 100000 in
theorem sp_Co (pe : Pk_eco F) (h81 : F 81 = some A_graph_Of) (pr : Pk_rel F) {X : Gr} (hX : Few X) : pureS F 49 [.agg (grC X)] = some (.ptr (relC (nOf X) (relE (coS X.co) X))) := by
  refine pure_of pe.eco_Co ?_
  have h := sp_pairsE pe.eco_pairs h81 pr hX (s := ⟨#[99, 111]⟩) (fid := 95) (caps := [.mp 7 0]) (stp := coS X.co) (by rfl) (fun i w e => by unfold coS; split; exact few_beh hX i i; simp) (fun l g S hl i w e => sp_95 pe.eco_pairs_4 pe.eco_pairs_2 pe.eco_pairs_1 S hl (few_co hX) i w e)
  simp (disch := omega) only [A_eco_Co, wp, Nat.reduceAdd, Nat.reduceMul, Nat.reduceSub, gl, h]
  rfl
set_option maxRecDepth 100000 in
theorem sp_Fr (pe : Pk_eco F) (h81 : F 81 = some A_graph_Of) (pr : Pk_rel F) {X : Gr} (hX : Few X) : pureS F 50 [.agg (grC X)] = some (.ptr (relC (nOf X) (relE (frS X.co) X))) := by
  refine pure_of pe.eco_Fr ?_
  have h := sp_pairsE pe.eco_pairs h81 pr hX (s := ⟨#[102, 114]⟩) (fid := 96) (caps := [.mp 7 0]) (stp := frS X.co) (by rfl) (fun i w e => by unfold frS; split; exact few_beh hX i w; simp) (fun l g S hl i w e => sp_96 pe.eco_pairs_5 pe.eco_pairs_2 pe.eco_pairs_1 S hl (few_co hX) i w e)
  simp (disch := omega) only [A_eco_Fr, wp, Nat.reduceAdd, Nat.reduceMul, Nat.reduceSub, gl, h]
  rfl
def ecoR (X : Gr) : Rw := plusR (nOf X) (orR (orR (relE rfS X) (relE (coS X.co) X)) (relE (frS X.co) X))
theorem nOf_le (X : Gr) : nOf X ≤ 40 := clamp_le _
set_option maxRecDepth 100000 in
theorem sp_Eco (pe : Pk_eco F) (h81 : F 81 = some A_graph_Of) (pr : Pk_rel F) {X : Gr} (hX : Few X) : pureS F 42 [.agg (grC X)] = some (.ptr (relC (nOf X) (ecoR X))) := by
  refine pure_of pe.eco_Eco ?_
  have hn := nOf_le X
  simp (disch := omega) only [A_eco_Eco, wp, Nat.reduceAdd, Nat.reduceMul, Nat.reduceSub, gl, sp_Rf pe h81 pr hX, sp_Co pe h81 pr hX, sp_Fr pe h81 pr hX, sp_or pr, Nat.max_self, sp_plus pr]
  rfl

/-! ### some -/
def okP (so : Ev → Ev → Bool) (X : Gr) (p : Int × Int) : Bool := decide (p.1 < X.evs.length) && decide (p.2 < X.evs.length) && so (X.evs.getD p.1.toNat ev0) (X.evs.getD p.2.toNat ev0)
theorem filter_take {P : Int × Int → Bool} {l : List (Int × Int)} {k : Nat} (h : k < l.length) : (l.take (k + 1)).filter P = (l.take k).filter P ++ (if P (l.getD k (0, 0)) then [l.getD k (0, 0)] else []) := by
  rw [List.take_add_one, List.filter_append, List.getElem?_eq_getElem h, List.getD_eq_getElem?_getD, List.getElem?_eq_getElem h]
  simp only [Option.toList, Option.getD_some, List.filter_cons, List.filter_nil]
set_option maxRecDepth 100000 in
set_option maxHeartbeats 8000000 in
theorem sp_someE (pe : Pk_eco F) (h81 : F 81 = some A_graph_Of) (pr : Pk_rel F) {X : Gr} {n : Nat} (hn : n ≤ 40) (R : Rw) {fid : Nat} {so : Ev → Ev → Bool} (hso : ∀ x y, pureS F fid [.agg (evC x), .agg (evC y)] = some (.b (so x y))) :
    pureS F 57 [.agg (grC X), .ptr (relC n R), .fn fid [] []] = some (.ptr (relC (nOf X) (newR (nOf X) ((pairsR n R).filter (okP so X))))) := by
  refine pure_of pe.eco_some ?_
  have hlen := pairsR_len hn R
  simp (disch := omega) only [A_eco_some, wp, Nat.reduceAdd, Nat.reduceMul, Nat.reduceSub, gl, sp_pairs pr hn]
  generalize hL : pairsR n R = L at hlen
  refine W_loop (fun q e g => ∃ k t, q = L.length - k ∧ k ≤ L.length ∧ e 2 = .fn fid [] [] ∧ e 3 = .mp 0 0 ∧ e 11 = .sl (pairsC L) L.length .non ∧ e 12 = .i .i64 L.length ∧ e 13 = .i .i64 k ∧ e 7 = .sl (pairsC ((L.take k).filter (okP so X))) ((L.take k).filter (okP so X)).length t ∧ Live g 2 t ∧ g.hp 0 = some (.cells (grC X) false) ∧ 0 < g.nx) L.length ?_ ?_
  · refine ⟨0, .rig, rfl, Nat.zero_le _, ?_⟩
    simp (disch := omega) only [wp, Nat.reduceAdd, Nat.reduceMul, Nat.reduceSub]
    exact ⟨rfl, rfl, .inl rfl, by first | omega | (dsimp only; omega)⟩
  · rintro q e g ⟨k, t, rfl, hk, e2, e3, e11, e12, e13, e7, ht, h0, hnx⟩
    by_cases hk' : k < L.length
    · have hk1 : (k : Int) < L.length := by omega
      have hw := succ_wrap (k := k) (by omega)
      have hp := pairs_part hk'
      have hf := filter_take (P := okP so X) hk'
      have hfl : ((L.take k).filter (okP so X)).length ≤ 1600 := by
        have h1 := List.length_filter_le (okP so X) (L.take k)
        rw [List.length_take] at h1; omega
      have hmem : L.getD k (0, 0) ∈ pairsR n R := by
        rw [hL, List.getD_eq_getElem?_getD, List.getElem?_eq_getElem hk']
        exact List.getElem_mem hk'
      obtain ⟨m1, m2, m3, m4⟩ := pairsR_mem hmem
      generalize L.getD k (0, 0) = p at hp hf m1 m2 m3 m4
      generalize (L.take k).filter (okP so X) = B at e7 hf hfl
      obtain ⟨a, b⟩ := p
      simp only at m1 m2 m3 m4
      have n1 : 0 ≠ g.nx + 1 + 2 := by omega
      have hno : ∀ {x}, okP so X (a, b) = x → x = false → (L.take (k + 1)).filter (okP so X) = B := fun h1 h2 => by rw [hf, h1, h2]; simp
      by_cases iA : a < X.evs.length
      · by_cases iB : b < X.evs.length
        · have pA := ev_part (l := X.evs) (k := a.toNat) (by omega)
          have pB := ev_part (l := X.evs) (k := b.toNat) (by omega)
          cases hs : so (X.evs.getD a.toNat ev0) (X.evs.getD b.toNat ev0) with
          | true =>
            have hok : okP so X (a, b) = true := by simp only [okP, hs, decide_eq_true iA, decide_eq_true iB, Bool.and_true]
            rw [if_pos hok] at hf
            rcases ht with rfl | ⟨τ, rfl, hτ, hlt⟩
            · simp (disch := omega) only [wp, Nat.reduceAdd, Nat.reduceMul, Nat.reduceSub, gl, e2, e3, e11, e12, e13, e7, h0, hk1, hp, iA, iB, pA, pB, hso, hs, pairsC_len, hw]
              refine ⟨L.length - (k + 1), by omega, k + 1, ?_⟩
              rw [hf, pairsC_app, pairsC_one, List.length_append]
              exact ⟨_, rfl, by omega, rfl, rfl, .inr ⟨_, rfl, upd_same _ _ _, by first | omega | (dsimp only; omega)⟩, by first | omega | (dsimp only; omega)⟩
            · have n0 : τ ≠ 0 := fun h => by rw [h, h0] at hτ; cases hτ
              simp (disch := omega) only [wp, Nat.reduceAdd, Nat.reduceMul, Nat.reduceSub, gl, e2, e3, e11, e12, e13, e7, h0, hk1, hp, iA, iB, pA, pB, hso, hs, pairsC_len, hw, hτ]
              refine ⟨L.length - (k + 1), by omega, k + 1, ?_⟩
              rw [hf, pairsC_app, pairsC_one, List.length_append]
              exact ⟨_, rfl, by omega, rfl, rfl, .inr ⟨_, rfl, upd_same _ _ _, by first | omega | (dsimp only; omega)⟩, by first | omega | (dsimp only; omega)⟩
          | false =>
            have hB := hno (x := false) (by simp only [okP, hs, Bool.and_false]) rfl
            simp (disch := omega) only [wp, Nat.reduceAdd, Nat.reduceMul, Nat.reduceSub, gl, e2, e3, e11, e12, e13, e7, h0, hk1, hp, iA, iB, pA, pB, hso, hs, hw]
            refine ⟨L.length - (k + 1), by omega, k + 1, t, rfl, by omega, rfl, ?_⟩
            rw [hB]
            refine ⟨rfl, ?_, by first | omega | (dsimp only; omega)⟩
            rcases ht with rfl | ⟨τ, rfl, hτ, hlt⟩
            · exact .inl rfl
            · exact .inr ⟨τ, rfl, by simp (disch := omega) only [upd_ne]; exact hτ, by first | omega | (dsimp only; omega)⟩
        · have hB := hno (x := false) (by simp [okP, iB]) rfl
          simp (disch := omega) only [wp, Nat.reduceAdd, Nat.reduceMul, Nat.reduceSub, gl, e2, e3, e11, e12, e13, e7, h0, hk1, hp, iA, iB, hw]
          refine ⟨L.length - (k + 1), by omega, k + 1, t, rfl, by omega, rfl, ?_⟩
          rw [hB]
          refine ⟨rfl, ?_, by first | omega | (dsimp only; omega)⟩
          rcases ht with rfl | ⟨τ, rfl, hτ, hlt⟩
          · exact .inl rfl
          · exact .inr ⟨τ, rfl, by simp (disch := omega) only [upd_ne]; exact hτ, by first | omega | (dsimp only; omega)⟩
      · have hB := hno (x := false) (by simp [okP, iA]) rfl
        simp (disch := omega) only [wp, Nat.reduceAdd, Nat.reduceMul, Nat.reduceSub, gl, e2, e3, e11, e12, e13, e7, h0, hk1, hp, iA, hw]
        refine ⟨L.length - (k + 1), by omega, k + 1, t, rfl, by omega, rfl, ?_⟩
        rw [hB]
        refine ⟨rfl, ?_, by first | omega | (dsimp only; omega)⟩
        rcases ht with rfl | ⟨τ, rfl, hτ, hlt⟩
        · exact .inl rfl
        · exact .inr ⟨τ, rfl, by simp (disch := omega) only [upd_ne]; exact hτ, by first | omega | (dsimp only; omega)⟩
    · obtain rfl : k = L.length := by omega
      have hk1 : ¬ ((L.length : Int) < L.length) := by omega
      rw [List.take_length] at e7
      have hfl : (L.filter (okP so X)).length ≤ 1600 := by
        have h1 := List.length_filter_le (okP so X) L
        omega
      have hof := sp_of h81 pr X (L.filter (okP so X)) .non (by omega)
      simp (disch := omega) only [wp, Nat.reduceAdd, Nat.reduceMul, Nat.reduceSub, gl, e2, e3, e11, e12, e13, e7, h0, hk1, hof]
      rfl
end Go.Ab
end
section
/- eco.Inner, Outer, Loc; graph.Po. -/
set_option linter.unusedVariables false
set_option linter.unusedSimpArgs false
namespace Go.Ab
variable {F : Funs}
def inner (x y : Ev) : Bool := x.th == y.th
def outer (x y : Ev) : Bool := x.th != y.th
def locP (x y : Ev) : Bool := x.kd != 3 && y.kd != 3 && x.lc == y.lc
set_option maxRecDepth 100000 in
theorem sp_58 (h : F 58 = some A_eco_Inner_1) (x y : Ev) : pureS F 58 [.agg (evC x), .agg (evC y)] = some (.b (inner x y)) := by
  refine pure_of h ?_
  simp (disch := omega) only [A_eco_Inner_1, wp, Nat.reduceAdd, Nat.reduceMul, Nat.reduceSub, gl]
  rfl
set_option maxRecDepth 100000 in
theorem sp_59 (h : F 59 = some A_eco_Outer_1) (x y : Ev) : pureS F 59 [.agg (evC x), .agg (evC y)] = some (.b (outer x y)) := by
  refine pure_of h ?_
  simp (disch := omega) only [A_eco_Outer_1, wp, Nat.reduceAdd, Nat.reduceMul, Nat.reduceSub, gl]
  rfl
set_option maxRecDepth 100000 in
theorem sp_61 (h : F 61 = some A_eco_Loc_1) (x y : Ev) : pureS F 61 [.agg (evC x), .agg (evC y)] = some (.b (locP x y)) := by
  refine pure_of h ?_
  unfold locP
  cases h1 : (x.kd != 3) with
  | true =>
    cases h2 : (y.kd != 3) with
    | true => simp (disch := omega) only [A_eco_Loc_1, wp, Nat.reduceAdd, Nat.reduceMul, Nat.reduceSub, gl, h1, h2]
    | false => simp (disch := omega) only [A_eco_Loc_1, wp, Nat.reduceAdd, Nat.reduceMul, Nat.reduceSub, gl, h1, h2]
  | false => simp (disch := omega) only [A_eco_Loc_1, wp, Nat.reduceAdd, Nat.reduceMul, Nat.reduceSub, gl, h1]
def partR (so : Ev → Ev → Bool) (X : Gr) (n : Nat) (R : Rw) : Rw := newR (nOf X) ((pairsR n R).filter (okP so X))
set_option maxRecDepth 100000 in
theorem sp_Inner (pe : Pk_eco F) (h81 : F 81 = some A_graph_Of) (pr : Pk_rel F) {X : Gr} {n : Nat} (hn : n ≤ 40) (R : Rw) : pureS F 39 [.agg (grC X), .ptr (relC n R)] = some (.ptr (relC (nOf X) (partR inner X n R))) := by
  refine pure_of pe.eco_Inner ?_
  have h := sp_someE pe h81 pr (X := X) hn R (sp_58 pe.eco_Inner_1)
  simp (disch := omega) only [A_eco_Inner, wp, Nat.reduceAdd, Nat.reduceMul, Nat.reduceSub, gl, h]
  rfl
set_option maxRecDepth 100000 in
theorem sp_Outer (pe : Pk_eco F) (h81 : F 81 = some A_graph_Of) (pr : Pk_rel F) {X : Gr} {n : Nat} (hn : n ≤ 40) (R : Rw) : pureS F 40 [.agg (grC X), .ptr (relC n R)] = some (.ptr (relC (nOf X) (partR outer X n R))) := by
  refine pure_of pe.eco_Outer ?_
  have h := sp_someE pe h81 pr (X := X) hn R (sp_59 pe.eco_Outer_1)
  simp (disch := omega) only [A_eco_Outer, wp, Nat.reduceAdd, Nat.reduceMul, Nat.reduceSub, gl, h]
  rfl
end Go.Ab
end
section
/- graph.Po; eco.Loc. -/
set_option linter.unusedVariables false
set_option linter.unusedSimpArgs false
namespace Go.Ab
variable {F : Funs}
def poB (a b : Nat) (x y : Ev) : Bool := ((x.th == 0) && (y.th != 0)) || ((x.th == y.th) && ((x.th != 0) && decide (a < b)))
/-- The region that decides. -/
def poReg : ACode := match A_graph_Po.body with
  | .seq _ (.seq _ (.seq (.seq _ (.blk _ (.loop (.seq _ (.seq _ (.seq (.blk _ (.seq _ (.seq _ (.blk _ (.loop (.seq _ (.seq _ (.seq (.blk _ (.seq _ (.seq r _))) _)))))))) _)))))) _)) => r
  | _ => .skip
set_option maxRecDepth 100000 in
set_option maxHeartbeats 4000000 in
theorem po_reg {e : Env} {g : G} {a b i j : Nat} {x y : Ev} (h5 : e 5 = .mp i 0) (h7 : e 7 = .mp j 0) (h4 : e 4 = .i .i64 a) (h6 : e 6 = .i .i64 b) (hi : g.hp i = some (.cells (evC x) false)) (hj : g.hp j = some (.cells (evC y) false)) :
    W F poReg e g (midQ fun e' g' => e' 48 = .b (poB a b x y) ∧ (∀ t, t < 24 → e' t = e t) ∧ g' = ⟨g.hp, g.nx + 25⟩) := by
  have fin : ∀ {e' : Env}, (∀ t, t < 24 → e' t = e t) → True := fun _ => trivial
  unfold poB
  cases c1 : (x.th == 0) <;> cases c2 : (y.th != 0) <;> cases c3 : (x.th == y.th) <;> cases c4 : (x.th != 0) <;> cases c5 : decide ((a : Int) < b) <;>
    (have c5' : decide (a < b) = decide ((a : Int) < b) := by rw [decide_eq_decide]; omega) <;>
    rw [c5] at c5' <;>
    simp (disch := omega) only [poReg, A_graph_Po, wp, Nat.reduceAdd, Nat.reduceMul, Nat.reduceSub, gl, h5, h7, h4, h6, hi, hj, c1, c2, c3, c4, c5, c5'] <;>
    (intro t ht; simp (disch := omega) only [upd_ne])
def A_graph_Po' : AFun := { res := [.t 2], body := (.seq (.reg false [{ dst := some 1, op := .box (.t 0) },
  { dst := some 2, op := .mv (.c (.nilp)) }])
 (.seq (.reg false [{ dst := some 3, op := .mv (.c (.sl [] 0 .rig)) }])
 (.seq (.seq (.reg false [{ dst := some 8, op := .fa 1 (.t 1) },
  { dst := some 9, op := .ld none (.t 8) },
  { dst := some 10, op := .len (.t 9) },
  { dst := some 11, op := .mv (.c (.i .i64 0)) }])
 (.blk 0 (.loop (.seq (.reg false [{ dst := some 12, op := .bin .lss (.t 11) (.t 10) }])
 (.seq (.cond (.t 12) .skip
 (.ext 0))
 (.seq (.blk 1 (.seq (.reg false [{ dst := some 13, op := .mv (.t 11) },
  { dst := some 14, op := .ia 6 (.t 9) (.t 11) },
  { dst := some 15, op := .ld (some 6) (.t 14) },
  { dst := some 5, op := .new (List.replicate 5 (.i .i64 0) ++ [.b false]) },
  { dst := some 4, op := .mv (.t 13) },
  { dst := none, op := .st 6 (.t 5) (.t 15) }])
 (.seq (.reg false [{ dst := some 16, op := .fa 1 (.t 1) },
  { dst := some 17, op := .ld none (.t 16) },
  { dst := some 18, op := .len (.t 17) },
  { dst := some 19, op := .mv (.c (.i .i64 0)) }])
 (.blk 2 (.loop (.seq (.reg false [{ dst := some 20, op := .bin .lss (.t 19) (.t 18) }])
 (.seq (.cond (.t 20) .skip
 (.ext 2))
 (.seq (.blk 3 (.seq (.reg false [{ dst := some 21, op := .mv (.t 19) },
  { dst := some 22, op := .ia 6 (.t 17) (.t 19) },
  { dst := some 23, op := .ld (some 6) (.t 22) },
  { dst := some 7, op := .new (List.replicate 5 (.i .i64 0) ++ [.b false]) },
  { dst := some 6, op := .mv (.t 21) },
  { dst := none, op := .st 6 (.t 7) (.t 23) }])
 (.seq poReg
 (.cond (.t 48) (.reg false [{ dst := some 49, op := .mv (.t 3) },
  { dst := some 50, op := .mv (.t 4) },
  { dst := some 51, op := .mv (.t 6) },
  { dst := some 52, op := .build ([.i .i64 0, .i .i64 0]) [(0, 1, .t 50), (1, 1, .t 51)] },
  { dst := some 53, op := .bsl true 1 ([.i .i64 0, .i .i64 0]) [(0, 2, .t 52)] },
  { dst := some 54, op := .app 2 16 (.t 49) (.t 53) },
  { dst := some 3, op := .mv (.t 54) }])
 .skip))))
 (.reg false [{ dst := some 55, op := .bin .add (.t 19) (.c (.i .i64 1)) },
  { dst := some 19, op := .mv (.t 55) }])))))))))
 (.reg false [{ dst := some 56, op := .bin .add (.t 11) (.c (.i .i64 1)) },
  { dst := some 11, op := .mv (.t 56) }])))))))
 (.seq (.reg false [{ dst := some 57, op := .ld (some 8) (.t 1) },
  { dst := some 58, op := .mv (.t 3) },
  { dst := some 59, op := .call .pure (.c (.fn 81 [] [])) [.t 57, .t 58] },
  { dst := some 2, op := .mv (.t 59) }])
 .ret)))) }
theorem po_eq : A_graph_Po = A_graph_Po' := rfl
def poRow (X : Gr) (k j : Nat) : List (Int × Int) := ((List.range j).filter fun (b : Nat) => poB k b (X.evs.getD k ev0) (X.evs.getD b ev0)).map fun (b : Nat) => ((k : Int), (b : Int))
def poK (X : Gr) (k : Nat) : List (Int × Int) := (List.range k).flatMap fun a => poRow X a X.evs.length
def poL (X : Gr) (k j : Nat) : List (Int × Int) := poK X k ++ poRow X k j
theorem poK_succ (X k) : poK X (k + 1) = poL X k X.evs.length := by simp [poK, poL, List.range_succ]
theorem poL_0 (X k) : poL X k 0 = poK X k := by simp [poL, poRow]
theorem poL_succ (X k j) : poL X k (j + 1) = if poB k j (X.evs.getD k ev0) (X.evs.getD j ev0) then poL X k j ++ [((k : Int), (j : Int))] else poL X k j := by
  unfold poL poRow
  rw [List.range_succ, List.filter_append, List.filter_cons]
  split <;> simp
set_option maxRecDepth 100000 in
set_option maxHeartbeats 4000000 in
theorem sp_Po (h60 : F 60 = some A_graph_Po) (h81 : F 81 = some A_graph_Of) (pr : Pk_rel F) {X : Gr} (hX : X.evs.length ≤ 1000) : pureS F 60 [.agg (grC X)] = some (.ptr (relC (nOf X) (newR (nOf X) (poK X X.evs.length)))) := by
  rw [po_eq] at h60
  refine pure_of h60 ?_
  simp (disch := omega) only [A_graph_Po', wp, Nat.reduceAdd, Nat.reduceMul, Nat.reduceSub, gl]
  refine W_loop (fun q e g => ∃ k t, q = X.evs.length - k ∧ k ≤ X.evs.length ∧ e 1 = .mp 0 0 ∧ e 9 = .sl (evsC X.evs) X.evs.length .non ∧ e 10 = .i .i64 X.evs.length ∧ e 11 = .i .i64 k ∧ e 3 = .sl (pairsC (poK X k)) (poK X k).length t ∧ Live g 2 t ∧ (poK X k).length ≤ 1000 * k ∧ g.hp 0 = some (.cells (grC X) false) ∧ 0 < g.nx) X.evs.length ?_ ?_
  · refine ⟨0, .rig, rfl, Nat.zero_le _, ?_⟩
    simp (disch := omega) only [wp, Nat.reduceAdd, Nat.reduceMul, Nat.reduceSub]
    exact ⟨rfl, rfl, .inl rfl, Nat.zero_le _, by first | omega | (dsimp only; omega)⟩
  · rintro q e g ⟨k, t, rfl, hk, e1, e9, e10, e11, e3, ht, hl, h0, hnx⟩
    by_cases hk' : k < X.evs.length
    · have hk1 : (k : Int) < X.evs.length := by omega
      have hwk := succ_wrap (k := k) (by omega)
      have hpk := ev_part hk'
      have n1 : 0 ≠ g.nx + 1 + 3 := by omega
      simp (disch := omega) only [wp, Nat.reduceAdd, Nat.reduceMul, Nat.reduceSub, gl, e1, e9, e10, e11, e3, h0, hk1, hpk]
      refine W_loop (fun q e g2 => ∃ j t, q = X.evs.length - j ∧ j ≤ X.evs.length ∧ e 1 = .mp 0 0 ∧ e 9 = .sl (evsC X.evs) X.evs.length .non ∧ e 10 = .i .i64 X.evs.length ∧ e 11 = .i .i64 k ∧ e 4 = .i .i64 k ∧ e 5 = .mp (g.nx + 1 + 3) 0 ∧ e 17 = .sl (evsC X.evs) X.evs.length .non ∧ e 18 = .i .i64 X.evs.length ∧ e 19 = .i .i64 j ∧ e 3 = .sl (pairsC (poL X k j)) (poL X k j).length t ∧ Live g2 2 t ∧ (poL X k j).length ≤ 1000 * k + j ∧ g2.hp 0 = some (.cells (grC X) false) ∧ g2.hp (g.nx + 1 + 3) = some (.cells (evC (X.evs.getD k ev0)) false) ∧ g.nx + 1 + 3 < g2.nx) X.evs.length ?_ ?_
      · refine ⟨0, t, rfl, Nat.zero_le _, ?_⟩
        simp (disch := omega) only [wp, Nat.reduceAdd, Nat.reduceMul, Nat.reduceSub, e1, e9, e10, e11, e3, h0, poL_0]
        refine ⟨rfl, ?_, by first | omega | (dsimp only; omega), by first | omega | (dsimp only; omega)⟩
        rcases ht with rfl | ⟨τ, rfl, hτ, hlt⟩
        · exact .inl rfl
        · exact .inr ⟨τ, rfl, by simp (disch := omega) only [upd_ne]; exact hτ, by first | omega | (dsimp only; omega)⟩
      · rintro q e g2 ⟨j, t, rfl, hj, e1, e9, e10, e11, e4, e5, e17, e18, e19, e3, ht, hl, h0, hc, hn2⟩
        by_cases hj' : j < X.evs.length
        · have hj1 : (j : Int) < X.evs.length := by omega
          have hwj := succ_wrap (k := j) (by omega)
          have hpj := ev_part hj'
          have hLs := poL_succ X k j
          simp (disch := omega) only [wp, Nat.reduceAdd, Nat.reduceMul, Nat.reduceSub, gl, e1, e9, e10, e11, e4, e5, e17, e18, e19, e3, hj1, hpj]
          have m1 : g.nx + 1 + 3 ≠ g2.nx + 1 + 3 := by omega
          refine W_mono (po_reg (a := k) (b := j) (i := g.nx + 1 + 3) (j := g2.nx + 1 + 3) (x := X.evs.getD k ev0) (y := X.evs.getD j ev0) (by simp (disch := omega) only [upd_ne, e5]) (by simp (disch := omega) only [upd_ne, upd_same]) (by simp (disch := omega) only [upd_ne, e4]) (by simp (disch := omega) only [upd_ne, upd_same]) (by simp (disch := omega) only [upd_ne]; exact hc) (by simp (disch := omega) only [upd_same])) ?_
          intro o e' g' hm
          cases o with
          | ext n => exact hm.elim
          | ret => exact hm.elim
          | nrm =>
            obtain ⟨f48, hfr, rfl⟩ := hm
            have f1 := hfr 1 (by omega)
            have f3 := hfr 3 (by omega)
            have f4 := hfr 4 (by omega)
            have f5 := hfr 5 (by omega)
            have f6 := hfr 6 (by omega)
            have f9 := hfr 9 (by omega)
            have f10 := hfr 10 (by omega)
            have f11 := hfr 11 (by omega)
            have f17 := hfr 17 (by omega)
            have f18 := hfr 18 (by omega)
            have f19 := hfr 19 (by omega)
            simp (disch := omega) only [upd_ne, upd_same, e1, e3, e4, e5, e9, e10, e11, e17, e18, e19] at f1 f3 f4 f5 f6 f9 f10 f11 f17 f18 f19
            clear hfr
            cases hB : poB k j (X.evs.getD k ev0) (X.evs.getD j ev0) with
            | true =>
              rw [hB] at f48 hLs
              rw [if_pos rfl] at hLs
              rcases ht with rfl | ⟨τ, rfl, hτ, hlt⟩
              · simp (disch := omega) only [wp, Nat.reduceAdd, Nat.reduceMul, Nat.reduceSub, gl, f1, f3, f4, f5, f6, f9, f10, f11, f17, f18, f19, f48, pairsC_len, hwj]
                refine ⟨X.evs.length - (j + 1), by omega, j + 1, ?_⟩
                rw [hLs, pairsC_app, pairsC_one, List.length_append]
                exact ⟨_, rfl, by omega, rfl, rfl, .inr ⟨_, rfl, upd_same _ _ _, by first | omega | (dsimp only; omega)⟩, by simp; omega, h0, hc, by first | omega | (dsimp only; omega)⟩
              · have n0 : τ ≠ 0 := fun h => by rw [h, h0] at hτ; cases hτ
                have nc : τ ≠ g.nx + 1 + 3 := fun h => by rw [h, hc] at hτ; cases hτ
                simp (disch := omega) only [wp, Nat.reduceAdd, Nat.reduceMul, Nat.reduceSub, gl, f1, f3, f4, f5, f6, f9, f10, f11, f17, f18, f19, f48, pairsC_len, hwj, hτ]
                refine ⟨X.evs.length - (j + 1), by omega, j + 1, ?_⟩
                rw [hLs, pairsC_app, pairsC_one, List.length_append]
                exact ⟨_, rfl, by omega, rfl, rfl, .inr ⟨_, rfl, upd_same _ _ _, by first | omega | (dsimp only; omega)⟩, by simp; omega, h0, hc, by first | omega | (dsimp only; omega)⟩
            | false =>
              rw [hB] at f48 hLs
              rw [if_neg (by simp)] at hLs
              simp (disch := omega) only [wp, Nat.reduceAdd, Nat.reduceMul, Nat.reduceSub, gl, f1, f3, f4, f5, f6, f9, f10, f11, f17, f18, f19, f48, hwj]
              refine ⟨X.evs.length - (j + 1), by omega, j + 1, t, rfl, by omega, rfl, ?_⟩
              rw [hLs]
              refine ⟨rfl, ?_, by omega, by first | exact h0 | (simp (disch := omega) only [upd_ne]; exact h0), by first | exact hc | (simp (disch := omega) only [upd_ne]; exact hc), by first | omega | (dsimp only; omega)⟩
              rcases ht with rfl | ⟨τ, rfl, hτ, hlt⟩
              · exact .inl rfl
              · exact .inr ⟨τ, rfl, by simp (disch := omega) only [upd_ne]; exact hτ, by first | omega | (dsimp only; omega)⟩
        · obtain rfl : j = X.evs.length := by omega
          have hj1 : ¬ ((X.evs.length : Int) < X.evs.length) := by omega
          rw [← poK_succ] at e3 hl
          simp (disch := omega) only [wp, Nat.reduceAdd, Nat.reduceMul, Nat.reduceSub, gl, e1, e9, e10, e11, e4, e5, e17, e18, e19, e3, hj1, hwk]
          refine ⟨X.evs.length - (k + 1), by omega, k + 1, t, rfl, by omega, rfl, rfl, ?_, by omega, h0, by first | omega | (dsimp only; omega)⟩
          rcases ht with rfl | ⟨τ, rfl, hτ, hlt⟩
          · exact .inl rfl
          · exact .inr ⟨τ, rfl, hτ, by first | omega | (dsimp only; omega)⟩
    · obtain rfl : k = X.evs.length := by omega
      have hk1 : ¬ ((X.evs.length : Int) < X.evs.length) := by omega
      have hof := sp_of h81 pr X (poK X X.evs.length) .non (by omega)
      simp (disch := omega) only [wp, Nat.reduceAdd, Nat.reduceMul, Nat.reduceSub, gl, e1, e9, e10, e11, e3, h0, hk1, hof]
      rfl
theorem poRow_mem {X : Gr} {k j : Nat} {p : Int × Int} : p ∈ poRow X k j ↔ ∃ b : Nat, b < j ∧ poB k b (X.evs.getD k ev0) (X.evs.getD b ev0) = true ∧ p = ((k : Int), (b : Int)) := by
  unfold poRow
  simp only [List.mem_map, List.mem_filter, List.mem_range]
  constructor
  · rintro ⟨b, ⟨h1, h2⟩, rfl⟩; exact ⟨b, h1, h2, rfl⟩
  · rintro ⟨b, h1, h2, rfl⟩; exact ⟨b, ⟨h1, h2⟩, rfl⟩
def poR (X : Gr) : Rw := newR (nOf X) (poK X X.evs.length)
set_option maxRecDepth 100000 in
theorem sp_Loc (pe : Pk_eco F) (h60 : F 60 = some A_graph_Po) (h81 : F 81 = some A_graph_Of) (pr : Pk_rel F) {X : Gr} (hX : X.evs.length ≤ 1000) : pureS F 41 [.agg (grC X)] = some (.ptr (relC (nOf X) (partR locP X (nOf X) (poR X)))) := by
  refine pure_of pe.eco_Loc ?_
  have h1 := sp_Po h60 h81 pr hX
  have h := sp_someE pe h81 pr (X := X) (nOf_le X) (poR X) (sp_61 pe.eco_Loc_1)
  unfold poR at h
  simp (disch := omega) only [A_eco_Loc, wp, Nat.reduceAdd, Nat.reduceMul, Nat.reduceSub, gl, h1, h]
  rfl
end Go.Ab
end
section
/- Resolved functions of package xlaw09, written by a program (res.py). -/
namespace Go.Ab
def A_xlaw09_EcoThreads : AFun := { res := [.t 2], body := (.seq (.reg false [{ dst := some 2, op := .mv (.c (.b false)) }])
 (.seq (.reg false [{ dst := some 11, op := .build (List.replicate 5 (.i .i64 0) ++ [.b false]) [(1, 1, .c (.i .i64 2))] },
  { dst := some 12, op := .bsl true 1 (List.replicate 5 (.i .i64 0) ++ [.b false]) [(0, 6, .t 11)] },
  { dst := some 13, op := .bsl true 1 ([.i .i64 0]) [(0, 1, .c (.i .i64 (-1)))] },
  { dst := some 14, op := .bsl true 1 ([.i .i64 0]) [(0, 1, .c (.i .i64 0))] },
  { dst := some 15, op := .bsl true 1 ([.sl [] 0 .rig]) [(0, 1, .t 14)] },
  { dst := some 16, op := .build ([.i .i64 0] ++ List.replicate 7 (.sl [] 0 .rig)) [(0, 1, .c (.i .i64 1)), (1, 1, .t 12), (2, 1, .t 13), (3, 1, .t 15)] },
  { dst := some 3, op := .new ([.i .i64 0] ++ List.replicate 7 (.sl [] 0 .rig)) },
  { dst := none, op := .st 8 (.t 3) (.t 16) }])
 (.seq (.seq (.reg false [{ dst := some 4, op := .mv (.c (.i .i64 0)) }])
 (.blk 0 (.loop (.seq (.seq (.reg false [{ dst := some 17, op := .mv (.t 4) },
  { dst := some 18, op := .mv (.t 0) },
  { dst := some 19, op := .len (.t 18) },
  { dst := some 20, op := .bin .lss (.t 17) (.t 19) },
  { dst := some 21, op := .mv (.t 20) },
  { dst := some 22, op := .mv (.t 4), grd := some (21, true) },
  { dst := some 23, op := .bin .lss (.t 22) (.c (.i .i64 4)), grd := some (21, true) },
  { dst := some 24, op := .pick (.t 21) (.t 23) (.c (.b false)) }])
 (.cond (.t 24) .skip
 (.ext 0)))
 (.seq (.blk 1 (.seq (.reg false [{ dst := some 5, op := .mv (.c (.i .i64 0)) }])
 (.blk 2 (.loop (.seq (.seq (.reg false [{ dst := some 27, op := .mv (.t 5) },
  { dst := some 28, op := .mv (.t 0) },
  { dst := some 29, op := .mv (.t 4) },
  { dst := some 30, op := .ia 1 (.t 28) (.t 29) },
  { dst := some 31, op := .ld none (.t 30) },
  { dst := some 32, op := .call .pure (.c (.fn 10 [] [])) [.t 31, .c (.i .i64 6)] },
  { dst := some 33, op := .bin .lss (.t 27) (.t 32) }])
 (.cond (.t 33) .skip
 (.ext 2)))
 (.seq (.blk 3 (.reg true [{ dst := some 36, op := .fa 1 (.t 3) },
  { dst := some 37, op := .ld none (.t 36), pre := [] },
  { dst := some 38, op := .mv (.t 4) },
  { dst := some 39, op := .bin .add (.t 38) (.c (.i .i64 1)) },
  { dst := some 40, op := .build (List.replicate 5 (.i .i64 0) ++ [.b false]) [(0, 1, .t 39), (1, 1, .c (.i .i64 3)), (2, 1, .c (.i .i64 1))] },
  { dst := some 41, op := .bsl true 1 (List.replicate 5 (.i .i64 0) ++ [.b false]) [(0, 6, .t 40)], pre := [] },
  { dst := some 42, op := .app 6 48 (.t 37) (.t 41), pre := [] },
  { dst := some 43, op := .fa 2 (.t 3) },
  { dst := some 44, op := .ld none (.t 43), pre := [] },
  { dst := some 45, op := .bsl true 1 ([.i .i64 0]) [(0, 1, .c (.i .i64 (-1)))], pre := [] },
  { dst := some 46, op := .app 1 8 (.t 44) (.t 45), pre := [6] },
  { dst := some 47, op := .fa 1 (.t 3) },
  { dst := none, op := .st 1 (.t 47) (.t 42), pre := [6, 10] },
  { dst := some 48, op := .fa 2 (.t 3) },
  { dst := none, op := .st 1 (.t 48) (.t 46), pre := [6, 10] }]))
 (.reg false [{ dst := some 34, op := .mv (.t 5) },
  { dst := some 35, op := .bin .add (.t 34) (.c (.i .i64 1)) },
  { dst := some 5, op := .mv (.t 35) }])))))))
 (.reg false [{ dst := some 25, op := .mv (.t 4) },
  { dst := some 26, op := .bin .add (.t 25) (.c (.i .i64 1)) },
  { dst := some 4, op := .mv (.t 26) }]))))))
 (.seq (.reg false [{ dst := some 6, op := .mv (.c (.sl [] 0 .rig)) }])
 (.seq (.reg false [{ dst := some 7, op := .mv (.c (.i .i64 0)) }])
 (.seq (.seq (.reg false [{ dst := some 8, op := .mv (.c (.i .i64 0)) }])
 (.blk 4 (.loop (.seq (.seq (.reg false [{ dst := some 49, op := .mv (.t 8) },
  { dst := some 50, op := .fa 1 (.t 3) },
  { dst := some 51, op := .ld none (.t 50) },
  { dst := some 52, op := .len (.t 51) },
  { dst := some 53, op := .bin .lss (.t 49) (.t 52) }])
 (.cond (.t 53) .skip
 (.ext 4)))
 (.seq (.blk 5 (.seq (.reg false [{ dst := some 9, op := .mv (.c (.i .i64 0)) }])
 (.blk 6 (.loop (.seq (.seq (.reg false [{ dst := some 56, op := .mv (.t 9) },
  { dst := some 57, op := .fa 1 (.t 3) },
  { dst := some 58, op := .ld none (.t 57) },
  { dst := some 59, op := .len (.t 58) },
  { dst := some 60, op := .bin .lss (.t 56) (.t 59) }])
 (.cond (.t 60) .skip
 (.ext 6)))
 (.seq (.blk 7 (.seq (.reg false [{ dst := some 63, op := .mv (.t 6) },
  { dst := some 64, op := .mv (.t 8) },
  { dst := some 65, op := .mv (.t 9) },
  { dst := some 66, op := .build ([.i .i64 0, .i .i64 0]) [(0, 1, .t 64), (1, 1, .t 65)] },
  { dst := some 67, op := .bsl true 1 ([.i .i64 0, .i .i64 0]) [(0, 2, .t 66)] },
  { dst := some 68, op := .app 2 16 (.t 63) (.t 67) },
  { dst := some 6, op := .mv (.t 68) }])
 (.seq (.reg true [{ dst := some 69, op := .fa 1 (.t 3) },
  { dst := some 70, op := .ld none (.t 69), pre := [] },
  { dst := some 71, op := .mv (.t 8) },
  { dst := some 72, op := .ia 6 (.t 70) (.t 71) },
  { dst := some 73, op := .fa 0 (.t 72) },
  { dst := some 74, op := .ld none (.t 73), pre := [] },
  { dst := some 75, op := .fa 1 (.t 3) },
  { dst := some 76, op := .ld none (.t 75), pre := [] },
  { dst := some 77, op := .mv (.t 9) },
  { dst := some 78, op := .ia 6 (.t 76) (.t 77) },
  { dst := some 79, op := .fa 0 (.t 78) },
  { dst := some 80, op := .ld none (.t 79), pre := [] },
  { dst := some 81, op := .bin .eql (.t 74) (.t 80) }])
 (.cond (.t 81) (.reg false [{ dst := some 82, op := .mv (.t 7) },
  { dst := some 83, op := .bin .add (.t 82) (.c (.i .i64 1)) },
  { dst := some 7, op := .mv (.t 83) }])
 .skip))))
 (.reg false [{ dst := some 61, op := .mv (.t 9) },
  { dst := some 62, op := .bin .add (.t 61) (.c (.i .i64 1)) },
  { dst := some 9, op := .mv (.t 62) }])))))))
 (.reg false [{ dst := some 54, op := .mv (.t 8) },
  { dst := some 55, op := .bin .add (.t 54) (.c (.i .i64 1)) },
  { dst := some 8, op := .mv (.t 55) }]))))))
 (.seq (.reg false [{ dst := some 84, op := .fa 1 (.t 3) },
  { dst := some 85, op := .ld none (.t 84) },
  { dst := some 86, op := .len (.t 85) },
  { dst := some 87, op := .mv (.t 6) },
  { dst := some 88, op := .call .pure (.c (.fn 11 [] [])) [.t 86, .t 87] },
  { dst := some 10, op := .mv (.t 88) }])
 (.seq (.reg false [{ dst := some 89, op := .ld (some 8) (.t 3) },
  { dst := some 90, op := .mv (.t 10) },
  { dst := some 91, op := .call .pure (.c (.fn 39 [] [])) [.t 89, .t 90] },
  { dst := some 92, op := .call .pure (.c (.fn 15 [] [])) [.t 91] },
  { dst := some 93, op := .len (.t 92) },
  { dst := some 94, op := .mv (.t 7) },
  { dst := some 95, op := .bin .eql (.t 93) (.t 94) },
  { dst := some 96, op := .mv (.t 95) },
  { dst := some 97, op := .ld (some 8) (.t 3), grd := some (96, true) },
  { dst := some 98, op := .mv (.t 10), grd := some (96, true) },
  { dst := some 99, op := .call .pure (.c (.fn 40 [] [])) [.t 97, .t 98], grd := some (96, true) },
  { dst := some 100, op := .call .pure (.c (.fn 15 [] [])) [.t 99], grd := some (96, true) },
  { dst := some 101, op := .len (.t 100), grd := some (96, true) },
  { dst := some 102, op := .mv (.t 6), grd := some (96, true) },
  { dst := some 103, op := .len (.t 102), grd := some (96, true) },
  { dst := some 104, op := .mv (.t 7), grd := some (96, true) },
  { dst := some 105, op := .bin .sub (.t 103) (.t 104), grd := some (96, true) },
  { dst := some 106, op := .bin .eql (.t 101) (.t 105), grd := some (96, true) },
  { dst := some 107, op := .pick (.t 96) (.t 106) (.c (.b false)) },
  { dst := some 108, op := .mv (.t 107) },
  { dst := some 109, op := .ld (some 8) (.t 3), grd := some (108, true) },
  { dst := some 110, op := .call .pure (.c (.fn 41 [] [])) [.t 109], grd := some (108, true) },
  { dst := some 111, op := .call .pure (.c (.fn 15 [] [])) [.t 110], grd := some (108, true) },
  { dst := some 112, op := .len (.t 111), grd := some (108, true) },
  { dst := some 113, op := .bin .eql (.t 112) (.c (.i .i64 0)), grd := some (108, true) },
  { dst := some 114, op := .pick (.t 108) (.t 113) (.c (.b false)) },
  { dst := some 115, op := .mv (.t 114) },
  { dst := some 116, op := .ld (some 8) (.t 3), grd := some (115, true) },
  { dst := some 117, op := .call .pure (.c (.fn 42 [] [])) [.t 116], grd := some (115, true) },
  { dst := some 118, op := .call .pure (.c (.fn 15 [] [])) [.t 117], grd := some (115, true) },
  { dst := some 119, op := .len (.t 118), grd := some (115, true) },
  { dst := some 120, op := .bin .eql (.t 119) (.c (.i .i64 0)), grd := some (115, true) },
  { dst := some 121, op := .pick (.t 115) (.t 120) (.c (.b false)) },
  { dst := some 122, op := .mv (.t 121) },
  { dst := some 123, op := .call .pure (.c (.fn 43 [] [])) [], grd := some (122, true) },
  { dst := some 124, op := .pick (.t 122) (.t 123) (.c (.b false)) },
  { dst := some 2, op := .mv (.t 124) }])
 .ret)))))))) }
def A_xlaw09_EcoAny : AFun := { res := [.t 4], body := (.seq (.reg false [{ dst := some 2, op := .box (.t 0) },
  { dst := some 4, op := .mv (.c (.b false)) }])
 (.seq (.seq (.reg false [{ dst := some 5, op := .ld (some 8) (.t 2) },
  { dst := some 6, op := .call .pure (.c (.fn 44 [] [])) [.t 5] },
  { dst := some 7, op := .un .not (.t 6) },
  { dst := some 8, op := .mv (.t 7) },
  { dst := some 9, op := .mv (.t 1), grd := some (8, false) },
  { dst := some 10, op := .len (.t 9), grd := some (8, false) },
  { dst := some 11, op := .bin .gtr (.t 10) (.c (.i .i64 200)), grd := some (8, false) },
  { dst := some 12, op := .pick (.t 8) (.c (.b true)) (.t 11) },
  { dst := some 13, op := .mv (.t 12) },
  { dst := some 14, op := .ld (some 8) (.t 2), grd := some (13, false) },
  { dst := some 15, op := .call .pure (.c (.fn 45 [] [])) [.t 14], grd := some (13, false) },
  { dst := some 16, op := .un .not (.t 15), grd := some (13, false) },
  { dst := some 17, op := .pick (.t 13) (.c (.b true)) (.t 16) }])
 (.cond (.t 17) (.seq (.reg false [{ dst := some 18, op := .call .pure (.c (.fn 43 [] [])) [] },
  { dst := some 4, op := .mv (.t 18) }])
 .ret)
 .skip))
 (.seq (.reg false [{ dst := some 19, op := .ld (some 8) (.t 2) },
  { dst := some 20, op := .mv (.t 1) },
  { dst := some 21, op := .call .pure (.c (.fn 46 [] [])) [.t 19, .t 20] },
  { dst := some 22, op := .mv (.t 21) },
  { dst := some 23, op := .call .pure (.c (.fn 43 [] [])) [], grd := some (22, true) },
  { dst := some 24, op := .pick (.t 22) (.t 23) (.c (.b false)) },
  { dst := some 4, op := .mv (.t 24) }])
 .ret))) }
def A_xlaw09_EcoNumbers : AFun := { res := [.t 6], body := (.seq (.reg false [{ dst := some 6, op := .mv (.c (.b false)) }])
 (.seq (.reg false [{ dst := some 10, op := .mv (.t 0) },
  { dst := some 11, op := .mv (.t 1) },
  { dst := some 12, op := .call .pure (.c (.fn 47 [] [])) [.t 10, .t 11] },
  { dst := some 9, op := .mv (.t 12) },
  { dst := some 13, op := .ext 0 (.t 9) },
  { dst := some 14, op := .ext 1 (.t 9) },
  { dst := some 7, op := .new ([.i .i64 0] ++ List.replicate 7 (.sl [] 0 .rig)) },
  { dst := none, op := .st 8 (.t 7) (.t 13) },
  { dst := some 8, op := .mv (.t 14) }])
 (.seq (.seq (.reg false [{ dst := some 15, op := .mv (.t 8) },
  { dst := some 16, op := .un .not (.t 15) },
  { dst := some 17, op := .mv (.t 16) },
  { dst := some 18, op := .mv (.t 2), grd := some (17, false) },
  { dst := some 19, op := .len (.t 18), grd := some (17, false) },
  { dst := some 20, op := .bin .gtr (.t 19) (.c (.i .i64 200)), grd := some (17, false) },
  { dst := some 21, op := .pick (.t 17) (.c (.b true)) (.t 20) }])
 (.cond (.t 21) (.seq (.reg false [{ dst := some 22, op := .call .pure (.c (.fn 43 [] [])) [] },
  { dst := some 6, op := .mv (.t 22) }])
 .ret)
 .skip))
 (.seq (.reg false [{ dst := some 23, op := .ld (some 8) (.t 7) },
  { dst := some 24, op := .mv (.t 2) },
  { dst := some 25, op := .call .pure (.c (.fn 46 [] [])) [.t 23, .t 24] },
  { dst := some 26, op := .mv (.t 25) },
  { dst := some 27, op := .call .pure (.c (.fn 43 [] [])) [], grd := some (26, true) },
  { dst := some 28, op := .pick (.t 26) (.t 27) (.c (.b false)) },
  { dst := some 6, op := .mv (.t 28) }])
 .ret)))) }
def A_xlaw09_EcoLine : AFun := { res := [.t 4], body := (.seq (.reg false [{ dst := some 4, op := .mv (.c (.b false)) }])
 (.seq (.reg false [{ dst := some 16, op := .mv (.t 0) },
  { dst := some 17, op := .call .pure (.c (.fn 10 [] [])) [.t 16, .c (.i .i64 6)] },
  { dst := some 18, op := .mv (.t 1) },
  { dst := some 19, op := .call .pure (.c (.fn 10 [] [])) [.t 18, .c (.i .i64 3)] },
  { dst := some 5, op := .mv (.t 17) },
  { dst := some 6, op := .mv (.t 19) }])
 (.seq (.reg false [{ dst := some 20, op := .build (List.replicate 5 (.i .i64 0) ++ [.b false]) [(1, 1, .c (.i .i64 2))] },
  { dst := some 21, op := .bsl true 1 (List.replicate 5 (.i .i64 0) ++ [.b false]) [(0, 6, .t 20)] },
  { dst := some 22, op := .bsl true 1 ([.i .i64 0]) [(0, 1, .c (.i .i64 (-1)))] },
  { dst := some 23, op := .bsl true 1 ([.i .i64 0]) [(0, 1, .c (.i .i64 0))] },
  { dst := some 24, op := .bsl false 1 ([.sl [] 0 .rig]) [(0, 1, .t 23)] },
  { dst := some 25, op := .build ([.i .i64 0] ++ List.replicate 7 (.sl [] 0 .rig)) [(0, 1, .c (.i .i64 1)), (1, 1, .t 21), (2, 1, .t 22), (3, 1, .t 24)] },
  { dst := some 7, op := .new ([.i .i64 0] ++ List.replicate 7 (.sl [] 0 .rig)) },
  { dst := none, op := .st 8 (.t 7) (.t 25) }])
 (.seq (.seq (.reg false [{ dst := some 8, op := .mv (.c (.i .i64 0)) }])
 (.blk 0 (.loop (.seq (.seq (.reg false [{ dst := some 26, op := .mv (.t 8) },
  { dst := some 27, op := .mv (.t 5) },
  { dst := some 28, op := .bin .lss (.t 26) (.t 27) }])
 (.cond (.t 28) .skip
 (.ext 0)))
 (.seq (.blk 1 (.reg true [{ dst := some 31, op := .fa 3 (.t 7) },
  { dst := some 32, op := .ld none (.t 31), pre := [] },
  { dst := some 33, op := .fa 1 (.t 7) },
  { dst := some 34, op := .ld none (.t 33), pre := [] },
  { dst := some 35, op := .build (List.replicate 5 (.i .i64 0) ++ [.b false]) [(0, 1, .c (.i .i64 1)), (1, 1, .c (.i .i64 2))] },
  { dst := some 36, op := .bsl true 1 (List.replicate 5 (.i .i64 0) ++ [.b false]) [(0, 6, .t 35)], pre := [] },
  { dst := some 37, op := .app 6 48 (.t 34) (.t 36), pre := [] },
  { dst := some 38, op := .fa 2 (.t 7) },
  { dst := some 39, op := .ld none (.t 38), pre := [] },
  { dst := some 40, op := .bsl true 1 ([.i .i64 0]) [(0, 1, .c (.i .i64 (-1)))], pre := [] },
  { dst := some 41, op := .app 1 8 (.t 39) (.t 40), pre := [6] },
  { dst := some 42, op := .fa 3 (.t 7) },
  { dst := some 43, op := .ld none (.t 42), pre := [] },
  { dst := some 44, op := .ia 1 (.t 43) (.c (.i .i64 0)) },
  { dst := some 45, op := .ld none (.t 44), pre := [] },
  { dst := some 46, op := .mv (.t 8) },
  { dst := some 47, op := .bin .add (.c (.i .i64 1)) (.t 46) },
  { dst := some 48, op := .bsl true 1 ([.i .i64 0]) [(0, 1, .t 47)], pre := [] },
  { dst := some 49, op := .app 1 8 (.t 45) (.t 48), pre := [6, 10] },
  { dst := some 50, op := .fa 1 (.t 7) },
  { dst := none, op := .st 1 (.t 50) (.t 37), pre := [6, 10, 18] },
  { dst := some 51, op := .fa 2 (.t 7) },
  { dst := none, op := .st 1 (.t 51) (.t 41), pre := [6, 10, 18] },
  { dst := some 52, op := .ia 1 (.t 32) (.c (.i .i64 0)) },
  { dst := none, op := .st 1 (.t 52) (.t 49), pre := [6, 10, 18] }]))
 (.reg false [{ dst := some 29, op := .mv (.t 8) },
  { dst := some 30, op := .bin .add (.t 29) (.c (.i .i64 1)) },
  { dst := some 8, op := .mv (.t 30) }]))))))
 (.seq (.seq (.reg false [{ dst := some 9, op := .mv (.c (.i .i64 0)) }])
 (.blk 2 (.loop (.seq (.seq (.reg false [{ dst := some 53, op := .mv (.t 9) },
  { dst := some 54, op := .mv (.t 5) },
  { dst := some 55, op := .bin .leq (.t 53) (.t 54) }])
 (.cond (.t 55) .skip
 (.ext 2)))
 (.seq (.blk 3 (.seq (.reg false [{ dst := some 10, op := .mv (.c (.i .i64 0)) }])
 (.blk 4 (.loop (.seq (.seq (.reg false [{ dst := some 58, op := .mv (.t 10) },
  { dst := some 59, op := .mv (.t 6) },
  { dst := some 60, op := .bin .lss (.t 58) (.t 59) }])
 (.cond (.t 60) .skip
 (.ext 4)))
 (.seq (.blk 5 (.reg true [{ dst := some 63, op := .fa 1 (.t 7) },
  { dst := some 64, op := .ld none (.t 63), pre := [] },
  { dst := some 65, op := .build (List.replicate 5 (.i .i64 0) ++ [.b false]) [(0, 1, .c (.i .i64 2)), (1, 1, .c (.i .i64 1))] },
  { dst := some 66, op := .bsl true 1 (List.replicate 5 (.i .i64 0) ++ [.b false]) [(0, 6, .t 65)], pre := [] },
  { dst := some 67, op := .app 6 48 (.t 64) (.t 66), pre := [] },
  { dst := some 68, op := .fa 2 (.t 7) },
  { dst := some 69, op := .ld none (.t 68), pre := [] },
  { dst := some 70, op := .mv (.t 9) },
  { dst := some 71, op := .bsl true 1 ([.i .i64 0]) [(0, 1, .t 70)], pre := [] },
  { dst := some 72, op := .app 1 8 (.t 69) (.t 71), pre := [4] },
  { dst := some 73, op := .fa 1 (.t 7) },
  { dst := none, op := .st 1 (.t 73) (.t 67), pre := [4, 9] },
  { dst := some 74, op := .fa 2 (.t 7) },
  { dst := none, op := .st 1 (.t 74) (.t 72), pre := [4, 9] }]))
 (.reg false [{ dst := some 61, op := .mv (.t 10) },
  { dst := some 62, op := .bin .add (.t 61) (.c (.i .i64 1)) },
  { dst := some 10, op := .mv (.t 62) }])))))))
 (.reg false [{ dst := some 56, op := .mv (.t 9) },
  { dst := some 57, op := .bin .add (.t 56) (.c (.i .i64 1)) },
  { dst := some 9, op := .mv (.t 57) }]))))))
 (.seq (.lck 7 (.reg true [{ dst := some 75, op := .ld (some 8) (.t 7), pre := [] },
  { dst := some 76, op := .call .pure (.c (.fn 48 [] [])) [.t 75], pre := [] },
  { dst := some 77, op := .ld (some 8) (.t 7), pre := [] },
  { dst := some 78, op := .call .pure (.c (.fn 49 [] [])) [.t 77], pre := [] },
  { dst := some 79, op := .ld (some 8) (.t 7), pre := [] },
  { dst := some 80, op := .call .pure (.c (.fn 50 [] [])) [.t 79], pre := [] },
  { dst := some 81, op := .ld (some 8) (.t 7), pre := [] },
  { dst := some 82, op := .call .pure (.c (.fn 42 [] [])) [.t 81], pre := [] },
  { dst := some 11, op := .mv (.t 76) },
  { dst := some 12, op := .mv (.t 78) },
  { dst := some 13, op := .mv (.t 80) },
  { dst := some 14, op := .mv (.t 82) }]))
 (.seq (.reg false [{ dst := some 83, op := .mv (.t 5) },
  { dst := some 84, op := .mv (.t 5) },
  { dst := some 85, op := .bin .add (.t 84) (.c (.i .i64 1)) },
  { dst := some 86, op := .bin .mul (.t 83) (.t 85) },
  { dst := some 87, op := .bin .quo (.t 86) (.c (.i .i64 2)) },
  { dst := some 15, op := .mv (.t 87) }])
 (.seq (.reg false [{ dst := some 88, op := .mv (.t 11) },
  { dst := some 89, op := .call .pure (.c (.fn 15 [] [])) [.t 88] },
  { dst := some 90, op := .len (.t 89) },
  { dst := some 91, op := .mv (.t 6) },
  { dst := some 92, op := .mv (.t 5) },
  { dst := some 93, op := .bin .add (.t 92) (.c (.i .i64 1)) },
  { dst := some 94, op := .bin .mul (.t 91) (.t 93) },
  { dst := some 95, op := .bin .eql (.t 90) (.t 94) },
  { dst := some 96, op := .mv (.t 95) },
  { dst := some 97, op := .mv (.t 12), grd := some (96, true) },
  { dst := some 98, op := .call .pure (.c (.fn 15 [] [])) [.t 97], grd := some (96, true) },
  { dst := some 99, op := .len (.t 98), grd := some (96, true) },
  { dst := some 100, op := .mv (.t 15), grd := some (96, true) },
  { dst := some 101, op := .bin .eql (.t 99) (.t 100), grd := some (96, true) },
  { dst := some 102, op := .pick (.t 96) (.t 101) (.c (.b false)) },
  { dst := some 103, op := .mv (.t 102) },
  { dst := some 104, op := .mv (.t 13), grd := some (103, true) },
  { dst := some 105, op := .call .pure (.c (.fn 15 [] [])) [.t 104], grd := some (103, true) },
  { dst := some 106, op := .len (.t 105), grd := some (103, true) },
  { dst := some 107, op := .mv (.t 6), grd := some (103, true) },
  { dst := some 108, op := .mv (.t 15), grd := some (103, true) },
  { dst := some 109, op := .bin .mul (.t 107) (.t 108), grd := some (103, true) },
  { dst := some 110, op := .bin .eql (.t 106) (.t 109), grd := some (103, true) },
  { dst := some 111, op := .pick (.t 103) (.t 110) (.c (.b false)) },
  { dst := some 112, op := .mv (.t 111) },
  { dst := some 113, op := .mv (.t 14), grd := some (112, true) },
  { dst := some 114, op := .call .pure (.c (.fn 15 [] [])) [.t 113], grd := some (112, true) },
  { dst := some 115, op := .len (.t 114), grd := some (112, true) },
  { dst := some 116, op := .mv (.t 6), grd := some (112, true) },
  { dst := some 117, op := .mv (.t 5), grd := some (112, true) },
  { dst := some 118, op := .bin .add (.t 117) (.c (.i .i64 1)), grd := some (112, true) },
  { dst := some 119, op := .bin .mul (.t 116) (.t 118), grd := some (112, true) },
  { dst := some 120, op := .mv (.t 15), grd := some (112, true) },
  { dst := some 121, op := .bin .add (.t 119) (.t 120), grd := some (112, true) },
  { dst := some 122, op := .mv (.t 6), grd := some (112, true) },
  { dst := some 123, op := .mv (.t 15), grd := some (112, true) },
  { dst := some 124, op := .bin .mul (.t 122) (.t 123), grd := some (112, true) },
  { dst := some 125, op := .bin .add (.t 121) (.t 124), grd := some (112, true) },
  { dst := some 126, op := .mv (.t 6), grd := some (112, true) },
  { dst := some 127, op := .mv (.t 15), grd := some (112, true) },
  { dst := some 128, op := .bin .mul (.t 126) (.t 127), grd := some (112, true) },
  { dst := some 129, op := .bin .add (.t 125) (.t 128), grd := some (112, true) },
  { dst := some 130, op := .mv (.t 6), grd := some (112, true) },
  { dst := some 131, op := .mv (.t 6), grd := some (112, true) },
  { dst := some 132, op := .bin .mul (.t 130) (.t 131), grd := some (112, true) },
  { dst := some 133, op := .mv (.t 15), grd := some (112, true) },
  { dst := some 134, op := .bin .mul (.t 132) (.t 133), grd := some (112, true) },
  { dst := some 135, op := .bin .add (.t 129) (.t 134), grd := some (112, true) },
  { dst := some 136, op := .bin .eql (.t 115) (.t 135), grd := some (112, true) },
  { dst := some 137, op := .pick (.t 112) (.t 136) (.c (.b false)) },
  { dst := some 138, op := .mv (.t 137) },
  { dst := some 139, op := .mv (.t 14), grd := some (138, true) },
  { dst := some 140, op := .call .pure (.c (.fn 14 [] [])) [.t 139], grd := some (138, true) },
  { dst := some 141, op := .un .not (.t 140), grd := some (138, true) },
  { dst := some 142, op := .pick (.t 138) (.t 141) (.c (.b false)) },
  { dst := some 143, op := .mv (.t 142) },
  { dst := some 144, op := .ld (some 8) (.t 7), grd := some (143, true) },
  { dst := some 145, op := .mv (.t 11), grd := some (143, true) },
  { dst := some 146, op := .call .pure (.c (.fn 39 [] [])) [.t 144, .t 145], grd := some (143, true) },
  { dst := some 147, op := .call .pure (.c (.fn 15 [] [])) [.t 146], grd := some (143, true) },
  { dst := some 148, op := .len (.t 147), grd := some (143, true) },
  { dst := some 149, op := .bin .eql (.t 148) (.c (.i .i64 0)), grd := some (143, true) },
  { dst := some 150, op := .pick (.t 143) (.t 149) (.c (.b false)) },
  { dst := some 151, op := .mv (.t 150) },
  { dst := some 152, op := .ld (some 8) (.t 7), grd := some (151, true) },
  { dst := some 153, op := .mv (.t 12), grd := some (151, true) },
  { dst := some 154, op := .call .pure (.c (.fn 40 [] [])) [.t 152, .t 153], grd := some (151, true) },
  { dst := some 155, op := .call .pure (.c (.fn 15 [] [])) [.t 154], grd := some (151, true) },
  { dst := some 156, op := .len (.t 155), grd := some (151, true) },
  { dst := some 157, op := .mv (.t 5), grd := some (151, true) },
  { dst := some 158, op := .bin .eql (.t 156) (.t 157), grd := some (151, true) },
  { dst := some 159, op := .pick (.t 151) (.t 158) (.c (.b false)) },
  { dst := some 160, op := .mv (.t 159) },
  { dst := some 161, op := .call .pure (.c (.fn 43 [] [])) [], grd := some (160, true) },
  { dst := some 162, op := .pick (.t 160) (.t 161) (.c (.b false)) },
  { dst := some 4, op := .mv (.t 162) }])
 .ret)))))))) }
def A_xlaw09_EcoPlaces : AFun := { res := [.t 4], body := (.seq (.reg false [{ dst := some 4, op := .mv (.c (.b false)) }])
 (.seq (.reg false [{ dst := some 20, op := .mv (.t 0) },
  { dst := some 21, op := .mv (.t 1) },
  { dst := some 22, op := .call .pure (.c (.fn 47 [] [])) [.t 20, .t 21] },
  { dst := some 19, op := .mv (.t 22) },
  { dst := some 23, op := .ext 0 (.t 19) },
  { dst := some 24, op := .ext 1 (.t 19) },
  { dst := some 5, op := .new ([.i .i64 0] ++ List.replicate 7 (.sl [] 0 .rig)) },
  { dst := none, op := .st 8 (.t 5) (.t 23) },
  { dst := some 6, op := .mv (.t 24) }])
 (.seq (.seq (.reg false [{ dst := some 25, op := .mv (.t 6) },
  { dst := some 26, op := .un .not (.t 25) }])
 (.cond (.t 26) (.seq (.reg false [{ dst := some 27, op := .call .pure (.c (.fn 43 [] [])) [] },
  { dst := some 4, op := .mv (.t 27) }])
 .ret)
 .skip))
 (.seq (.reg true [{ dst := some 28, op := .ld (some 8) (.t 5), pre := [] },
  { dst := some 29, op := .call .pure (.c (.fn 42 [] [])) [.t 28], pre := [] },
  { dst := some 30, op := .ld (some 8) (.t 5), pre := [] },
  { dst := some 31, op := .call .pure (.c (.fn 49 [] [])) [.t 30], pre := [] },
  { dst := some 32, op := .ld (some 8) (.t 5), pre := [] },
  { dst := some 33, op := .call .pure (.c (.fn 48 [] [])) [.t 32], pre := [] },
  { dst := some 34, op := .ld (some 8) (.t 5), pre := [] },
  { dst := some 35, op := .call .pure (.c (.fn 50 [] [])) [.t 34], pre := [] },
  { dst := some 7, op := .mv (.t 29) },
  { dst := some 8, op := .mv (.t 31) },
  { dst := some 9, op := .mv (.t 33) },
  { dst := some 10, op := .mv (.t 35) }])
 (.seq (.seq (.reg false [{ dst := some 36, op := .mv (.t 7) },
  { dst := some 37, op := .call .pure (.c (.fn 15 [] [])) [.t 36] },
  { dst := some 38, op := .len (.t 37) },
  { dst := some 39, op := .mv (.c (.i .i64 0)) }])
 (.blk 0 (.loop (.seq (.reg false [{ dst := some 40, op := .bin .lss (.t 39) (.t 38) }])
 (.seq (.cond (.t 40) .skip
 (.ext 0))
 (.seq (.blk 1 (.seq (.reg false [{ dst := some 41, op := .ia 2 (.t 37) (.t 39) },
  { dst := some 42, op := .ld (some 2) (.t 41) },
  { dst := some 12, op := .new ([.i .i64 0, .i .i64 0]) },
  { dst := none, op := .st 2 (.t 12) (.t 42) }])
 (.seq (.reg true [{ dst := some 43, op := .fa 0 (.t 12) },
  { dst := some 44, op := .ld none (.t 43), pre := [] },
  { dst := some 45, op := .bin .lss (.t 44) (.c (.i .i64 0)) },
  { dst := some 46, op := .mv (.t 45) },
  { dst := some 47, op := .fa 1 (.t 12), grd := some (46, false) },
  { dst := some 48, op := .ld none (.t 47), grd := some (46, false), pre := [] },
  { dst := some 49, op := .bin .lss (.t 48) (.c (.i .i64 0)), grd := some (46, false) },
  { dst := some 50, op := .pick (.t 46) (.c (.b true)) (.t 49) },
  { dst := some 51, op := .mv (.t 50) },
  { dst := some 52, op := .fa 0 (.t 12), grd := some (51, false) },
  { dst := some 53, op := .ld none (.t 52), grd := some (51, false), pre := [] },
  { dst := some 54, op := .fa 1 (.t 5), grd := some (51, false) },
  { dst := some 55, op := .ld none (.t 54), grd := some (51, false), pre := [] },
  { dst := some 56, op := .len (.t 55), grd := some (51, false) },
  { dst := some 57, op := .bin .geq (.t 53) (.t 56), grd := some (51, false) },
  { dst := some 58, op := .pick (.t 51) (.c (.b true)) (.t 57) },
  { dst := some 59, op := .mv (.t 58) },
  { dst := some 60, op := .fa 1 (.t 12), grd := some (59, false) },
  { dst := some 61, op := .ld none (.t 60), grd := some (59, false), pre := [] },
  { dst := some 62, op := .fa 1 (.t 5), grd := some (59, false) },
  { dst := some 63, op := .ld none (.t 62), grd := some (59, false), pre := [] },
  { dst := some 64, op := .len (.t 63), grd := some (59, false) },
  { dst := some 65, op := .bin .geq (.t 61) (.t 64), grd := some (59, false) },
  { dst := some 66, op := .pick (.t 59) (.c (.b true)) (.t 65) },
  { dst := some 67, op := .mv (.t 66) },
  { dst := some 68, op := .fa 1 (.t 5), grd := some (67, false) },
  { dst := some 69, op := .ld none (.t 68), grd := some (67, false), pre := [] },
  { dst := some 70, op := .fa 0 (.t 12), grd := some (67, false) },
  { dst := some 71, op := .ld none (.t 70), grd := some (67, false), pre := [] },
  { dst := some 72, op := .ia 6 (.t 69) (.t 71), grd := some (67, false) },
  { dst := some 73, op := .fa 3 (.t 72), grd := some (67, false) },
  { dst := some 74, op := .ld none (.t 73), grd := some (67, false), pre := [] },
  { dst := some 75, op := .fa 1 (.t 5), grd := some (67, false) },
  { dst := some 76, op := .ld none (.t 75), grd := some (67, false), pre := [] },
  { dst := some 77, op := .fa 1 (.t 12), grd := some (67, false) },
  { dst := some 78, op := .ld none (.t 77), grd := some (67, false), pre := [] },
  { dst := some 79, op := .ia 6 (.t 76) (.t 78), grd := some (67, false) },
  { dst := some 80, op := .fa 3 (.t 79), grd := some (67, false) },
  { dst := some 81, op := .ld none (.t 80), grd := some (67, false), pre := [] },
  { dst := some 82, op := .bin .neq (.t 74) (.t 81), grd := some (67, false) },
  { dst := some 83, op := .pick (.t 67) (.c (.b true)) (.t 82) },
  { dst := some 84, op := .mv (.t 83) },
  { dst := some 85, op := .fa 1 (.t 5), grd := some (84, false) },
  { dst := some 86, op := .ld none (.t 85), grd := some (84, false), pre := [] },
  { dst := some 87, op := .fa 0 (.t 12), grd := some (84, false) },
  { dst := some 88, op := .ld none (.t 87), grd := some (84, false), pre := [] },
  { dst := some 89, op := .ia 6 (.t 86) (.t 88), grd := some (84, false) },
  { dst := some 90, op := .fa 1 (.t 89), grd := some (84, false) },
  { dst := some 91, op := .ld none (.t 90), grd := some (84, false), pre := [] },
  { dst := some 92, op := .bin .eql (.t 91) (.c (.i .i64 3)), grd := some (84, false) },
  { dst := some 93, op := .pick (.t 84) (.c (.b true)) (.t 92) },
  { dst := some 94, op := .mv (.t 93) },
  { dst := some 95, op := .fa 1 (.t 5), grd := some (94, false) },
  { dst := some 96, op := .ld none (.t 95), grd := some (94, false), pre := [] },
  { dst := some 97, op := .fa 1 (.t 12), grd := some (94, false) },
  { dst := some 98, op := .ld none (.t 97), grd := some (94, false), pre := [] },
  { dst := some 99, op := .ia 6 (.t 96) (.t 98), grd := some (94, false) },
  { dst := some 100, op := .fa 1 (.t 99), grd := some (94, false) },
  { dst := some 101, op := .ld none (.t 100), grd := some (94, false), pre := [] },
  { dst := some 102, op := .bin .eql (.t 101) (.c (.i .i64 3)), grd := some (94, false) },
  { dst := some 103, op := .pick (.t 94) (.c (.b true)) (.t 102) }])
 (.cond (.t 103) (.seq (.reg false [{ dst := some 4, op := .mv (.c (.b false)) }])
 .ret)
 .skip))))
 (.reg false [{ dst := some 104, op := .bin .add (.t 39) (.c (.i .i64 1)) },
  { dst := some 39, op := .mv (.t 104) }])))))))
 (.seq (.seq (.reg false [{ dst := some 13, op := .mv (.c (.i .i64 0)) }])
 (.blk 2 (.loop (.seq (.seq (.reg false [{ dst := some 105, op := .mv (.t 13) },
  { dst := some 106, op := .fa 1 (.t 5) },
  { dst := some 107, op := .ld none (.t 106) },
  { dst := some 108, op := .len (.t 107) },
  { dst := some 109, op := .bin .lss (.t 105) (.t 108) }])
 (.cond (.t 109) .skip
 (.ext 2)))
 (.seq (.blk 3 (.seq (.seq (.reg false [{ dst := some 14, op := .mv (.c (.i .i64 0)) }])
 (.blk 4 (.loop (.seq (.seq (.reg false [{ dst := some 112, op := .mv (.t 14) },
  { dst := some 113, op := .fa 1 (.t 5) },
  { dst := some 114, op := .ld none (.t 113) },
  { dst := some 115, op := .len (.t 114) },
  { dst := some 116, op := .bin .lss (.t 112) (.t 115) }])
 (.cond (.t 116) .skip
 (.ext 4)))
 (.seq (.blk 5 (.seq (.reg true [{ dst := some 119, op := .fa 1 (.t 5) },
  { dst := some 120, op := .ld none (.t 119), pre := [] },
  { dst := some 121, op := .mv (.t 13) },
  { dst := some 122, op := .ia 6 (.t 120) (.t 121) },
  { dst := some 123, op := .ld (some 6) (.t 122), pre := [] },
  { dst := some 124, op := .fa 1 (.t 5) },
  { dst := some 125, op := .ld none (.t 124), pre := [] },
  { dst := some 126, op := .mv (.t 14) },
  { dst := some 127, op := .ia 6 (.t 125) (.t 126) },
  { dst := some 128, op := .ld (some 6) (.t 127), pre := [] },
  { dst := some 15, op := .new (List.replicate 5 (.i .i64 0) ++ [.b false]) },
  { dst := some 16, op := .new (List.replicate 5 (.i .i64 0) ++ [.b false]) },
  { dst := none, op := .stL 6 (.t 15) (.t 123), pre := [10] },
  { dst := none, op := .stL 6 (.t 16) (.t 128), pre := [11] }])
 (.seq (.reg false [{ dst := some 129, op := .fa 1 (.t 15) },
  { dst := some 130, op := .ld none (.t 129) },
  { dst := some 131, op := .bin .eql (.t 130) (.c (.i .i64 2)) },
  { dst := some 132, op := .mv (.t 131) },
  { dst := some 133, op := .fa 1 (.t 16), grd := some (132, true) },
  { dst := some 134, op := .ld none (.t 133), grd := some (132, true) },
  { dst := some 135, op := .bin .eql (.t 134) (.c (.i .i64 2)), grd := some (132, true) },
  { dst := some 136, op := .pick (.t 132) (.t 135) (.c (.b false)) },
  { dst := some 137, op := .mv (.t 136) },
  { dst := some 138, op := .fa 3 (.t 15), grd := some (137, true) },
  { dst := some 139, op := .ld none (.t 138), grd := some (137, true) },
  { dst := some 140, op := .fa 3 (.t 16), grd := some (137, true) },
  { dst := some 141, op := .ld none (.t 140), grd := some (137, true) },
  { dst := some 142, op := .bin .eql (.t 139) (.t 141), grd := some (137, true) },
  { dst := some 143, op := .pick (.t 137) (.t 142) (.c (.b false)) },
  { dst := some 144, op := .mv (.t 143) },
  { dst := some 145, op := .mv (.t 13), grd := some (144, true) },
  { dst := some 146, op := .mv (.t 14), grd := some (144, true) },
  { dst := some 147, op := .bin .neq (.t 145) (.t 146), grd := some (144, true) },
  { dst := some 148, op := .pick (.t 144) (.t 147) (.c (.b false)) },
  { dst := some 149, op := .mv (.t 148) },
  { dst := some 150, op := .mv (.t 8), grd := some (149, true) },
  { dst := some 151, op := .mv (.t 13), grd := some (149, true) },
  { dst := some 152, op := .mv (.t 14), grd := some (149, true) },
  { dst := some 153, op := .call .pure (.c (.fn 13 [] [])) [.t 150, .t 151, .t 152], grd := some (149, true) },
  { dst := some 154, op := .mv (.t 8), grd := some (149, true) },
  { dst := some 155, op := .mv (.t 14), grd := some (149, true) },
  { dst := some 156, op := .mv (.t 13), grd := some (149, true) },
  { dst := some 157, op := .call .pure (.c (.fn 13 [] [])) [.t 154, .t 155, .t 156], grd := some (149, true) },
  { dst := some 158, op := .eqb false (.t 153) (.t 157), grd := some (149, true) },
  { dst := some 159, op := .pick (.t 149) (.t 158) (.c (.b false)) }])
 (.cond (.t 159) (.seq (.reg false [{ dst := some 4, op := .mv (.c (.b false)) }])
 .ret)
 .skip))))
 (.reg false [{ dst := some 117, op := .mv (.t 14) },
  { dst := some 118, op := .bin .add (.t 117) (.c (.i .i64 1)) },
  { dst := some 14, op := .mv (.t 118) }]))))))
 (.seq (.reg false [{ dst := some 160, op := .fa 2 (.t 5) },
  { dst := some 161, op := .ld none (.t 160) },
  { dst := some 162, op := .mv (.t 13) },
  { dst := some 163, op := .ia 1 (.t 161) (.t 162) },
  { dst := some 164, op := .ld none (.t 163) },
  { dst := some 17, op := .mv (.t 164) }])
 (.seq (.reg false [{ dst := some 165, op := .mv (.t 17) },
  { dst := some 166, op := .bin .geq (.t 165) (.c (.i .i64 0)) }])
 (.cond (.t 166) (.seq (.reg false [{ dst := some 18, op := .mv (.c (.i .i64 0)) }])
 (.blk 6 (.loop (.seq (.seq (.reg false [{ dst := some 167, op := .mv (.t 18) },
  { dst := some 168, op := .fa 1 (.t 5) },
  { dst := some 169, op := .ld none (.t 168) },
  { dst := some 170, op := .len (.t 169) },
  { dst := some 171, op := .bin .lss (.t 167) (.t 170) }])
 (.cond (.t 171) .skip
 (.ext 6)))
 (.seq (.blk 7 (.seq (.reg false [{ dst := some 174, op := .mv (.t 10) },
  { dst := some 175, op := .mv (.t 13) },
  { dst := some 176, op := .mv (.t 18) },
  { dst := some 177, op := .call .pure (.c (.fn 13 [] [])) [.t 174, .t 175, .t 176] },
  { dst := some 178, op := .mv (.t 8) },
  { dst := some 179, op := .mv (.t 17) },
  { dst := some 180, op := .mv (.t 18) },
  { dst := some 181, op := .call .pure (.c (.fn 13 [] [])) [.t 178, .t 179, .t 180] },
  { dst := some 182, op := .eqb true (.t 177) (.t 181) },
  { dst := some 183, op := .mv (.t 182) },
  { dst := some 184, op := .mv (.t 9), grd := some (183, false) },
  { dst := some 185, op := .mv (.t 18), grd := some (183, false) },
  { dst := some 186, op := .mv (.t 13), grd := some (183, false) },
  { dst := some 187, op := .call .pure (.c (.fn 13 [] [])) [.t 184, .t 185, .t 186], grd := some (183, false) },
  { dst := some 188, op := .mv (.t 18), grd := some (183, false) },
  { dst := some 189, op := .mv (.t 17), grd := some (183, false) },
  { dst := some 190, op := .bin .eql (.t 188) (.t 189), grd := some (183, false) },
  { dst := some 191, op := .eqb true (.t 187) (.t 190), grd := some (183, false) },
  { dst := some 192, op := .pick (.t 183) (.c (.b true)) (.t 191) }])
 (.cond (.t 192) (.seq (.reg false [{ dst := some 4, op := .mv (.c (.b false)) }])
 .ret)
 .skip)))
 (.reg false [{ dst := some 172, op := .mv (.t 18) },
  { dst := some 173, op := .bin .add (.t 172) (.c (.i .i64 1)) },
  { dst := some 18, op := .mv (.t 173) }]))))))
 .skip)))))
 (.reg false [{ dst := some 110, op := .mv (.t 13) },
  { dst := some 111, op := .bin .add (.t 110) (.c (.i .i64 1)) },
  { dst := some 13, op := .mv (.t 111) }]))))))
 (.seq (.reg true [{ dst := some 193, op := .mv (.t 8) },
  { dst := some 194, op := .call .pure (.c (.fn 14 [] [])) [.t 193], pre := [] },
  { dst := some 195, op := .un .not (.t 194) },
  { dst := some 196, op := .mv (.t 195) },
  { dst := some 197, op := .ld (some 8) (.t 5), grd := some (196, true), pre := [] },
  { dst := some 198, op := .mv (.t 7), grd := some (196, true) },
  { dst := some 199, op := .call .pure (.c (.fn 39 [] [])) [.t 197, .t 198], grd := some (196, true), pre := [] },
  { dst := some 200, op := .ld (some 8) (.t 5), grd := some (196, true), pre := [] },
  { dst := some 201, op := .mv (.t 7), grd := some (196, true) },
  { dst := some 202, op := .call .pure (.c (.fn 40 [] [])) [.t 200, .t 201], grd := some (196, true), pre := [] },
  { dst := some 203, op := .call .pure (.c (.fn 24 [] [])) [.t 199, .t 202], grd := some (196, true), pre := [] },
  { dst := some 204, op := .mv (.t 7), grd := some (196, true) },
  { dst := some 205, op := .call .pure (.c (.fn 22 [] [])) [.t 203, .t 204], grd := some (196, true), pre := [] },
  { dst := some 206, op := .pick (.t 196) (.t 205) (.c (.b false)) },
  { dst := some 207, op := .mv (.t 206) },
  { dst := some 208, op := .mv (.t 7), grd := some (207, true) },
  { dst := some 209, op := .ld (some 8) (.t 5), grd := some (207, true), pre := [] },
  { dst := some 210, op := .mv (.t 7), grd := some (207, true) },
  { dst := some 211, op := .call .pure (.c (.fn 39 [] [])) [.t 209, .t 210], grd := some (207, true), pre := [] },
  { dst := some 212, op := .ld (some 8) (.t 5), grd := some (207, true), pre := [] },
  { dst := some 213, op := .mv (.t 7), grd := some (207, true) },
  { dst := some 214, op := .call .pure (.c (.fn 40 [] [])) [.t 212, .t 213], grd := some (207, true), pre := [] },
  { dst := some 215, op := .call .pure (.c (.fn 24 [] [])) [.t 211, .t 214], grd := some (207, true), pre := [] },
  { dst := some 216, op := .call .pure (.c (.fn 22 [] [])) [.t 208, .t 215], grd := some (207, true), pre := [] },
  { dst := some 217, op := .pick (.t 207) (.t 216) (.c (.b false)) },
  { dst := some 218, op := .mv (.t 217) },
  { dst := some 219, op := .call .pure (.c (.fn 43 [] [])) [], grd := some (218, true), pre := [] },
  { dst := some 220, op := .pick (.t 218) (.t 219) (.c (.b false)) },
  { dst := some 4, op := .mv (.t 220) }])
 .ret))))))) }
def A_xlaw09_awake : AFun := { res := [.t 0], body := (.seq (.reg false [{ dst := some 0, op := .mv (.c (.b false)) }])
 (.seq (.reg false [{ dst := some 2, op := .call .pure (.c (.fn 62 [] [])) [] },
  { dst := some 1, op := .new ([.i .i64 0] ++ List.replicate 7 (.sl [] 0 .rig)) },
  { dst := none, op := .st 8 (.t 1) (.t 2) }])
 (.seq (.reg true [{ dst := some 3, op := .ld (some 8) (.t 1), pre := [] },
  { dst := some 4, op := .call .pure (.c (.fn 48 [] [])) [.t 3], pre := [] },
  { dst := some 5, op := .call .pure (.c (.fn 13 [] [])) [.t 4, .c (.i .i64 0), .c (.i .i64 1)], pre := [] },
  { dst := some 6, op := .mv (.t 5) },
  { dst := some 7, op := .ld (some 8) (.t 1), grd := some (6, true), pre := [] },
  { dst := some 8, op := .ld (some 8) (.t 1), grd := some (6, true), pre := [] },
  { dst := some 9, op := .call .pure (.c (.fn 48 [] [])) [.t 8], grd := some (6, true), pre := [] },
  { dst := some 10, op := .call .pure (.c (.fn 40 [] [])) [.t 7, .t 9], grd := some (6, true), pre := [] },
  { dst := some 11, op := .call .pure (.c (.fn 13 [] [])) [.t 10, .c (.i .i64 0), .c (.i .i64 1)], grd := some (6, true), pre := [] },
  { dst := some 12, op := .pick (.t 6) (.t 11) (.c (.b false)) },
  { dst := some 13, op := .mv (.t 12) },
  { dst := some 14, op := .ld (some 8) (.t 1), grd := some (13, true), pre := [] },
  { dst := some 15, op := .ld (some 8) (.t 1), grd := some (13, true), pre := [] },
  { dst := some 16, op := .call .pure (.c (.fn 48 [] [])) [.t 15], grd := some (13, true), pre := [] },
  { dst := some 17, op := .call .pure (.c (.fn 39 [] [])) [.t 14, .t 16], grd := some (13, true), pre := [] },
  { dst := some 18, op := .call .pure (.c (.fn 13 [] [])) [.t 17, .c (.i .i64 0), .c (.i .i64 1)], grd := some (13, true), pre := [] },
  { dst := some 19, op := .un .not (.t 18), grd := some (13, true) },
  { dst := some 20, op := .pick (.t 13) (.t 19) (.c (.b false)) },
  { dst := some 21, op := .mv (.t 20) },
  { dst := some 22, op := .ld (some 8) (.t 1), grd := some (21, true), pre := [] },
  { dst := some 23, op := .call .pure (.c (.fn 41 [] [])) [.t 22], grd := some (21, true), pre := [] },
  { dst := some 24, op := .call .pure (.c (.fn 13 [] [])) [.t 23, .c (.i .i64 0), .c (.i .i64 1)], grd := some (21, true), pre := [] },
  { dst := some 25, op := .pick (.t 21) (.t 24) (.c (.b false)) },
  { dst := some 26, op := .mv (.t 25) },
  { dst := some 27, op := .ld (some 8) (.t 1), grd := some (26, true), pre := [] },
  { dst := some 28, op := .call .pure (.c (.fn 50 [] [])) [.t 27], grd := some (26, true), pre := [] },
  { dst := some 29, op := .call .pure (.c (.fn 13 [] [])) [.t 28, .c (.i .i64 1), .c (.i .i64 0)], grd := some (26, true), pre := [] },
  { dst := some 30, op := .un .not (.t 29), grd := some (26, true) },
  { dst := some 31, op := .pick (.t 26) (.t 30) (.c (.b false)) },
  { dst := some 0, op := .mv (.t 31) }])
 .ret))) }
def A_xlaw09_all : AFun := { res := [.t 4], body := (.seq (.reg false [{ dst := some 2, op := .box (.t 0) },
  { dst := some 4, op := .mv (.c (.b false)) }])
 (.seq (.reg true [{ dst := some 7, op := .fa 1 (.t 2) },
  { dst := some 8, op := .ld none (.t 7), pre := [] },
  { dst := some 9, op := .len (.t 8) },
  { dst := some 10, op := .mv (.t 1) },
  { dst := some 11, op := .call .pure (.c (.fn 11 [] [])) [.t 9, .t 10], pre := [] },
  { dst := some 12, op := .fa 1 (.t 2) },
  { dst := some 13, op := .ld none (.t 12), pre := [] },
  { dst := some 14, op := .len (.t 13) },
  { dst := some 15, op := .mv (.t 1) },
  { dst := some 16, op := .call .pure (.c (.fn 27 [] [])) [.t 14, .t 15], pre := [] },
  { dst := some 5, op := .mv (.t 11) },
  { dst := some 6, op := .mv (.t 16) }])
 (.seq (.reg true [{ dst := some 17, op := .ld (some 8) (.t 2), pre := [] },
  { dst := some 18, op := .call .pure (.c (.fn 48 [] [])) [.t 17], pre := [] },
  { dst := some 19, op := .ld (some 8) (.t 2), pre := [] },
  { dst := some 20, op := .call .pure (.c (.fn 69 [] [])) [.t 19], pre := [] },
  { dst := some 21, op := .call .pure (.c (.fn 68 [] [])) [.t 18, .t 20], pre := [] },
  { dst := some 22, op := .mv (.t 21) },
  { dst := some 23, op := .ld (some 8) (.t 2), grd := some (22, true), pre := [] },
  { dst := some 24, op := .call .pure (.c (.fn 49 [] [])) [.t 23], grd := some (22, true), pre := [] },
  { dst := some 25, op := .ld (some 8) (.t 2), grd := some (22, true), pre := [] },
  { dst := some 26, op := .call .pure (.c (.fn 70 [] [])) [.t 25], grd := some (22, true), pre := [] },
  { dst := some 27, op := .call .pure (.c (.fn 68 [] [])) [.t 24, .t 26], grd := some (22, true), pre := [] },
  { dst := some 28, op := .pick (.t 22) (.t 27) (.c (.b false)) },
  { dst := some 29, op := .mv (.t 28) },
  { dst := some 30, op := .ld (some 8) (.t 2), grd := some (29, true), pre := [] },
  { dst := some 31, op := .call .pure (.c (.fn 50 [] [])) [.t 30], grd := some (29, true), pre := [] },
  { dst := some 32, op := .ld (some 8) (.t 2), grd := some (29, true), pre := [] },
  { dst := some 33, op := .call .pure (.c (.fn 71 [] [])) [.t 32], grd := some (29, true), pre := [] },
  { dst := some 34, op := .call .pure (.c (.fn 68 [] [])) [.t 31, .t 33], grd := some (29, true), pre := [] },
  { dst := some 35, op := .pick (.t 29) (.t 34) (.c (.b false)) },
  { dst := some 36, op := .mv (.t 35) },
  { dst := some 37, op := .ld (some 8) (.t 2), grd := some (36, true), pre := [] },
  { dst := some 38, op := .call .pure (.c (.fn 42 [] [])) [.t 37], grd := some (36, true), pre := [] },
  { dst := some 39, op := .ld (some 8) (.t 2), grd := some (36, true), pre := [] },
  { dst := some 40, op := .call .pure (.c (.fn 72 [] [])) [.t 39], grd := some (36, true), pre := [] },
  { dst := some 41, op := .call .pure (.c (.fn 68 [] [])) [.t 38, .t 40], grd := some (36, true), pre := [] },
  { dst := some 42, op := .pick (.t 36) (.t 41) (.c (.b false)) },
  { dst := some 43, op := .mv (.t 42) },
  { dst := some 44, op := .ld (some 8) (.t 2), grd := some (43, true), pre := [] },
  { dst := some 45, op := .call .pure (.c (.fn 41 [] [])) [.t 44], grd := some (43, true), pre := [] },
  { dst := some 46, op := .ld (some 8) (.t 2), grd := some (43, true), pre := [] },
  { dst := some 47, op := .call .pure (.c (.fn 73 [] [])) [.t 46], grd := some (43, true), pre := [] },
  { dst := some 48, op := .call .pure (.c (.fn 68 [] [])) [.t 45, .t 47], grd := some (43, true), pre := [] },
  { dst := some 49, op := .pick (.t 43) (.t 48) (.c (.b false)) },
  { dst := some 50, op := .mv (.t 49) },
  { dst := some 51, op := .ld (some 8) (.t 2), grd := some (50, true), pre := [] },
  { dst := some 52, op := .mv (.t 5), grd := some (50, true) },
  { dst := some 53, op := .call .pure (.c (.fn 39 [] [])) [.t 51, .t 52], grd := some (50, true), pre := [] },
  { dst := some 54, op := .ld (some 8) (.t 2), grd := some (50, true), pre := [] },
  { dst := some 55, op := .mv (.t 6), grd := some (50, true) },
  { dst := some 56, op := .call .pure (.c (.fn 74 [] [])) [.t 54, .t 55], grd := some (50, true), pre := [] },
  { dst := some 57, op := .call .pure (.c (.fn 68 [] [])) [.t 53, .t 56], grd := some (50, true), pre := [] },
  { dst := some 58, op := .pick (.t 50) (.t 57) (.c (.b false)) },
  { dst := some 59, op := .mv (.t 58) },
  { dst := some 60, op := .ld (some 8) (.t 2), grd := some (59, true), pre := [] },
  { dst := some 61, op := .mv (.t 5), grd := some (59, true) },
  { dst := some 62, op := .call .pure (.c (.fn 40 [] [])) [.t 60, .t 61], grd := some (59, true), pre := [] },
  { dst := some 63, op := .ld (some 8) (.t 2), grd := some (59, true), pre := [] },
  { dst := some 64, op := .mv (.t 6), grd := some (59, true) },
  { dst := some 65, op := .call .pure (.c (.fn 75 [] [])) [.t 63, .t 64], grd := some (59, true), pre := [] },
  { dst := some 66, op := .call .pure (.c (.fn 68 [] [])) [.t 62, .t 65], grd := some (59, true), pre := [] },
  { dst := some 67, op := .pick (.t 59) (.t 66) (.c (.b false)) },
  { dst := some 4, op := .mv (.t 67) }])
 .ret))) }
def A_xlaw09_one : AFun := { res := [.cell 4 (some 8), .t 5], body := (.seq (.reg false [{ dst := some 4, op := .new ([.i .i64 0] ++ List.replicate 7 (.sl [] 0 .rig)) },
  { dst := some 5, op := .mv (.c (.b false)) }])
 (.seq (.reg false [{ dst := some 9, op := .mv (.t 0) },
  { dst := some 10, op := .call .pure (.c (.fn 76 [] [])) [.t 9] },
  { dst := some 6, op := .new ([.i .i64 0, .sl [] 0 .rig]) },
  { dst := none, op := .st 2 (.t 6) (.t 10) }])
 (.seq (.seq (.reg false [{ dst := some 11, op := .ld (some 2) (.t 6) },
  { dst := some 12, op := .call .pure (.c (.fn 77 [] [])) [.t 11] },
  { dst := some 13, op := .bin .gtr (.t 12) (.c (.i .i64 4)) }])
 (.cond (.t 13) (.seq (.reg false [{ dst := some 14, op := .build ([.i .i64 0] ++ List.replicate 7 (.sl [] 0 .rig)) [] },
  { dst := none, op := .st 8 (.t 4) (.t 14) },
  { dst := some 5, op := .mv (.c (.b false)) }])
 .ret)
 .skip))
 (.seq (.reg true [{ dst := some 16, op := .ld (some 2) (.t 6), pre := [] },
  { dst := some 17, op := .call .pure (.c (.fn 79 [] [])) [], pre := [] },
  { dst := some 18, op := .call .pure (.c (.fn 78 [] [])) [.t 16, .t 17], pre := [] },
  { dst := some 15, op := .mv (.t 18) },
  { dst := some 19, op := .ext 0 (.t 15) },
  { dst := some 20, op := .ext 1 (.t 15) },
  { dst := some 7, op := .mv (.t 19) },
  { dst := some 8, op := .mv (.t 20) }])
 (.seq (.seq (.reg false [{ dst := some 21, op := .mv (.t 7) },
  { dst := some 22, op := .len (.t 21) },
  { dst := some 23, op := .bin .eql (.t 22) (.c (.i .i64 0)) }])
 (.cond (.t 23) (.seq (.reg false [{ dst := some 24, op := .build ([.i .i64 0] ++ List.replicate 7 (.sl [] 0 .rig)) [] },
  { dst := none, op := .st 8 (.t 4) (.t 24) },
  { dst := some 5, op := .mv (.c (.b false)) }])
 .ret)
 .skip))
 (.seq (.reg false [{ dst := some 25, op := .mv (.t 7) },
  { dst := some 26, op := .mv (.t 1) },
  { dst := some 27, op := .mv (.t 7) },
  { dst := some 28, op := .len (.t 27) },
  { dst := some 29, op := .call .pure (.c (.fn 10 [] [])) [.t 26, .t 28] },
  { dst := some 30, op := .ia 8 (.t 25) (.t 29) },
  { dst := some 31, op := .ld (some 8) (.t 30) },
  { dst := none, op := .st 8 (.t 4) (.t 31) },
  { dst := some 5, op := .mv (.c (.b true)) }])
 .ret)))))) }
def A_xlaw09_two : AFun := { res := [.cell 0 (some 8)], body := (.seq (.reg false [{ dst := some 0, op := .new ([.i .i64 0] ++ List.replicate 7 (.sl [] 0 .rig)) }])
 (.seq (.reg false [{ dst := some 1, op := .build (List.replicate 5 (.i .i64 0) ++ [.b false]) [(1, 1, .c (.i .i64 2))] },
  { dst := some 2, op := .build (List.replicate 5 (.i .i64 0) ++ [.b false]) [(0, 1, .c (.i .i64 1)), (1, 1, .c (.i .i64 1))] },
  { dst := some 3, op := .bsl true 2 (List.replicate 5 (.i .i64 0) ++ [.b false] ++ List.replicate 5 (.i .i64 0) ++ [.b false]) [(0, 6, .t 1), (6, 6, .t 2)] },
  { dst := some 4, op := .bsl true 2 ([.i .i64 0, .i .i64 0]) [(0, 1, .c (.i .i64 (-1))), (1, 1, .c (.i .i64 0))] },
  { dst := some 5, op := .bsl true 1 ([.i .i64 0]) [(0, 1, .c (.i .i64 0))] },
  { dst := some 6, op := .bsl true 1 ([.sl [] 0 .rig]) [(0, 1, .t 5)] },
  { dst := some 7, op := .build ([.i .i64 0] ++ List.replicate 7 (.sl [] 0 .rig)) [(0, 1, .c (.i .i64 1)), (1, 1, .t 3), (2, 1, .t 4), (3, 1, .t 6)] },
  { dst := none, op := .st 8 (.t 0) (.t 7) }])
 .ret)) }
def A_xlaw09_same : AFun := { res := [.t 4], body := (.seq (.reg false [{ dst := some 4, op := .mv (.c (.b false)) }])
 (.seq (.reg true [{ dst := some 5, op := .mv (.t 0) },
  { dst := some 6, op := .eqn true (.t 5) (.c (.nilp)) },
  { dst := some 7, op := .mv (.t 6) },
  { dst := some 8, op := .mv (.t 0), grd := some (7, true) },
  { dst := some 9, op := .call .pure (.c (.fn 17 [] [])) [.t 8], grd := some (7, true), pre := [] },
  { dst := some 10, op := .mv (.t 1), grd := some (7, true) },
  { dst := some 11, op := .nilck (.t 10), grd := some (7, true) },
  { dst := some 12, op := .fa 0 (.t 11), grd := some (7, true) },
  { dst := some 13, op := .ld none (.t 12), grd := some (7, true), pre := [] },
  { dst := some 14, op := .bin .eql (.t 9) (.t 13), grd := some (7, true) },
  { dst := some 15, op := .pick (.t 7) (.t 14) (.c (.b false)) },
  { dst := some 16, op := .mv (.t 15) },
  { dst := some 17, op := .mv (.t 0), grd := some (16, true) },
  { dst := some 18, op := .call .pure (.c (.fn 15 [] [])) [.t 17], grd := some (16, true), pre := [] },
  { dst := some 19, op := .mv (.t 1), grd := some (16, true) },
  { dst := some 20, op := .call .pure (.c (.fn 56 [] [])) [.t 19], grd := some (16, true), pre := [] },
  { dst := some 21, op := .call .pure (.c (.fn 55 [] [])) [.t 18, .t 20], grd := some (16, true), pre := [] },
  { dst := some 22, op := .pick (.t 16) (.t 21) (.c (.b false)) },
  { dst := some 4, op := .mv (.t 22) }])
 .ret)) }
structure Pk_xlaw09 (F : Funs) : Prop where
  xlaw09_EcoThreads : F 5 = some A_xlaw09_EcoThreads
  xlaw09_EcoAny : F 6 = some A_xlaw09_EcoAny
  xlaw09_EcoNumbers : F 7 = some A_xlaw09_EcoNumbers
  xlaw09_EcoLine : F 8 = some A_xlaw09_EcoLine
  xlaw09_EcoPlaces : F 9 = some A_xlaw09_EcoPlaces
  xlaw09_awake : F 43 = some A_xlaw09_awake
  xlaw09_all : F 46 = some A_xlaw09_all
  xlaw09_one : F 47 = some A_xlaw09_one
  xlaw09_two : F 62 = some A_xlaw09_two
  xlaw09_same : F 68 = some A_xlaw09_same
end Go.Ab
end
section
/- exegesislaw09: two, awake. -/
set_option linter.unusedVariables false
set_option linter.unusedSimpArgs false
namespace Go.Ab
variable {F : Funs}
def twoG : Gr := ⟨1, [⟨0, 2, 0, 0, 0, false⟩, ⟨1, 1, 0, 0, 0, false⟩], [-1, 0], [[0]], [], [], [], []⟩
theorem two_few : Few twoG := by
  refine ⟨by decide, by decide, ?_⟩
  intro c hc
  simp only [twoG, List.mem_singleton] at hc
  subst hc; decide
theorem two_rf : has (nOf twoG) (relE rfS twoG) 0 1 = true := by decide +kernel
theorem two_outer : has (nOf twoG) (partR outer twoG (nOf twoG) (relE rfS twoG)) 0 1 = true := by decide +kernel
theorem two_inner : has (nOf twoG) (partR inner twoG (nOf twoG) (relE rfS twoG)) 0 1 = false := by decide +kernel
theorem two_loc : has (nOf twoG) (partR locP twoG (nOf twoG) (poR twoG)) 0 1 = true := by decide +kernel
theorem two_fr : has (nOf twoG) (relE (frS twoG.co) twoG) 1 0 = false := by decide +kernel
def resC (agg : Option Nat) (g : G) : AV → Option AV
  | .mp b off => match g.hp b with
    | some (.cells cs _) => part cs off agg
    | _ => none
  | _ => none
theorem res_cell (n agg e g) : resE [.cell n agg] e g = resC agg g (e n) := by
  simp only [resE, resAll, resOne, resC]
  cases e n <;> try rfl
  rename_i b off
  simp only
  cases g.hp b with
  | none => rfl
  | some bl =>
    cases bl with
    | cells cs ro => simp only; cases part cs off agg <;> rfl
    | map _ => rfl
    | tok _ => rfl
set_option maxRecDepth 100000 in
theorem sp_two (h62 : F 62 = some A_xlaw09_two) : pureS F 62 [] = some (.agg (grC twoG)) := by
  refine pure_of h62 ?_
  have r5 : ∀ x : AV, List.replicate 5 x = [x, x, x, x, x] := fun _ => rfl
  have r7 : ∀ x : AV, List.replicate 7 x = [x, x, x, x, x, x, x] := fun _ => rfl
  have s6 : ∀ a1 a2 a3 a4 a5 a6 b1 b2 b3 b4 b5 b6 c1 c2 c3 c4 c5 c6 : AV, splice [a1, a2, a3, a4, a5, a6, b1, b2, b3, b4, b5, b6] 0 [c1, c2, c3, c4, c5, c6] = [c1, c2, c3, c4, c5, c6, b1, b2, b3, b4, b5, b6] := fun _ _ _ _ _ _ _ _ _ _ _ _ _ _ _ _ _ _ => rfl
  have s12 : ∀ a1 a2 a3 a4 a5 a6 b1 b2 b3 b4 b5 b6 c1 c2 c3 c4 c5 c6 : AV, splice [a1, a2, a3, a4, a5, a6, b1, b2, b3, b4, b5, b6] 6 [c1, c2, c3, c4, c5, c6] = [a1, a2, a3, a4, a5, a6, c1, c2, c3, c4, c5, c6] := fun _ _ _ _ _ _ _ _ _ _ _ _ _ _ _ _ _ _ => rfl
  have s8 : ∀ a1 a2 a3 a4 a5 a6 a7 a8 c1 c2 c3 c4 c5 c6 c7 c8 : AV, splice [a1, a2, a3, a4, a5, a6, a7, a8] 0 [c1, c2, c3, c4, c5, c6, c7, c8] = [c1, c2, c3, c4, c5, c6, c7, c8] := fun _ _ _ _ _ _ _ _ _ _ _ _ _ _ _ _ => rfl
  have p8 : ∀ a1 a2 a3 a4 a5 a6 a7 a8 : AV, part [a1, a2, a3, a4, a5, a6, a7, a8] 0 (some 8) = some (.agg [a1, a2, a3, a4, a5, a6, a7, a8]) := fun _ _ _ _ _ _ _ _ => rfl
  simp (disch := omega) only [A_xlaw09_two, wp, Nat.reduceAdd, Nat.reduceMul, Nat.reduceSub, gl, res_cell, r5, r7, s6, s12, s8, p8, List.length_set, resC]
  refine frz_d_agg ?_
  show frzL _ (7 + 1) _ = _
  simp only [frzL, frz]
  rfl
theorem splice_gr (X : Gr) : splice (AV.i .i64 0 :: List.replicate 7 (.sl [] 0 .rig)) 0 (grC X) = grC X := rfl
set_option maxRecDepth 100000 in
set_option maxHeartbeats 1000000 in
theorem sp_awakeE (hA : F 43 = some A_xlaw09_awake) (h62 : F 62 = some A_xlaw09_two) (pe : Pk_eco F) (h60 : F 60 = some A_graph_Po) (h81 : F 81 = some A_graph_Of) (pr : Pk_rel F) : pureS F 43 [] = some (.b true) := by
  refine pure_of hA ?_
  have hn := nOf_le twoG
  have hl : twoG.evs.length ≤ 1000 := by decide
  have e01 : has (nOf twoG) (relE rfS twoG) 0 1 = true := two_rf
  simp (disch := omega) only [A_xlaw09_awake, wp, Nat.reduceAdd, Nat.reduceMul, Nat.reduceSub, gl, sp_two h62, splice_gr, sp_Rf pe h81 pr two_few, sp_Fr pe h81 pr two_few, sp_Inner pe h81 pr hn, sp_Outer pe h81 pr hn, sp_Loc pe h60 h81 pr hl, sp_has pr hn, two_rf, two_outer, two_inner, two_loc, two_fr]
end Go.Ab
end
