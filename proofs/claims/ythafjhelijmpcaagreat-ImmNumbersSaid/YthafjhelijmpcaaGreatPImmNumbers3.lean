/- What ImmNumbers rests on, part 3: lemmas, no claim of its own. -/
import Derived.Test.YthafjhelijmpcaaGreatChecked
import Derived.KernelRfl
import Derived.OpenShut
import Derived.ChangeArms
import Derived.Laws.Rows
import Derived.Test.YthafjhelijmpcaaGreatPImmNumbers2
set_option maxRecDepth 100000
set_option maxHeartbeats 16000000
open Nat renaming reduceAdd → qa, reduceMul → qb, reduceSub → qc
section
namespace Go.Ab
def A_imm_Consistent:AFun:={ res:=[.t 2],body:=(.seq (.reg false [qo 1 (.box (.t 0)),qo 2 (.mv (.c (.b false)))])
 (.seq (.seq (.reg false [qo 6 (.ld (some 8) (.t 1)),qo 7 (.call .pure (.c (.fn 152 [] [])) [.t 6]),qo 8 (.un .not (.t 7))])
 (.cond (.t 8) (.seq (.reg false [qo 2 (.mv (.c (.b false)))])
 .ret)
 .skip))
 (.seq (.reg false [qo 9 (.ld (some 8) (.t 1)),qo 10 (.build ([.i .i64 0] ++ List.replicate 7 (.sl [] 0 .rig)) [(0,8,.t 9)]),qo 3 (.new ([.i .i64 0] ++ List.replicate 7 (.sl [] 0 .rig))),qn (.st 8 (.t 3) (.t 10))])
 (.seq (.seq (.reg false [qo 11 (.ld (some 8) (.t 3)),qo 12 (.mkfn 214 [.t 11] []),qo 13 (.build ([.nilf]) [(0,1,.t 12)]),qo 14 (.ld (some 8) (.t 3)),qo 15 (.mkfn 215 [.t 14] []),qo 16 (.build ([.nilf]) [(0,1,.t 15)]),qo 17 (.ld (some 8) (.t 3)),qo 18 (.mkfn 216 [.t 17] []),qo 19 (.build ([.nilf]) [(0,1,.t 18)]),qo 20 (.bsl true 3 ([.nilf,.nilf,.nilf]) [(0,1,.t 13),(1,1,.t 16),(2,1,.t 19)]),qo 21 (.len (.t 20)),qo 22 (.mv (.c (.i .i64 0)))])
 (.blk 0 (.loop (.seq (.reg false [qo 23 (.bin .lss (.t 22) (.t 21))])
 (.seq (.cond (.t 23) .skip
 (.ext 0))
 (.seq (.blk 1 (.seq (.reg false [qo 24 (.ia 1 (.t 20) (.t 22)),qo 25 (.ld (some 1) (.t 24)),qo 5 (.new ([.nilf])),qn (.st 1 (.t 5) (.t 25))])
 (.seq (.reg false [qo 26 (.fa 0 (.t 5)),qo 27 (.ld none (.t 26)),qo 28 (.call .pure (.t 27) []),qo 29 (.un .not (.t 28))])
 (.cond (.t 29) (.seq (.reg false [qo 2 (.mv (.c (.b false)))])
 .ret)
 .skip))))
 (.reg false [qo 30 (.bin .add (.t 22) (.c (.i .i64 1))),qm 22 30])))))))
 (.seq (.reg false [qo 2 (.mv (.c (.b true)))])
 .ret))))) }
def A_imm_Atomic:AFun:={ res:=[.t 2],body:=(.seq (.reg false [qo 1 (.box (.t 0)),qo 2 (.mv (.c (.b false)))])
 (.seq (.reg false [qo 3 (.ld (some 8) (.t 1)),qo 4 (.build ([.i .i64 0] ++ List.replicate 7 (.sl [] 0 .rig)) [(0,8,.t 3)]),qo 5 (.call .pure (.c (.fn 215 [] [])) [.t 4]),qm 2 5])
 .ret)) }
def A_imm_Coherent:AFun:={ res:=[.t 2],body:=(.seq (.reg false [qo 1 (.box (.t 0)),qo 2 (.mv (.c (.b false)))])
 (.seq (.reg false [qo 3 (.ld (some 8) (.t 1)),qo 4 (.build ([.i .i64 0] ++ List.replicate 7 (.sl [] 0 .rig)) [(0,8,.t 3)]),qo 5 (.call .pure (.c (.fn 214 [] [])) [.t 4]),qm 2 5])
 .ret)) }
def A_imm_looked_coherent:AFun:={ res:=[.t 2],body:=(.seq (.reg false [qo 1 (.box (.t 0)),qo 2 (.mv (.c (.b false)))])
 (.seq (.reg false [qo 6 (.fa 0 (.t 1)),qo 7 (.ld (some 8) (.t 6)),qo 8 (.call .pure (.c (.fn 148 [] [])) [.t 7]),qm 3 8])
 (.seq (.reg false [qm 9 3,qm 10 3,qo 11 (.fa 0 (.t 1)),qo 12 (.ld (some 8) (.t 11)),qo 13 (.call .pure (.c (.fn 42 [] [])) [.t 12]),qo 14 (.call .pure (.c (.fn 23 [] [])) [.t 10,.t 13]),qo 15 (.call .pure (.c (.fn 24 [] [])) [.t 9,.t 14]),qm 4 15])
 (.seq (.seq (.reg false [qo 16 (.fa 0 (.t 1)),qo 17 (.fa 1 (.t 16)),qo 18 (.ld none (.t 17)),qo 19 (.len (.t 18)),qo 20 (.mv (.c (.i .i64 0)))])
 (.blk 0 (.loop (.seq (.reg false [qo 21 (.bin .lss (.t 20) (.t 19))])
 (.seq (.cond (.t 21) .skip
 (.ext 0))
 (.seq (.blk 1 (.seq (.reg false [qm 22 20,qm 5 22])
 (.seq (.reg false [qm 23 4,qm 24 5,qm 25 5,qo 26 (.call .pure (.c (.fn 13 [] [])) [.t 23,.t 24,.t 25])])
 (.cond (.t 26) (.seq (.reg false [qo 2 (.mv (.c (.b false)))])
 .ret)
 .skip))))
 (.reg false [qo 27 (.bin .add (.t 20) (.c (.i .i64 1))),qm 20 27])))))))
 (.seq (.reg false [qo 2 (.mv (.c (.b true)))])
 .ret))))) }
def A_imm_looked_atomic:AFun:={ res:=[.t 2],body:=(.seq (.reg false [qo 1 (.box (.t 0)),qo 2 (.mv (.c (.b false)))])
 (.seq (.reg false [qo 5 (.fa 0 (.t 1)),qo 6 (.ld (some 8) (.t 5)),qo 3 (.new ([.i .i64 0] ++ List.replicate 7 (.sl [] 0 .rig))),qn (.st 8 (.t 3) (.t 6))])
 (.seq (.reg true [qo 7 (.ld (some 8) (.t 3)),qo 8 (.ld (some 8) (.t 3)),qo 9 (.call .pure (.c (.fn 50 [] [])) [.t 8]),qo 10 (.call .pure (.c (.fn 40 [] [])) [.t 7,.t 9]),qo 11 (.ld (some 8) (.t 3)),qo 12 (.ld (some 8) (.t 3)),qo 13 (.call .pure (.c (.fn 49 [] [])) [.t 12]),qo 14 (.call .pure (.c (.fn 40 [] [])) [.t 11,.t 13]),qo 15 (.call .pure (.c (.fn 23 [] [])) [.t 10,.t 14]),qm 4 15])
 (.seq (.reg false [qo 16 (.ld (some 8) (.t 3)),qo 17 (.fa 4 (.t 3)),qo 18 (.ld none (.t 17)),qo 19 (.call .pure (.c (.fn 81 [] [])) [.t 16,.t 18]),qm 20 4,qo 21 (.call .pure (.c (.fn 18 [] [])) [.t 19,.t 20]),qo 22 (.call .pure (.c (.fn 15 [] [])) [.t 21]),qo 23 (.len (.t 22)),qo 24 (.bin .eql (.t 23) (.c (.i .i64 0))),qm 2 24])
 .ret)))) }
def A_imm_looked_ordered:AFun:={ res:=[.t 2],body:=(.seq (.reg false [qo 1 (.box (.t 0)),qo 2 (.mv (.c (.b false)))])
 (.seq (.reg false [qo 3 (.fa 0 (.t 1)),qo 4 (.ld (some 8) (.t 3)),qo 5 (.call .pure (.c (.fn 156 [] [])) [.t 4]),qo 6 (.call .pure (.c (.fn 14 [] [])) [.t 5]),qo 7 (.un .not (.t 6)),qm 2 7])
 .ret)) }
def A_imm_Ordered:AFun:={ res:=[.t 2],body:=(.seq (.reg false [qo 1 (.box (.t 0)),qo 2 (.mv (.c (.b false)))])
 (.seq (.reg false [qo 3 (.ld (some 8) (.t 1)),qo 4 (.build ([.i .i64 0] ++ List.replicate 7 (.sl [] 0 .rig)) [(0,8,.t 3)]),qo 5 (.call .pure (.c (.fn 216 [] [])) [.t 4]),qm 2 5])
 .ret)) }
structure Pk_imm (F:Funs):Prop where
 imm_Consistent:F 161 = some A_imm_Consistent
 imm_Atomic:F 162 = some A_imm_Atomic
 imm_Coherent:F 164 = some A_imm_Coherent
 imm_looked_coherent:F 214 = some A_imm_looked_coherent
 imm_looked_atomic:F 215 = some A_imm_looked_atomic
 imm_looked_ordered:F 216 = some A_imm_looked_ordered
 imm_Ordered:F 217 = some A_imm_Ordered
end Go.Ab
end
section
namespace Go.Ab
def A_order_Bob:AFun:={ res:=[.t 2],body:=(.seq (.reg false [qo 1 (.boxI (.t 0)),qo 2 (.mv (.c (.nilp)))])
 (.seq (.reg false [qo 4 (.ld (some 8) (.t 1)),qo 5 (.call .pure (.c (.fn 60 [] [])) [.t 4]),qo 3 (.new ([.nilp])),qn (.st 1 (.t 3) (.t 5))])
 (.seq (.imm 3 (.reg false [qo 6 (.ld (some 8) (.t 1)),qo 7 (.mkfn 194 [] [.t 3,.t 1]),qo 8 (.mkfn 197 [] [.t 1,.t 3]),qo 9 (.mkfn 199 [] [.t 3,.t 1]),qo 10 (.mkfn 201 [] [.t 1,.t 3]),qo 11 (.mkfn 202 [] [.t 1]),qo 12 (.bsl true 5 (List.replicate 5 (.nilf)) [(0,1,.t 7),(1,1,.t 8),(2,1,.t 9),(3,1,.t 10),(4,1,.t 11)]),qo 13 (.call .pure (.c (.fn 193 [] [])) [.t 6,.t 12]),qm 2 13]))
 .ret))) }
def A_order_Ar:AFun:={ res:=[.t 2],body:=(.seq (.reg false [qo 1 (.boxI (.t 0)),qo 2 (.mv (.c (.nilp)))])
 (.seq (.reg false [qo 3 (.ld (some 8) (.t 1)),qo 4 (.mkfn 204 [] [.t 1]),qo 5 (.mkfn 205 [] [.t 1]),qo 6 (.mkfn 206 [] [.t 1]),qo 7 (.mkfn 208 [] [.t 1]),qo 8 (.mkfn 210 [] [.t 1]),qo 9 (.bsl true 5 (List.replicate 5 (.nilf)) [(0,1,.t 4),(1,1,.t 5),(2,1,.t 6),(3,1,.t 7),(4,1,.t 8)]),qo 10 (.call .pure (.c (.fn 193 [] [])) [.t 3,.t 9]),qm 2 10])
 .ret)) }
def A_order_all:AFun:={ res:=[.t 4],body:=(.seq (.reg false [qo 2 (.box (.t 0)),qo 4 (.mv (.c (.nilp)))])
 (.seq (.reg false [qo 8 (.fa 1 (.t 2)),qo 9 (.ld none (.t 8)),qo 10 (.len (.t 9)),qo 11 (.call .pure (.c (.fn 11 [] [])) [.t 10,.c (.sl [] 0 .rig)]),qm 5 11])
 (.seq (.seq (.reg false [qm 12 1,qo 13 (.len (.t 12)),qo 14 (.mv (.c (.i .i64 0)))])
 (.blk 0 (.loop (.seq (.reg false [qo 15 (.bin .lss (.t 14) (.t 13))])
 (.seq (.cond (.t 15) .skip
 (.ext 0))
 (.seq (.blk 1 (.seq (.reg false [qo 16 (.ia 1 (.t 12) (.t 14)),qo 17 (.ld none (.t 16)),qm 7 17])
 (.reg false [qm 18 5,qm 19 7,qo 20 (.call .pure (.t 19) []),qo 21 (.call .pure (.c (.fn 24 [] [])) [.t 18,.t 20]),qm 5 21])))
 (.reg false [qo 22 (.bin .add (.t 14) (.c (.i .i64 1))),qm 14 22])))))))
 (.seq (.reg false [qm 23 5,qm 4 23])
 .ret)))) }
def A_order_Bob_1:AFun:={ res:=[.t 2],body:=(.seq (.reg false [qo 2 (.mv (.c (.nilp)))])
 (.seq (.reg true [qo 3 (.ld none (.t 0)),qo 4 (.ld (some 8) (.t 1)),qo 5 (.call .pure (.c (.fn 195 [] [])) [.t 4,.c (.fn 196 [] [])]),qo 6 (.call .pure (.c (.fn 23 [] [])) [.t 3,.t 5]),qm 2 6])
 .ret)) }
def A_order_set:AFun:={ res:=[.t 4],body:=(.seq (.reg false [qo 2 (.box (.t 0)),qo 4 (.mv (.c (.nilp)))])
 (.seq (.reg false [qo 5 (.ld (some 8) (.t 2)),qm 6 1,qo 7 (.call .pure (.c (.fn 166 [] [])) [.t 5,.t 6]),qm 4 7])
 .ret)) }
def A_order_isRel:AFun:={ res:=[.t 2],body:=(.seq (.reg false [qo 1 (.box (.t 0)),qo 2 (.mv (.c (.b false)))])
 (.seq (.reg false [qo 3 (.ld (some 6) (.t 1)),qo 4 (.call .pure (.c (.fn 203 [] [])) [.t 3]),qm 5 4,qg 6 (.fa 2 (.t 1)) 5 true,qg 7 (.ld none (.t 6)) 5 true,qg 8 (.bin .eql (.t 7) (.c (.i .i64 2))) 5 true,qo 9 (.pick (.t 5) (.t 8) (.c (.b false))),qm 2 9])
 .ret)) }
def A_order_Bob_2:AFun:={ res:=[.t 2],body:=(.seq (.reg false [qo 2 (.mv (.c (.nilp)))])
 (.seq (.reg true [qo 3 (.ld (some 8) (.t 0)),qo 4 (.call .pure (.c (.fn 195 [] [])) [.t 3,.c (.fn 198 [] [])]),qo 5 (.ld none (.t 1)),qo 6 (.call .pure (.c (.fn 23 [] [])) [.t 4,.t 5]),qm 2 6])
 .ret)) }
def A_order_isAcq:AFun:={ res:=[.t 2],body:=(.seq (.reg false [qo 1 (.box (.t 0)),qo 2 (.mv (.c (.b false)))])
 (.seq (.reg false [qo 3 (.ld (some 6) (.t 1)),qo 4 (.call .pure (.c (.fn 240 [] [])) [.t 3]),qm 5 4,qg 6 (.fa 2 (.t 1)) 5 true,qg 7 (.ld none (.t 6)) 5 true,qg 8 (.bin .eql (.t 7) (.c (.i .i64 1))) 5 true,qo 9 (.pick (.t 5) (.t 8) (.c (.b false))),qm 2 9])
 .ret)) }
def A_order_Bob_3:AFun:={ res:=[.t 2],body:=(.seq (.reg false [qo 2 (.mv (.c (.nilp)))])
 (.seq (.reg true [qo 3 (.ld none (.t 0)),qo 4 (.ld (some 8) (.t 1)),qo 5 (.call .pure (.c (.fn 195 [] [])) [.t 4,.c (.fn 200 [] [])]),qo 6 (.call .pure (.c (.fn 23 [] [])) [.t 3,.t 5]),qm 2 6])
 .ret)) }
def A_order_isF:AFun:={ res:=[.t 2],body:=(.seq (.reg false [qo 1 (.box (.t 0)),qo 2 (.mv (.c (.b false)))])
 (.seq (.reg false [qo 3 (.fa 1 (.t 1)),qo 4 (.ld none (.t 3)),qo 5 (.bin .eql (.t 4) (.c (.i .i64 3))),qm 2 5])
 .ret)) }
def A_order_Bob_4:AFun:={ res:=[.t 2],body:=(.seq (.reg false [qo 2 (.mv (.c (.nilp)))])
 (.seq (.reg true [qo 3 (.ld (some 8) (.t 0)),qo 4 (.call .pure (.c (.fn 195 [] [])) [.t 3,.c (.fn 200 [] [])]),qo 5 (.ld none (.t 1)),qo 6 (.call .pure (.c (.fn 23 [] [])) [.t 4,.t 5]),qm 2 6])
 .ret)) }
def A_order_Bob_5:AFun:={ res:=[.t 1],body:=(.seq (.reg false [qo 1 (.mv (.c (.nilp)))])
 (.seq (.reg true [qo 2 (.ld (some 8) (.t 0)),qo 3 (.call .pure (.c (.fn 195 [] [])) [.t 2,.c (.fn 196 [] [])]),qo 4 (.ld (some 8) (.t 0)),qo 5 (.call .pure (.c (.fn 41 [] [])) [.t 4]),qo 6 (.call .pure (.c (.fn 23 [] [])) [.t 3,.t 5]),qo 7 (.ld (some 8) (.t 0)),qo 8 (.call .pure (.c (.fn 195 [] [])) [.t 7,.c (.fn 203 [] [])]),qo 9 (.call .pure (.c (.fn 23 [] [])) [.t 6,.t 8]),qm 1 9])
 .ret)) }
def A_order_isW:AFun:={ res:=[.t 2],body:=(.seq (.reg false [qo 1 (.box (.t 0)),qo 2 (.mv (.c (.b false)))])
 (.seq (.reg false [qo 3 (.fa 1 (.t 1)),qo 4 (.ld none (.t 3)),qo 5 (.bin .eql (.t 4) (.c (.i .i64 2))),qm 2 5])
 .ret)) }
def A_order_Ar_1:AFun:={ res:=[.t 1],body:=(.seq (.reg false [qo 1 (.mv (.c (.nilp)))])
 (.seq (.reg true [qo 2 (.ld (some 8) (.t 0)),qo 3 (.ld (some 8) (.t 0)),qo 4 (.call .pure (.c (.fn 48 [] [])) [.t 3]),qo 5 (.call .pure (.c (.fn 40 [] [])) [.t 2,.t 4]),qm 1 5])
 .ret)) }
def A_order_Ar_2:AFun:={ res:=[.t 1],body:=(.seq (.reg false [qo 1 (.mv (.c (.nilp)))])
 (.seq (.reg false [qo 2 (.ld (some 8) (.t 0)),qo 3 (.call .pure (.c (.fn 155 [] [])) [.t 2]),qm 1 3])
 .ret)) }
def A_order_Ar_3:AFun:={ res:=[.t 1],body:=(.seq (.reg false [qo 1 (.mv (.c (.nilp)))])
 (.seq (.reg false [qo 2 (.ld (some 8) (.t 0)),qo 3 (.call .pure (.c (.fn 207 [] [])) [.t 2]),qm 1 3])
 .ret)) }
def A_order_Ppo:AFun:={ res:=[.t 2],body:=(.seq (.reg false [qo 1 (.box (.t 0)),qo 2 (.mv (.c (.nilp)))])
 (.seq (.reg true [qo 4 (.ld (some 8) (.t 1)),qo 5 (.call .pure (.c (.fn 213 [] [])) [.t 4]),qo 6 (.ld (some 8) (.t 1)),qo 7 (.ld (some 8) (.t 1)),qo 8 (.call .pure (.c (.fn 48 [] [])) [.t 7]),qo 9 (.call .pure (.c (.fn 39 [] [])) [.t 6,.t 8]),qo 10 (.call .pure (.c (.fn 24 [] [])) [.t 5,.t 9]),qo 11 (.call .pure (.c (.fn 12 [] [])) [.t 10]),qm 3 11])
 (.seq (.reg true [qo 12 (.ld (some 8) (.t 1)),qo 13 (.call .pure (.c (.fn 195 [] [])) [.t 12,.c (.fn 240 [] [])]),qm 14 3,qo 15 (.call .pure (.c (.fn 23 [] [])) [.t 13,.t 14]),qo 16 (.ld (some 8) (.t 1)),qo 17 (.call .pure (.c (.fn 195 [] [])) [.t 16,.c (.fn 203 [] [])]),qo 18 (.call .pure (.c (.fn 23 [] [])) [.t 15,.t 17]),qm 2 18])
 .ret))) }
def A_order_Ar_4:AFun:={ res:=[.t 1],body:=(.seq (.reg false [qo 1 (.mv (.c (.nilp)))])
 (.seq (.reg false [qo 2 (.ld (some 8) (.t 0)),qo 3 (.call .pure (.c (.fn 209 [] [])) [.t 2]),qm 1 3])
 .ret)) }
def A_order_Detour:AFun:={ res:=[.t 2],body:=(.seq (.reg false [qo 1 (.box (.t 0)),qo 2 (.mv (.c (.nilp)))])
 (.seq (.reg true [qo 4 (.ld (some 8) (.t 1)),qo 5 (.ld (some 8) (.t 1)),qo 6 (.call .pure (.c (.fn 49 [] [])) [.t 5]),qo 7 (.call .pure (.c (.fn 40 [] [])) [.t 4,.t 6]),qo 8 (.ld (some 8) (.t 1)),qo 9 (.ld (some 8) (.t 1)),qo 10 (.call .pure (.c (.fn 48 [] [])) [.t 9]),qo 11 (.call .pure (.c (.fn 40 [] [])) [.t 8,.t 10]),qo 12 (.call .pure (.c (.fn 23 [] [])) [.t 7,.t 11]),qm 3 12])
 (.seq (.reg false [qm 13 3,qo 14 (.ld (some 8) (.t 1)),qo 15 (.call .pure (.c (.fn 60 [] [])) [.t 14]),qo 16 (.call .pure (.c (.fn 18 [] [])) [.t 13,.t 15]),qm 2 16])
 .ret))) }
def A_order_Ar_5:AFun:={ res:=[.t 1],body:=(.seq (.reg false [qo 1 (.mv (.c (.nilp)))])
 (.seq (.reg false [qo 2 (.ld (some 8) (.t 0)),qo 3 (.call .pure (.c (.fn 211 [] [])) [.t 2]),qm 1 3])
 .ret)) }
def A_order_Psc:AFun:={ res:=[.t 2],body:=(.seq (.reg false [qo 1 (.box (.t 0)),qo 2 (.mv (.c (.nilp)))])
 (.seq (.reg true [qo 5 (.ld (some 8) (.t 1)),qo 6 (.call .pure (.c (.fn 195 [] [])) [.t 5,.c (.fn 241 [] [])]),qo 7 (.ld (some 8) (.t 1)),qo 8 (.call .pure (.c (.fn 148 [] [])) [.t 7]),qm 3 6,qm 4 8])
 (.seq (.reg true [qm 9 3,qm 10 4,qo 11 (.call .pure (.c (.fn 23 [] [])) [.t 9,.t 10]),qo 12 (.ld (some 8) (.t 1)),qo 13 (.call .pure (.c (.fn 42 [] [])) [.t 12]),qo 14 (.call .pure (.c (.fn 23 [] [])) [.t 11,.t 13]),qm 15 4,qo 16 (.call .pure (.c (.fn 23 [] [])) [.t 14,.t 15]),qm 17 3,qo 18 (.call .pure (.c (.fn 23 [] [])) [.t 16,.t 17]),qm 2 18])
 .ret))) }
def A_order_Deps:AFun:={ res:=[.t 2],body:=(.seq (.reg false [qo 1 (.boxI (.t 0)),qo 2 (.mv (.c (.nilp)))])
 (.seq (.reg false [qo 3 (.ld (some 8) (.t 1)),qo 4 (.mkfn 242 [] [.t 1]),qo 5 (.mkfn 243 [] [.t 1]),qo 6 (.mkfn 244 [] [.t 1]),qo 7 (.bsl true 3 ([.nilf,.nilf,.nilf]) [(0,1,.t 4),(1,1,.t 5),(2,1,.t 6)]),qo 8 (.call .pure (.c (.fn 193 [] [])) [.t 3,.t 7]),qm 2 8])
 .ret)) }
def A_order_isR:AFun:={ res:=[.t 2],body:=(.seq (.reg false [qo 1 (.box (.t 0)),qo 2 (.mv (.c (.b false)))])
 (.seq (.reg false [qo 3 (.fa 1 (.t 1)),qo 4 (.ld none (.t 3)),qo 5 (.bin .eql (.t 4) (.c (.i .i64 1))),qm 2 5])
 .ret)) }
def A_order_isSc:AFun:={ res:=[.t 2],body:=(.seq (.reg false [qo 1 (.box (.t 0)),qo 2 (.mv (.c (.b false)))])
 (.seq (.reg false [qo 3 (.ld (some 6) (.t 1)),qo 4 (.call .pure (.c (.fn 200 [] [])) [.t 3]),qm 5 4,qg 6 (.fa 2 (.t 1)) 5 true,qg 7 (.ld none (.t 6)) 5 true,qg 8 (.bin .eql (.t 7) (.c (.i .i64 4))) 5 true,qo 9 (.pick (.t 5) (.t 8) (.c (.b false))),qm 2 9])
 .ret)) }
def A_order_Deps_1:AFun:={ res:=[.t 1],body:=(.seq (.reg false [qo 1 (.mv (.c (.nilp)))])
 (.seq (.reg false [qo 2 (.ld (some 8) (.t 0)),qo 3 (.fa 5 (.t 0)),qo 4 (.ld none (.t 3)),qo 5 (.call .pure (.c (.fn 81 [] [])) [.t 2,.t 4]),qm 1 5])
 .ret)) }
def A_order_Deps_2:AFun:={ res:=[.t 1],body:=(.seq (.reg false [qo 1 (.mv (.c (.nilp)))])
 (.seq (.reg false [qo 2 (.ld (some 8) (.t 0)),qo 3 (.fa 6 (.t 0)),qo 4 (.ld none (.t 3)),qo 5 (.call .pure (.c (.fn 81 [] [])) [.t 2,.t 4]),qm 1 5])
 .ret)) }
def A_order_Deps_3:AFun:={ res:=[.t 1],body:=(.seq (.reg false [qo 1 (.mv (.c (.nilp)))])
 (.seq (.reg true [qo 2 (.ld (some 8) (.t 0)),qo 3 (.call .pure (.c (.fn 195 [] [])) [.t 2,.c (.fn 245 [] [])]),qo 4 (.ld (some 8) (.t 0)),qo 5 (.call .pure (.c (.fn 60 [] [])) [.t 4]),qo 6 (.call .pure (.c (.fn 23 [] [])) [.t 3,.t 5]),qm 1 6])
 .ret)) }
def A_order_isEx:AFun:={ res:=[.t 2],body:=(.seq (.reg false [qo 1 (.box (.t 0)),qo 2 (.mv (.c (.b false)))])
 (.seq (.reg false [qo 3 (.ld (some 6) (.t 1)),qo 4 (.call .pure (.c (.fn 240 [] [])) [.t 3]),qm 5 4,qg 6 (.fa 5 (.t 1)) 5 true,qg 7 (.ld none (.t 6)) 5 true,qo 8 (.pick (.t 5) (.t 7) (.c (.b false))),qm 2 8])
 .ret)) }
structure Pk_order (F:Funs):Prop where
 order_Bob:F 155 = some A_order_Bob
 order_Ar:F 156 = some A_order_Ar
 order_all:F 193 = some A_order_all
 order_Bob_1:F 194 = some A_order_Bob_1
 order_set:F 195 = some A_order_set
 order_isRel:F 196 = some A_order_isRel
 order_Bob_2:F 197 = some A_order_Bob_2
 order_isAcq:F 198 = some A_order_isAcq
 order_Bob_3:F 199 = some A_order_Bob_3
 order_isF:F 200 = some A_order_isF
 order_Bob_4:F 201 = some A_order_Bob_4
 order_Bob_5:F 202 = some A_order_Bob_5
 order_isW:F 203 = some A_order_isW
 order_Ar_1:F 204 = some A_order_Ar_1
 order_Ar_2:F 205 = some A_order_Ar_2
 order_Ar_3:F 206 = some A_order_Ar_3
 order_Ppo:F 207 = some A_order_Ppo
 order_Ar_4:F 208 = some A_order_Ar_4
 order_Detour:F 209 = some A_order_Detour
 order_Ar_5:F 210 = some A_order_Ar_5
 order_Psc:F 211 = some A_order_Psc
 order_Deps:F 213 = some A_order_Deps
 order_isR:F 240 = some A_order_isR
 order_isSc:F 241 = some A_order_isSc
 order_Deps_1:F 242 = some A_order_Deps_1
 order_Deps_2:F 243 = some A_order_Deps_2
 order_Deps_3:F 244 = some A_order_Deps_3
 order_isEx:F 245 = some A_order_isEx
end Go.Ab
end
section
namespace Go.Ab
def A_rel_New:AFun:={ res:=[.t 4],body:=(.seq (.reg false [qo 4 (.mv (.c (.nilp)))])
 (.seq (.reg false [qm 8 0,qo 9 (.mn (.t 8) (.c (.i .i64 40))),qo 10 (.mx (.c (.i .i64 0)) (.t 9)),qo 11 (.build ([.i .i64 0] ++ List.replicate 40 (.i .u64 0)) [(0,1,.t 10)]),qo 12 (.box (.t 11)),qm 5 12])
 (.seq (.seq (.reg false [qm 13 1,qo 14 (.len (.t 13)),qo 15 (.mv (.c (.i .i64 0)))])
 (.blk 0 (.loop (.seq (.reg false [qo 16 (.bin .lss (.t 15) (.t 14))])
 (.seq (.cond (.t 16) .skip
 (.ext 0))
 (.seq (.blk 1 (.seq (.reg false [qo 17 (.ia 2 (.t 13) (.t 15)),qo 18 (.ld (some 2) (.t 17)),qo 7 (.new ([.i .i64 0,.i .i64 0])),qn (.st 2 (.t 7) (.t 18))])
 (.seq (.reg true [qo 19 (.fa 0 (.t 7)),qo 20 (.ld none (.t 19)),qo 21 (.bin .geq (.t 20) (.c (.i .i64 0))),qm 22 21,qg 23 (.fa 0 (.t 7)) 22 true,qg 24 (.ld none (.t 23)) 22 true,qg 25 (.mv (.t 5)) 22 true,qg 26 (.nilck (.t 25)) 22 true,qg 27 (.fa 0 (.t 26)) 22 true,qg 28 (.ld none (.t 27)) 22 true,qg 29 (.bin .lss (.t 24) (.t 28)) 22 true,qo 30 (.pick (.t 22) (.t 29) (.c (.b false))),qm 31 30,qg 32 (.fa 1 (.t 7)) 31 true,qg 33 (.ld none (.t 32)) 31 true,qg 34 (.bin .geq (.t 33) (.c (.i .i64 0))) 31 true,qo 35 (.pick (.t 31) (.t 34) (.c (.b false))),qm 36 35,qg 37 (.fa 1 (.t 7)) 36 true,qg 38 (.ld none (.t 37)) 36 true,qg 39 (.mv (.t 5)) 36 true,qg 40 (.nilck (.t 39)) 36 true,qg 41 (.fa 0 (.t 40)) 36 true,qg 42 (.ld none (.t 41)) 36 true,qg 43 (.bin .lss (.t 38) (.t 42)) 36 true,qo 44 (.pick (.t 36) (.t 43) (.c (.b false)))])
 (.cond (.t 44) (.reg true [qm 45 5,qo 46 (.fa 0 (.t 7)),qo 47 (.ld none (.t 46)),qo 48 (.nilck (.t 45)),qo 49 (.fa 1 (.t 48)),qo 50 (.iaa 40 1 (.t 49) (.t 47)),qo 51 (.ld none (.t 50)),qo 52 (.fa 1 (.t 7)),qo 53 (.ld none (.t 52)),qo 54 (.bin .shl (.c (.i .u64 1)) (.t 53)),qo 55 (.bin .or (.t 51) (.t 54)),qo 56 (.nilck (.t 45)),qo 57 (.fa 1 (.t 56)),qo 58 (.iaa 40 1 (.t 57) (.t 47)),qn (.st 1 (.t 58) (.t 55))])
 .skip))))
 (.reg false [qo 59 (.bin .add (.t 15) (.c (.i .i64 1))),qm 15 59])))))))
 (.seq (.reg false [qm 60 5,qm 4 60])
 .ret)))) }
def A_rel_Rel_Plus:AFun:={ res:=[.t 2],body:=(.seq (.reg false [qo 2 (.mv (.c (.nilp)))])
 (.seq (.reg false [qm 6 0,qo 7 (.nilck (.t 6)),qo 8 (.ld (some 41) (.t 7)),qo 3 (.new ([.i .i64 0] ++ List.replicate 40 (.i .u64 0))),qn (.st 41 (.t 3) (.t 8))])
 (.seq (.seq (.reg false [qm 9 0,qo 10 (.nilck (.t 9)),qo 11 (.fa 0 (.t 10)),qo 12 (.ld none (.t 11)),qo 13 (.mv (.c (.i .i64 0)))])
 (.blk 0 (.loop (.seq (.reg false [qo 14 (.bin .lss (.t 13) (.t 12))])
 (.seq (.cond (.t 14) .skip
 (.ext 0))
 (.seq (.blk 1 (.seq (.reg false [qm 15 13,qm 4 15])
 (.seq (.reg false [qm 16 0,qo 17 (.nilck (.t 16)),qo 18 (.fa 0 (.t 17)),qo 19 (.ld none (.t 18)),qo 20 (.mv (.c (.i .i64 0)))])
 (.blk 2 (.loop (.seq (.reg false [qo 21 (.bin .lss (.t 20) (.t 19))])
 (.seq (.cond (.t 21) .skip
 (.ext 2))
 (.seq (.blk 3 (.seq (.reg false [qm 22 20,qm 5 22])
 (.seq (.reg false [qm 23 5,qm 24 4,qo 25 (.call .pure (.c (.fn 13 [] [])) [.t 3,.t 23,.t 24])])
 (.cond (.t 25) (.reg true [qm 26 5,qo 27 (.fa 1 (.t 3)),qo 28 (.iaa 40 1 (.t 27) (.t 26)),qo 29 (.ld none (.t 28)),qm 30 4,qo 31 (.fa 1 (.t 3)),qo 32 (.iaa 40 1 (.t 31) (.t 30)),qo 33 (.ld none (.t 32)),qo 34 (.bin .or (.t 29) (.t 33)),qo 35 (.fa 1 (.t 3)),qo 36 (.iaa 40 1 (.t 35) (.t 26)),qn (.st 1 (.t 36) (.t 34))])
 .skip))))
 (.reg false [qo 37 (.bin .add (.t 20) (.c (.i .i64 1))),qm 20 37])))))))))
 (.reg false [qo 38 (.bin .add (.t 13) (.c (.i .i64 1))),qm 13 38])))))))
 (.seq (.reg false [qm 2 3])
 .ret)))) }
def A_rel_Rel_Has:AFun:={ res:=[.t 6],body:=(.seq (.reg false [qo 6 (.mv (.c (.b false)))])
 (.seq (.reg false [qm 7 1,qo 8 (.bin .geq (.t 7) (.c (.i .i64 0))),qm 9 8,qg 10 (.mv (.t 1)) 9 true,qg 11 (.mv (.t 0)) 9 true,qg 12 (.nilck (.t 11)) 9 true,qg 13 (.fa 0 (.t 12)) 9 true,qg 14 (.ld none (.t 13)) 9 true,qg 15 (.bin .lss (.t 10) (.t 14)) 9 true,qo 16 (.pick (.t 9) (.t 15) (.c (.b false))),qm 17 16,qg 18 (.mv (.t 2)) 17 true,qg 19 (.bin .geq (.t 18) (.c (.i .i64 0))) 17 true,qo 20 (.pick (.t 17) (.t 19) (.c (.b false))),qm 21 20,qg 22 (.mv (.t 2)) 21 true,qg 23 (.mv (.t 0)) 21 true,qg 24 (.nilck (.t 23)) 21 true,qg 25 (.fa 0 (.t 24)) 21 true,qg 26 (.ld none (.t 25)) 21 true,qg 27 (.bin .lss (.t 22) (.t 26)) 21 true,qo 28 (.pick (.t 21) (.t 27) (.c (.b false))),qm 29 28,qg 30 (.mv (.t 0)) 29 true,qg 31 (.mv (.t 1)) 29 true,qg 32 (.nilck (.t 30)) 29 true,qg 33 (.fa 1 (.t 32)) 29 true,qg 34 (.iaa 40 1 (.t 33) (.t 31)) 29 true,qg 35 (.ld none (.t 34)) 29 true,qg 36 (.mv (.t 2)) 29 true,qg 37 (.bin .shr (.t 35) (.t 36)) 29 true,qg 38 (.bin .and (.t 37) (.c (.i .u64 1))) 29 true,qg 39 (.bin .neq (.t 38) (.c (.i .u64 0))) 29 true,qo 40 (.pick (.t 29) (.t 39) (.c (.b false))),qm 6 40])
 .ret)) }
def A_rel_Rel_Loops:AFun:={ res:=[.t 2],body:=(.seq (.reg false [qo 2 (.mv (.c (.b false)))])
 (.seq (.reg false [qm 5 0,qo 6 (.call .pure (.c (.fn 12 [] [])) [.t 5]),qm 3 6])
 (.seq (.seq (.reg false [qm 7 0,qo 8 (.nilck (.t 7)),qo 9 (.fa 0 (.t 8)),qo 10 (.ld none (.t 9)),qo 11 (.mv (.c (.i .i64 0)))])
 (.blk 0 (.loop (.seq (.reg false [qo 12 (.bin .lss (.t 11) (.t 10))])
 (.seq (.cond (.t 12) .skip
 (.ext 0))
 (.seq (.blk 1 (.seq (.reg false [qm 13 11,qm 4 13])
 (.seq (.reg false [qm 14 3,qm 15 4,qm 16 4,qo 17 (.call .pure (.c (.fn 13 [] [])) [.t 14,.t 15,.t 16])])
 (.cond (.t 17) (.seq (.reg false [qo 2 (.mv (.c (.b true)))])
 .ret)
 .skip))))
 (.reg false [qo 18 (.bin .add (.t 11) (.c (.i .i64 1))),qm 11 18])))))))
 (.seq (.reg false [qo 2 (.mv (.c (.b false)))])
 .ret)))) }
def A_rel_Rel_Pairs:AFun:={ res:=[.t 2],body:=(.seq (.reg false [qo 2 (.mv (.c (.sl [] 0 .rig)))])
 (.seq (.reg false [qo 3 (.mv (.c (.sl [] 0 .rig)))])
 (.seq (.seq (.reg false [qm 6 0,qo 7 (.nilck (.t 6)),qo 8 (.fa 0 (.t 7)),qo 9 (.ld none (.t 8)),qo 10 (.mv (.c (.i .i64 0)))])
 (.blk 0 (.loop (.seq (.reg false [qo 11 (.bin .lss (.t 10) (.t 9))])
 (.seq (.cond (.t 11) .skip
 (.ext 0))
 (.seq (.blk 1 (.seq (.reg false [qm 12 10,qm 4 12])
 (.seq (.reg false [qm 13 0,qo 14 (.nilck (.t 13)),qo 15 (.fa 0 (.t 14)),qo 16 (.ld none (.t 15)),qo 17 (.mv (.c (.i .i64 0)))])
 (.blk 2 (.loop (.seq (.reg false [qo 18 (.bin .lss (.t 17) (.t 16))])
 (.seq (.cond (.t 18) .skip
 (.ext 2))
 (.seq (.blk 3 (.seq (.reg false [qm 19 17,qm 5 19])
 (.seq (.reg false [qm 20 0,qm 21 4,qm 22 5,qo 23 (.call .pure (.c (.fn 13 [] [])) [.t 20,.t 21,.t 22])])
 (.cond (.t 23) (.reg false [qm 24 3,qm 25 4,qm 26 5,qo 27 (.build ([.i .i64 0,.i .i64 0]) [(0,1,.t 25),(1,1,.t 26)]),qo 28 (.bsl true 1 ([.i .i64 0,.i .i64 0]) [(0,2,.t 27)]),qo 29 (.app 2 16 (.t 24) (.t 28)),qm 3 29])
 .skip))))
 (.reg false [qo 30 (.bin .add (.t 17) (.c (.i .i64 1))),qm 17 30])))))))))
 (.reg false [qo 31 (.bin .add (.t 10) (.c (.i .i64 1))),qm 10 31])))))))
 (.seq (.reg false [qm 32 3,qm 2 32])
 .ret)))) }
def A_rel_Rel_Maybe:AFun:={ res:=[.t 2],body:=(.seq (.reg false [qo 2 (.mv (.c (.nilp)))])
 (.seq (.reg false [qm 5 0,qo 6 (.nilck (.t 5)),qo 7 (.ld (some 41) (.t 6)),qo 3 (.new ([.i .i64 0] ++ List.replicate 40 (.i .u64 0))),qn (.st 41 (.t 3) (.t 7))])
 (.seq (.seq (.reg false [qm 8 0,qo 9 (.nilck (.t 8)),qo 10 (.fa 0 (.t 9)),qo 11 (.ld none (.t 10)),qo 12 (.mv (.c (.i .i64 0)))])
 (.blk 0 (.loop (.seq (.reg false [qo 13 (.bin .lss (.t 12) (.t 11))])
 (.seq (.cond (.t 13) .skip
 (.ext 0))
 (.seq (.blk 1 (.seq (.reg false [qm 14 12,qm 4 14])
 (.reg true [qm 15 4,qo 16 (.fa 1 (.t 3)),qo 17 (.iaa 40 1 (.t 16) (.t 15)),qo 18 (.ld none (.t 17)),qm 19 4,qo 20 (.bin .shl (.c (.i .u64 1)) (.t 19)),qo 21 (.bin .or (.t 18) (.t 20)),qo 22 (.fa 1 (.t 3)),qo 23 (.iaa 40 1 (.t 22) (.t 15)),qn (.st 1 (.t 23) (.t 21))])))
 (.reg false [qo 24 (.bin .add (.t 12) (.c (.i .i64 1))),qm 12 24])))))))
 (.seq (.reg false [qm 2 3])
 .ret)))) }
def A_rel_Rel_Len:AFun:={ res:=[.t 2],body:=(.seq (.reg false [qo 2 (.mv (.c (.i .i64 0)))])
 (.seq (.reg false [qm 3 0,qo 4 (.nilck (.t 3)),qo 5 (.fa 0 (.t 4)),qo 6 (.ld none (.t 5)),qm 2 6])
 .ret)) }
def A_rel_Rel_And:AFun:={ res:=[.t 4],body:=(.seq (.reg false [qo 4 (.mv (.c (.nilp)))])
 (.seq (.reg false [qm 5 0,qm 6 1,qo 7 (.call .pure (.c (.fn 51 [] [])) [.t 5,.t 6,.c (.fn 52 [] [])]),qm 4 7])
 .ret)) }
def A_rel_Rel_In:AFun:={ res:=[.t 4],body:=(.seq (.reg false [qo 4 (.mv (.c (.b false)))])
 (.seq (.reg false [qm 5 0,qm 6 1,qo 7 (.call .pure (.c (.fn 26 [] [])) [.t 5,.t 6]),qo 8 (.nilck (.t 7)),qo 9 (.fa 1 (.t 8)),qo 10 (.ld (some 40) (.t 9)),qo 11 (.build (List.replicate 40 (.i .u64 0)) []),qo 12 (.eqa false (List.replicate 40 0) (.t 10) (.t 11)),qm 4 12])
 .ret)) }
def A_rel_Rel_Then:AFun:={ res:=[.t 4],body:=(.seq (.reg false [qo 4 (.mv (.c (.nilp)))])
 (.seq (.reg true [qm 8 0,qo 9 (.nilck (.t 8)),qo 10 (.fa 0 (.t 9)),qo 11 (.ld none (.t 10)),qm 12 1,qo 13 (.nilck (.t 12)),qo 14 (.fa 0 (.t 13)),qo 15 (.ld none (.t 14)),qo 16 (.mx (.t 11) (.t 15)),qo 17 (.build ([.i .i64 0] ++ List.replicate 40 (.i .u64 0)) [(0,1,.t 16)]),qo 18 (.box (.t 17)),qm 5 18])
 (.seq (.seq (.reg false [qm 19 0,qo 20 (.nilck (.t 19)),qo 21 (.fa 0 (.t 20)),qo 22 (.ld none (.t 21)),qo 23 (.mv (.c (.i .i64 0)))])
 (.blk 0 (.loop (.seq (.reg false [qo 24 (.bin .lss (.t 23) (.t 22))])
 (.seq (.cond (.t 24) .skip
 (.ext 0))
 (.seq (.blk 1 (.seq (.reg false [qm 25 23,qm 6 25])
 (.seq (.reg false [qm 26 0,qo 27 (.nilck (.t 26)),qo 28 (.fa 0 (.t 27)),qo 29 (.ld none (.t 28)),qo 30 (.mv (.c (.i .i64 0)))])
 (.blk 2 (.loop (.seq (.reg false [qo 31 (.bin .lss (.t 30) (.t 29))])
 (.seq (.cond (.t 31) .skip
 (.ext 2))
 (.seq (.blk 3 (.seq (.reg false [qm 32 30,qm 7 32])
 (.seq (.reg false [qm 33 0,qm 34 6,qm 35 7,qo 36 (.call .pure (.c (.fn 13 [] [])) [.t 33,.t 34,.t 35])])
 (.cond (.t 36) (.reg true [qm 37 5,qm 38 6,qo 39 (.nilck (.t 37)),qo 40 (.fa 1 (.t 39)),qo 41 (.iaa 40 1 (.t 40) (.t 38)),qo 42 (.ld none (.t 41)),qm 43 1,qm 44 7,qo 45 (.nilck (.t 43)),qo 46 (.fa 1 (.t 45)),qo 47 (.iaa 40 1 (.t 46) (.t 44)),qo 48 (.ld none (.t 47)),qo 49 (.bin .or (.t 42) (.t 48)),qo 50 (.nilck (.t 37)),qo 51 (.fa 1 (.t 50)),qo 52 (.iaa 40 1 (.t 51) (.t 38)),qn (.st 1 (.t 52) (.t 49))])
 .skip))))
 (.reg false [qo 53 (.bin .add (.t 30) (.c (.i .i64 1))),qm 30 53])))))))))
 (.reg false [qo 54 (.bin .add (.t 23) (.c (.i .i64 1))),qm 23 54])))))))
 (.seq (.reg false [qm 55 5,qm 4 55])
 .ret)))) }
def A_rel_Rel_Or:AFun:={ res:=[.t 4],body:=(.seq (.reg false [qo 4 (.mv (.c (.nilp)))])
 (.seq (.reg false [qm 5 0,qm 6 1,qo 7 (.call .pure (.c (.fn 51 [] [])) [.t 5,.t 6,.c (.fn 53 [] [])]),qm 4 7])
 .ret)) }
def A_rel_Rel_Less:AFun:={ res:=[.t 4],body:=(.seq (.reg false [qo 4 (.mv (.c (.nilp)))])
 (.seq (.reg false [qm 5 0,qm 6 1,qo 7 (.call .pure (.c (.fn 51 [] [])) [.t 5,.t 6,.c (.fn 54 [] [])]),qm 4 7])
 .ret)) }
def A_rel_Rel_by:AFun:={ res:=[.t 6],body:=(.seq (.reg false [qo 6 (.mv (.c (.nilp)))])
 (.seq (.reg true [qm 9 0,qo 10 (.nilck (.t 9)),qo 11 (.fa 0 (.t 10)),qo 12 (.ld none (.t 11)),qm 13 1,qo 14 (.nilck (.t 13)),qo 15 (.fa 0 (.t 14)),qo 16 (.ld none (.t 15)),qo 17 (.mx (.t 12) (.t 16)),qo 18 (.build ([.i .i64 0] ++ List.replicate 40 (.i .u64 0)) [(0,1,.t 17)]),qo 19 (.box (.t 18)),qm 7 19])
 (.seq (.seq (.reg false [qo 20 (.mv (.c (.i .i64 0)))])
 (.blk 0 (.loop (.seq (.reg false [qo 21 (.bin .lss (.t 20) (.c (.i .i64 40)))])
 (.seq (.cond (.t 21) .skip
 (.ext 0))
 (.seq (.blk 1 (.seq (.reg false [qm 22 20,qm 8 22])
 (.reg true [qm 23 7,qm 24 8,qm 25 2,qm 26 0,qm 27 8,qo 28 (.nilck (.t 26)),qo 29 (.fa 1 (.t 28)),qo 30 (.iaa 40 1 (.t 29) (.t 27)),qo 31 (.ld none (.t 30)),qm 32 1,qm 33 8,qo 34 (.nilck (.t 32)),qo 35 (.fa 1 (.t 34)),qo 36 (.iaa 40 1 (.t 35) (.t 33)),qo 37 (.ld none (.t 36)),qo 38 (.call .pure (.t 25) [.t 31,.t 37]),qo 39 (.nilck (.t 23)),qo 40 (.fa 1 (.t 39)),qo 41 (.iaa 40 1 (.t 40) (.t 24)),qn (.st 1 (.t 41) (.t 38))])))
 (.reg false [qo 42 (.bin .add (.t 20) (.c (.i .i64 1))),qm 20 42])))))))
 (.seq (.reg false [qm 43 7,qm 6 43])
 .ret)))) }
def A_rel_Rel_And_1:AFun:={ res:=[.t 4],body:=(.seq (.reg false [qo 4 (.mv (.c (.i .u64 0)))])
 (.seq (.reg false [qm 5 0,qm 6 1,qo 7 (.bin .and (.t 5) (.t 6)),qm 4 7])
 .ret)) }
def A_rel_Rel_Or_1:AFun:={ res:=[.t 4],body:=(.seq (.reg false [qo 4 (.mv (.c (.i .u64 0)))])
 (.seq (.reg false [qm 5 0,qm 6 1,qo 7 (.bin .or (.t 5) (.t 6)),qm 4 7])
 .ret)) }
def A_rel_Rel_Less_1:AFun:={ res:=[.t 4],body:=(.seq (.reg false [qo 4 (.mv (.c (.i .u64 0)))])
 (.seq (.reg false [qm 5 0,qm 6 1,qo 7 (.bin .andNot (.t 5) (.t 6)),qm 4 7])
 .ret)) }
structure Pk_rel (F:Funs):Prop where
 rel_New:F 11 = some A_rel_New
 rel_Rel_Plus:F 12 = some A_rel_Rel_Plus
 rel_Rel_Has:F 13 = some A_rel_Rel_Has
 rel_Rel_Loops:F 14 = some A_rel_Rel_Loops
 rel_Rel_Pairs:F 15 = some A_rel_Rel_Pairs
 rel_Rel_Maybe:F 16 = some A_rel_Rel_Maybe
 rel_Rel_Len:F 17 = some A_rel_Rel_Len
 rel_Rel_And:F 18 = some A_rel_Rel_And
 rel_Rel_Then:F 23 = some A_rel_Rel_Then
 rel_Rel_Or:F 24 = some A_rel_Rel_Or
 rel_Rel_by:F 51 = some A_rel_Rel_by
 rel_Rel_And_1:F 52 = some A_rel_Rel_And_1
 rel_Rel_Or_1:F 53 = some A_rel_Rel_Or_1
end Go.Ab
end
section
namespace Go.Ab
def A_sync_Hb:AFun:={ res:=[.t 2],body:=(.seq (.reg false [qo 1 (.box (.t 0)),qo 2 (.mv (.c (.nilp)))])
 (.seq (.reg true [qo 3 (.ld (some 8) (.t 1)),qo 4 (.call .pure (.c (.fn 60 [] [])) [.t 3]),qo 5 (.ld (some 8) (.t 1)),qo 6 (.call .pure (.c (.fn 176 [] [])) [.t 5]),qo 7 (.call .pure (.c (.fn 24 [] [])) [.t 4,.t 6]),qo 8 (.call .pure (.c (.fn 12 [] [])) [.t 7]),qm 2 8])
 .ret)) }
def A_sync_Release:AFun:={ res:=[.t 2],body:=(.seq (.reg false [qo 1 (.box (.t 0)),qo 2 (.mv (.c (.nilp)))])
 (.seq (.reg true [qo 4 (.ld (some 8) (.t 1)),qo 5 (.bsl true 3 ([.i .i64 0,.i .i64 0,.i .i64 0]) [(0,1,.c (.i .i64 2)),(1,1,.c (.i .i64 3)),(2,1,.c (.i .i64 4))]),qo 6 (.call .pure (.c (.fn 178 [] [])) [.t 4,.c (.i .i64 3),.t 5]),qo 7 (.ld (some 8) (.t 1)),qo 8 (.call .pure (.c (.fn 60 [] [])) [.t 7]),qo 9 (.bsl true 1 ([.nilp]) [(0,1,.t 8)]),qo 10 (.call .pure (.c (.fn 177 [] [])) [.t 6,.t 9]),qm 3 10])
 (.seq (.reg true [qo 11 (.ld (some 8) (.t 1)),qo 12 (.bsl true 1 ([.i .i64 0]) [(0,1,.c (.i .i64 2))]),qo 13 (.call .pure (.c (.fn 178 [] [])) [.t 11,.c (.i .i64 2),.t 12]),qm 14 3,qo 15 (.call .pure (.c (.fn 24 [] [])) [.t 13,.t 14]),qo 16 (.ld (some 8) (.t 1)),qo 17 (.call .pure (.c (.fn 179 [] [])) [.t 16]),qo 18 (.bsl true 1 ([.nilp]) [(0,1,.t 17)]),qo 19 (.call .pure (.c (.fn 177 [] [])) [.t 15,.t 18]),qm 2 19])
 .ret))) }
def A_sync_Sw:AFun:={ res:=[.t 2],body:=(.seq (.reg false [qo 1 (.box (.t 0)),qo 2 (.mv (.c (.nilp)))])
 (.seq (.reg false [qo 6 (.ld (some 8) (.t 1)),qo 7 (.call .pure (.c (.fn 48 [] [])) [.t 6]),qm 3 7])
 (.seq (.reg true [qo 8 (.ld (some 8) (.t 1)),qm 9 3,qo 10 (.call .pure (.c (.fn 39 [] [])) [.t 8,.t 9]),qo 11 (.ld (some 8) (.t 1)),qo 12 (.call .pure (.c (.fn 41 [] [])) [.t 11]),qo 13 (.call .pure (.c (.fn 16 [] [])) [.t 12]),qo 14 (.ld (some 8) (.t 1)),qm 15 3,qo 16 (.call .pure (.c (.fn 40 [] [])) [.t 14,.t 15]),qo 17 (.bsl true 1 ([.nilp]) [(0,1,.t 16)]),qo 18 (.call .pure (.c (.fn 177 [] [])) [.t 13,.t 17]),qo 19 (.call .pure (.c (.fn 24 [] [])) [.t 10,.t 18]),qm 4 19])
 (.seq (.reg true [qo 20 (.ld (some 8) (.t 1)),qo 21 (.call .pure (.c (.fn 60 [] [])) [.t 20]),qo 22 (.ld (some 8) (.t 1)),qo 23 (.bsl true 3 ([.i .i64 0,.i .i64 0,.i .i64 0]) [(0,1,.c (.i .i64 1)),(1,1,.c (.i .i64 3)),(2,1,.c (.i .i64 4))]),qo 24 (.call .pure (.c (.fn 178 [] [])) [.t 22,.c (.i .i64 3),.t 23]),qo 25 (.bsl true 1 ([.nilp]) [(0,1,.t 24)]),qo 26 (.call .pure (.c (.fn 177 [] [])) [.t 21,.t 25]),qm 5 26])
 (.seq (.reg true [qo 27 (.ld (some 8) (.t 1)),qo 28 (.call .pure (.c (.fn 149 [] [])) [.t 27]),qm 29 4,qo 30 (.ld (some 8) (.t 1)),qo 31 (.bsl true 1 ([.i .i64 0]) [(0,1,.c (.i .i64 1))]),qo 32 (.call .pure (.c (.fn 178 [] [])) [.t 30,.c (.i .i64 1),.t 31]),qm 33 5,qo 34 (.call .pure (.c (.fn 24 [] [])) [.t 32,.t 33]),qo 35 (.bsl true 2 ([.nilp,.nilp]) [(0,1,.t 29),(1,1,.t 34)]),qo 36 (.call .pure (.c (.fn 177 [] [])) [.t 28,.t 35]),qm 2 36])
 .ret))))) }
def A_sync_then:AFun:={ res:=[.t 4],body:=(.seq (.reg false [qo 4 (.mv (.c (.nilp)))])
 (.seq (.seq (.reg false [qm 7 1,qo 8 (.len (.t 7)),qo 9 (.mv (.c (.i .i64 0)))])
 (.blk 0 (.loop (.seq (.reg false [qo 10 (.bin .lss (.t 9) (.t 8))])
 (.seq (.cond (.t 10) .skip
 (.ext 0))
 (.seq (.blk 1 (.seq (.reg false [qo 11 (.ia 1 (.t 7) (.t 9)),qo 12 (.ld none (.t 11)),qm 6 12])
 (.reg false [qm 13 0,qm 14 6,qo 15 (.call .pure (.c (.fn 23 [] [])) [.t 13,.t 14]),qm 0 15])))
 (.reg false [qo 16 (.bin .add (.t 9) (.c (.i .i64 1))),qm 9 16])))))))
 (.seq (.reg false [qm 17 0,qm 4 17])
 .ret))) }
def A_sync_set:AFun:={ res:=[.t 6],body:=(.seq (.reg false [qo 3 (.boxI (.t 0)),qo 4 (.boxI (.t 1)),qo 5 (.boxI (.t 2)),qo 6 (.mv (.c (.nilp)))])
 (.seq (.reg false [qo 7 (.ld (some 8) (.t 3)),qo 8 (.mkfn 229 [] [.t 5,.t 4]),qo 9 (.call .pure (.c (.fn 166 [] [])) [.t 7,.t 8]),qm 6 9])
 .ret)) }
def A_sync_Rs:AFun:={ res:=[.t 2],body:=(.seq (.reg false [qo 1 (.box (.t 0)),qo 2 (.mv (.c (.nilp)))])
 (.seq (.reg true [qo 6 (.ld (some 8) (.t 1)),qo 7 (.call .pure (.c (.fn 178 [] [])) [.t 6,.c (.i .i64 2),.c (.sl [] 0 .rig)]),qo 8 (.ld (some 8) (.t 1)),qo 9 (.call .pure (.c (.fn 41 [] [])) [.t 8]),qm 3 7,qm 4 9])
 (.seq (.reg true [qm 10 4,qo 11 (.call .pure (.c (.fn 16 [] [])) [.t 10]),qo 12 (.ld (some 8) (.t 1)),qo 13 (.call .pure (.c (.fn 48 [] [])) [.t 12]),qo 14 (.ld (some 8) (.t 1)),qo 15 (.fa 4 (.t 1)),qo 16 (.ld none (.t 15)),qo 17 (.call .pure (.c (.fn 81 [] [])) [.t 14,.t 16]),qo 18 (.bsl true 2 ([.nilp,.nilp]) [(0,1,.t 13),(1,1,.t 17)]),qo 19 (.call .pure (.c (.fn 177 [] [])) [.t 11,.t 18]),qm 5 19])
 (.seq (.reg false [qm 20 3,qm 21 4,qm 22 3,qo 23 (.bsl true 2 ([.nilp,.nilp]) [(0,1,.t 21),(1,1,.t 22)]),qo 24 (.call .pure (.c (.fn 177 [] [])) [.t 20,.t 23]),qm 25 3,qm 26 5,qo 27 (.call .pure (.c (.fn 12 [] [])) [.t 26]),qo 28 (.call .pure (.c (.fn 16 [] [])) [.t 27]),qo 29 (.bsl true 1 ([.nilp]) [(0,1,.t 28)]),qo 30 (.call .pure (.c (.fn 177 [] [])) [.t 25,.t 29]),qo 31 (.call .pure (.c (.fn 24 [] [])) [.t 24,.t 30]),qm 2 31])
 .ret)))) }
def A_sync_set_1:AFun:={ res:=[.t 4],body:=(.seq (.reg false [qo 3 (.box (.t 0)),qo 4 (.mv (.c (.b false)))])
 (.seq (.reg false [qo 8 (.ld none (.t 1)),qo 9 (.len (.t 8)),qo 10 (.bin .eql (.t 9) (.c (.i .i64 0))),qm 5 10])
 (.seq (.seq (.reg false [qo 11 (.ld none (.t 1)),qo 12 (.len (.t 11)),qo 13 (.mv (.c (.i .i64 0)))])
 (.blk 0 (.loop (.seq (.reg false [qo 14 (.bin .lss (.t 13) (.t 12))])
 (.seq (.cond (.t 14) .skip
 (.ext 0))
 (.seq (.blk 1 (.seq (.reg false [qo 15 (.ia 1 (.t 11) (.t 13)),qo 16 (.ld none (.t 15)),qm 7 16])
 (.reg false [qm 17 5,qm 18 17,qg 19 (.fa 2 (.t 3)) 18 false,qg 20 (.ld none (.t 19)) 18 false,qg 21 (.mv (.t 7)) 18 false,qg 22 (.bin .eql (.t 20) (.t 21)) 18 false,qo 23 (.pick (.t 18) (.c (.b true)) (.t 22)),qm 5 23])))
 (.reg false [qo 24 (.bin .add (.t 13) (.c (.i .i64 1))),qm 13 24])))))))
 (.seq (.reg false [qo 25 (.fa 1 (.t 3)),qo 26 (.ld none (.t 25)),qo 27 (.ld none (.t 2)),qo 28 (.bin .eql (.t 26) (.t 27)),qm 29 28,qg 30 (.mv (.t 5)) 29 true,qo 31 (.pick (.t 29) (.t 30) (.c (.b false))),qm 4 31])
 .ret)))) }
structure Pk_sync (F:Funs):Prop where
 sync_Hb:F 148 = some A_sync_Hb
 sync_Release:F 149 = some A_sync_Release
 sync_Sw:F 176 = some A_sync_Sw
 sync_then:F 177 = some A_sync_then
 sync_set:F 178 = some A_sync_set
 sync_Rs:F 179 = some A_sync_Rs
 sync_set_1:F 229 = some A_sync_set_1
end Go.Ab
end
section
set_option maxRecDepth 100000
set_option linter.unusedVariables false
namespace Go.Proofs.YthafjhelijmpcaaGreat
open Go.Ab
def tab:List (Nat × Nat × AFun):=[(10,27,A_xlaw00_Place),
 (11,51,A_rel_New),
 (12,159,A_rel_Rel_Plus),
 (13,42,A_rel_Rel_Has),
 (14,224,A_rel_Rel_Loops),
 (15,15,A_rel_Rel_Pairs),
 (16,157,A_rel_Rel_Maybe),
 (17,148,A_rel_Rel_Len),
 (18,186,A_rel_Rel_And),
 (23,17,A_rel_Rel_Then),
 (24,55,A_rel_Rel_Or),
 (27,144,A_xref01_New),
 (29,145,A_xref01_R_Or),
 (30,152,A_xref01_R_And),
 (32,141,A_xref01_R_Then),
 (33,252,A_xref01_R_Back),
 (34,170,A_xref01_R_Plus),
 (35,162,A_xref01_R_Maybe),
 (37,204,A_xref01_R_Loops),
 (39,49,A_eco_Inner),
 (40,87,A_eco_Outer),
 (41,135,A_eco_Loc),
 (42,189,A_eco_Eco),
 (45,203,A_xref06_Check),
 (48,50,A_eco_Rf),
 (49,130,A_eco_Co),
 (50,129,A_eco_Fr),
 (51,136,A_rel_Rel_by),
 (52,237,A_rel_Rel_And_1),
 (53,137,A_rel_Rel_Or_1),
 (55,149,A_xref01_SamePairs),
 (56,150,A_xref01_R_Pairs),
 (57,131,A_eco_some),
 (58,132,A_eco_Inner_1),
 (59,191,A_eco_Outer_1),
 (60,18,A_graph_Po),
 (61,233,A_eco_Loc_1),
 (63,247,A_xref06_event),
 (64,248,A_xref06_rf),
 (65,249,A_xref06_co),
 (66,250,A_xref06_rmw),
 (67,251,A_xref06_deps),
 (69,143,A_xref09_Rf),
 (70,187,A_xref09_Co),
 (71,205,A_xref09_Fr),
 (72,190,A_xref09_Eco),
 (73,161,A_xref09_Loc),
 (74,142,A_xref09_Inner),
 (75,167,A_xref09_Outer),
 (76,31,A_xlaw00_Small),
 (77,32,A_xlaw00_Loads),
 (78,34,A_xref13_All),
 (79,35,A_xlaw00_Domain),
 (80,133,A_eco_pairs),
 (81,47,A_graph_Of),
 (82,276,A_xref06_rising),
 (83,202,A_xref09_Com),
 (84,166,A_xref06_Po),
 (85,234,A_xref09_part),
 (86,37,A_xlaw00_Prog),
 (87,108,A_xref04_Check),
 (88,109,A_xref13_Values),
 (89,110,A_xref13_Lots),
 (90,111,A_xref07_Skeleton),
 (91,112,A_xref13_E_Finish),
 (92,228,A_eco_pairs_1),
 (93,229,A_eco_pairs_2),
 (94,230,A_eco_pairs_3),
 (95,231,A_eco_pairs_4),
 (96,232,A_eco_pairs_5),
 (97,117,A_xlaw00_Instr),
 (98,207,A_xref04_Instr),
 (99,208,A_xref04_Events),
 (100,209,A_xref04_Paths),
 (101,210,A_xref13_values),
 (102,126,A_xref13_Domain),
 (103,211,A_xref07_First),
 (104,212,A_xref05_Do),
 (105,213,A_xref07_Lay),
 (106,214,A_xref13_E_rf),
 (107,215,A_xlaw00_Expr),
 (108,216,A_xlaw00_num),
 (109,253,A_xref02_Check),
 (110,254,A_xref04_Uses),
 (111,255,A_xref03_SameInstr),
 (112,256,A_xref05_Start),
 (113,257,A_xref05_S_Read),
 (114,258,A_xref05_S_Write),
 (115,259,A_xref02_Eval),
 (116,260,A_xref05_S_Of),
 (117,261,A_xref05_S_Event),
 (118,262,A_xref05_S_faa),
 (119,263,A_xref05_S_Move),
 (120,264,A_xref05_S_Skip),
 (121,265,A_xref07_moved),
 (122,266,A_xref13_E_co),
 (123,267,A_xlaw00_reg),
 (124,268,A_xlaw00_op),
 (125,277,A_xref02_word),
 (126,278,A_xref02_Regs),
 (127,279,A_xref02_Same),
 (128,280,A_xref02_Do),
 (129,274,A_xref05_Both),
 (130,281,A_xref05_pairs),
 (131,282,A_xref13_copied),
 (132,288,A_xref05_Put),
 (148,64,A_sync_Hb),
 (149,65,A_sync_Release),
 (152,118,A_graph_Check),
 (155,76,A_order_Bob),
 (156,26,A_order_Ar),
 (161,38,A_imm_Consistent),
 (162,107,A_imm_Atomic),
 (163,33,A_xlaw12_awake),
 (164,106,A_imm_Coherent),
 (166,45,A_graph_Set),
 (176,63,A_sync_Sw),
 (177,156,A_sync_then),
 (178,158,A_sync_set),
 (179,66,A_sync_Rs),
 (182,68,A_xref10_Rs),
 (183,69,A_xref10_Release),
 (184,70,A_xref10_Sw),
 (185,71,A_xref10_Hb),
 (186,217,A_graph_first),
 (187,218,A_graph_threads),
 (188,219,A_graph_rf),
 (189,220,A_graph_co),
 (190,221,A_graph_rmw),
 (191,222,A_graph_Check_1),
 (192,223,A_graph_list),
 (193,85,A_order_all),
 (194,178,A_order_Bob_1),
 (195,171,A_order_set),
 (196,179,A_order_isRel),
 (197,180,A_order_Bob_2),
 (198,181,A_order_isAcq),
 (199,182,A_order_Bob_3),
 (200,183,A_order_isF),
 (201,184,A_order_Bob_4),
 (202,185,A_order_Bob_5),
 (203,173,A_order_isW),
 (204,86,A_order_Ar_1),
 (205,88,A_order_Ar_2),
 (206,89,A_order_Ar_3),
 (207,72,A_order_Ppo),
 (208,90,A_order_Ar_4),
 (209,80,A_order_Detour),
 (210,91,A_order_Ar_5),
 (211,82,A_order_Psc),
 (213,74,A_order_Deps),
 (214,119,A_imm_looked_coherent),
 (215,120,A_imm_looked_atomic),
 (216,121,A_imm_looked_ordered),
 (217,104,A_imm_Ordered),
 (218,105,A_xlaw12_loop),
 (223,140,A_xref06_Of),
 (225,151,A_xref06_Kind),
 (229,236,A_sync_set_1),
 (230,160,A_xref10_W),
 (231,163,A_xref01_R_Star),
 (232,164,A_xref10_Wrel),
 (233,165,A_xref10_Frel),
 (234,168,A_xref10_Racq),
 (235,169,A_xref10_Facq),
 (236,269,A_graph_event),
 (237,270,A_graph_write),
 (238,271,A_graph_rmw_1),
 (239,272,A_graph_order),
 (240,172,A_order_isR),
 (241,188,A_order_isSc),
 (242,174,A_order_Deps_1),
 (243,175,A_order_Deps_2),
 (244,176,A_order_Deps_3),
 (245,177,A_order_isEx),
 (248,284,A_cmp_Compare_int),
 (249,283,A_cmp_Or_int),
 (253,36,A_xlaw12_all),
 (255,77,A_xref11_Bob),
 (256,78,A_xref11_Deps),
 (257,79,A_xref11_Ppo),
 (258,81,A_xref11_Detour),
 (259,83,A_xref11_Psc),
 (260,84,A_xref11_Ar),
 (261,113,A_xref12_Coherent),
 (262,114,A_xref12_Atomic),
 (263,115,A_xref12_Ordered),
 (264,116,A_xref12_Consistent),
 (265,206,A_xref01_R_Self),
 (266,289,A_cmp_isNaN_int),
 (474,9,A_xlaw12_ImmNumbers)]
def num (f:Nat):Nat:=((tab.find? (fun r => r.1 == f)).map (·.2.1)).getD 0
def funs:Funs:=fun f => (tab.find? (fun r => r.1 == f)).map (·.2.2)
theorem c10:funB Tryz.prog num Tryz.f27 A_xlaw00_Place = true:=by kernel_rfl
theorem c11:funB Tryz.prog num Tryz.f51 A_rel_New = true:=by kernel_rfl
theorem c12:funB Tryz.prog num Tryz.f159 A_rel_Rel_Plus = true:=by kernel_rfl
theorem c13:funB Tryz.prog num Tryz.f42 A_rel_Rel_Has = true:=by kernel_rfl
theorem c14:funB Tryz.prog num Tryz.f224 A_rel_Rel_Loops = true:=by kernel_rfl
theorem c15:funB Tryz.prog num Tryz.f15 A_rel_Rel_Pairs = true:=by kernel_rfl
theorem c16:funB Tryz.prog num Tryz.f157 A_rel_Rel_Maybe = true:=by kernel_rfl
theorem c17:funB Tryz.prog num Tryz.f148 A_rel_Rel_Len = true:=by kernel_rfl
theorem c18:funB Tryz.prog num Tryz.f186 A_rel_Rel_And = true:=by kernel_rfl
theorem c23:funB Tryz.prog num Tryz.f17 A_rel_Rel_Then = true:=by kernel_rfl
theorem c24:funB Tryz.prog num Tryz.f55 A_rel_Rel_Or = true:=by kernel_rfl
theorem c27:funB Tryz.prog num Tryz.f144 A_xref01_New = true:=by kernel_rfl
theorem c29:funB Tryz.prog num Tryz.f145 A_xref01_R_Or = true:=by kernel_rfl
theorem c30:funB Tryz.prog num Tryz.f152 A_xref01_R_And = true:=by kernel_rfl
theorem c32:funB Tryz.prog num Tryz.f141 A_xref01_R_Then = true:=by kernel_rfl
theorem c33:funB Tryz.prog num Tryz.f252 A_xref01_R_Back = true:=by kernel_rfl
theorem c34:funB Tryz.prog num Tryz.f170 A_xref01_R_Plus = true:=by kernel_rfl
theorem c35:funB Tryz.prog num Tryz.f162 A_xref01_R_Maybe = true:=by kernel_rfl
theorem c37:funB Tryz.prog num Tryz.f204 A_xref01_R_Loops = true:=by kernel_rfl
theorem c39:funB Tryz.prog num Tryz.f49 A_eco_Inner = true:=by kernel_rfl
theorem c40:funB Tryz.prog num Tryz.f87 A_eco_Outer = true:=by kernel_rfl
theorem c41:funB Tryz.prog num Tryz.f135 A_eco_Loc = true:=by kernel_rfl
theorem c42:funB Tryz.prog num Tryz.f189 A_eco_Eco = true:=by kernel_rfl
theorem c45:funB Tryz.prog num Tryz.f203 A_xref06_Check = true:=by kernel_rfl
theorem c48:funB Tryz.prog num Tryz.f50 A_eco_Rf = true:=by kernel_rfl
theorem c49:funB Tryz.prog num Tryz.f130 A_eco_Co = true:=by kernel_rfl
theorem c50:funB Tryz.prog num Tryz.f129 A_eco_Fr = true:=by kernel_rfl
theorem c51:funB Tryz.prog num Tryz.f136 A_rel_Rel_by = true:=by kernel_rfl
theorem c52:funB Tryz.prog num Tryz.f237 A_rel_Rel_And_1 = true:=by kernel_rfl
theorem c53:funB Tryz.prog num Tryz.f137 A_rel_Rel_Or_1 = true:=by kernel_rfl
theorem c55:funB Tryz.prog num Tryz.f149 A_xref01_SamePairs = true:=by kernel_rfl
theorem c56:funB Tryz.prog num Tryz.f150 A_xref01_R_Pairs = true:=by kernel_rfl
theorem c57:funB Tryz.prog num Tryz.f131 A_eco_some = true:=by kernel_rfl
theorem c58:funB Tryz.prog num Tryz.f132 A_eco_Inner_1 = true:=by kernel_rfl
theorem c59:funB Tryz.prog num Tryz.f191 A_eco_Outer_1 = true:=by kernel_rfl
theorem c60:funB Tryz.prog num Tryz.f18 A_graph_Po = true:=by kernel_rfl
theorem c61:funB Tryz.prog num Tryz.f233 A_eco_Loc_1 = true:=by kernel_rfl
theorem c63:funB Tryz.prog num Tryz.f247 A_xref06_event = true:=by kernel_rfl
theorem c64:funB Tryz.prog num Tryz.f248 A_xref06_rf = true:=by kernel_rfl
theorem c65:funB Tryz.prog num Tryz.f249 A_xref06_co = true:=by kernel_rfl
theorem c66:funB Tryz.prog num Tryz.f250 A_xref06_rmw = true:=by kernel_rfl
theorem c67:funB Tryz.prog num Tryz.f251 A_xref06_deps = true:=by kernel_rfl
theorem c69:funB Tryz.prog num Tryz.f143 A_xref09_Rf = true:=by kernel_rfl
theorem c70:funB Tryz.prog num Tryz.f187 A_xref09_Co = true:=by kernel_rfl
theorem c71:funB Tryz.prog num Tryz.f205 A_xref09_Fr = true:=by kernel_rfl
theorem c72:funB Tryz.prog num Tryz.f190 A_xref09_Eco = true:=by kernel_rfl
theorem c73:funB Tryz.prog num Tryz.f161 A_xref09_Loc = true:=by kernel_rfl
theorem c74:funB Tryz.prog num Tryz.f142 A_xref09_Inner = true:=by kernel_rfl
theorem c75:funB Tryz.prog num Tryz.f167 A_xref09_Outer = true:=by kernel_rfl
theorem c76:funB Tryz.prog num Tryz.f31 A_xlaw00_Small = true:=by kernel_rfl
theorem c77:funB Tryz.prog num Tryz.f32 A_xlaw00_Loads = true:=by kernel_rfl
theorem c78:funB Tryz.prog num Tryz.f34 A_xref13_All = true:=by kernel_rfl
theorem c79:funB Tryz.prog num Tryz.f35 A_xlaw00_Domain = true:=by kernel_rfl
theorem c80:funB Tryz.prog num Tryz.f133 A_eco_pairs = true:=by kernel_rfl
theorem c81:funB Tryz.prog num Tryz.f47 A_graph_Of = true:=by kernel_rfl
theorem c82:funB Tryz.prog num Tryz.f276 A_xref06_rising = true:=by kernel_rfl
theorem c83:funB Tryz.prog num Tryz.f202 A_xref09_Com = true:=by kernel_rfl
theorem c84:funB Tryz.prog num Tryz.f166 A_xref06_Po = true:=by kernel_rfl
theorem c85:funB Tryz.prog num Tryz.f234 A_xref09_part = true:=by kernel_rfl
theorem c86:funB Tryz.prog num Tryz.f37 A_xlaw00_Prog = true:=by kernel_rfl
theorem c87:funB Tryz.prog num Tryz.f108 A_xref04_Check = true:=by kernel_rfl
theorem c88:funB Tryz.prog num Tryz.f109 A_xref13_Values = true:=by kernel_rfl
theorem c89:funB Tryz.prog num Tryz.f110 A_xref13_Lots = true:=by kernel_rfl
theorem c90:funB Tryz.prog num Tryz.f111 A_xref07_Skeleton = true:=by kernel_rfl
theorem c91:funB Tryz.prog num Tryz.f112 A_xref13_E_Finish = true:=by kernel_rfl
theorem c92:funB Tryz.prog num Tryz.f228 A_eco_pairs_1 = true:=by kernel_rfl
theorem c93:funB Tryz.prog num Tryz.f229 A_eco_pairs_2 = true:=by kernel_rfl
theorem c94:funB Tryz.prog num Tryz.f230 A_eco_pairs_3 = true:=by kernel_rfl
theorem c95:funB Tryz.prog num Tryz.f231 A_eco_pairs_4 = true:=by kernel_rfl
theorem c96:funB Tryz.prog num Tryz.f232 A_eco_pairs_5 = true:=by kernel_rfl
theorem c97:funB Tryz.prog num Tryz.f117 A_xlaw00_Instr = true:=by kernel_rfl
theorem c98:funB Tryz.prog num Tryz.f207 A_xref04_Instr = true:=by kernel_rfl
theorem c99:funB Tryz.prog num Tryz.f208 A_xref04_Events = true:=by kernel_rfl
theorem c100:funB Tryz.prog num Tryz.f209 A_xref04_Paths = true:=by kernel_rfl
theorem c101:funB Tryz.prog num Tryz.f210 A_xref13_values = true:=by kernel_rfl
theorem c102:funB Tryz.prog num Tryz.f126 A_xref13_Domain = true:=by kernel_rfl
theorem c103:funB Tryz.prog num Tryz.f211 A_xref07_First = true:=by kernel_rfl
theorem c104:funB Tryz.prog num Tryz.f212 A_xref05_Do = true:=by kernel_rfl
theorem c105:funB Tryz.prog num Tryz.f213 A_xref07_Lay = true:=by kernel_rfl
theorem c106:funB Tryz.prog num Tryz.f214 A_xref13_E_rf = true:=by kernel_rfl
theorem c107:funB Tryz.prog num Tryz.f215 A_xlaw00_Expr = true:=by kernel_rfl
theorem c108:funB Tryz.prog num Tryz.f216 A_xlaw00_num = true:=by kernel_rfl
theorem c109:funB Tryz.prog num Tryz.f253 A_xref02_Check = true:=by kernel_rfl
theorem c110:funB Tryz.prog num Tryz.f254 A_xref04_Uses = true:=by kernel_rfl
theorem c111:funB Tryz.prog num Tryz.f255 A_xref03_SameInstr = true:=by kernel_rfl
theorem c112:funB Tryz.prog num Tryz.f256 A_xref05_Start = true:=by kernel_rfl
theorem c113:funB Tryz.prog num Tryz.f257 A_xref05_S_Read = true:=by kernel_rfl
theorem c114:funB Tryz.prog num Tryz.f258 A_xref05_S_Write = true:=by kernel_rfl
theorem c115:funB Tryz.prog num Tryz.f259 A_xref02_Eval = true:=by kernel_rfl
theorem c116:funB Tryz.prog num Tryz.f260 A_xref05_S_Of = true:=by kernel_rfl
theorem c117:funB Tryz.prog num Tryz.f261 A_xref05_S_Event = true:=by kernel_rfl
theorem c118:funB Tryz.prog num Tryz.f262 A_xref05_S_faa = true:=by kernel_rfl
theorem c119:funB Tryz.prog num Tryz.f263 A_xref05_S_Move = true:=by kernel_rfl
theorem c120:funB Tryz.prog num Tryz.f264 A_xref05_S_Skip = true:=by kernel_rfl
theorem c121:funB Tryz.prog num Tryz.f265 A_xref07_moved = true:=by kernel_rfl
theorem c122:funB Tryz.prog num Tryz.f266 A_xref13_E_co = true:=by kernel_rfl
theorem c123:funB Tryz.prog num Tryz.f267 A_xlaw00_reg = true:=by kernel_rfl
theorem c124:funB Tryz.prog num Tryz.f268 A_xlaw00_op = true:=by kernel_rfl
theorem c125:funB Tryz.prog num Tryz.f277 A_xref02_word = true:=by kernel_rfl
theorem c126:funB Tryz.prog num Tryz.f278 A_xref02_Regs = true:=by kernel_rfl
theorem c127:funB Tryz.prog num Tryz.f279 A_xref02_Same = true:=by kernel_rfl
theorem c128:funB Tryz.prog num Tryz.f280 A_xref02_Do = true:=by kernel_rfl
theorem c129:funB Tryz.prog num Tryz.f274 A_xref05_Both = true:=by kernel_rfl
theorem c130:funB Tryz.prog num Tryz.f281 A_xref05_pairs = true:=by kernel_rfl
theorem c131:funB Tryz.prog num Tryz.f282 A_xref13_copied = true:=by kernel_rfl
theorem c132:funB Tryz.prog num Tryz.f288 A_xref05_Put = true:=by kernel_rfl
theorem c148:funB Tryz.prog num Tryz.f64 A_sync_Hb = true:=by kernel_rfl
theorem c149:funB Tryz.prog num Tryz.f65 A_sync_Release = true:=by kernel_rfl
theorem c152:funB Tryz.prog num Tryz.f118 A_graph_Check = true:=by kernel_rfl
theorem c155:funB Tryz.prog num Tryz.f76 A_order_Bob = true:=by kernel_rfl
theorem c156:funB Tryz.prog num Tryz.f26 A_order_Ar = true:=by kernel_rfl
theorem c161:funB Tryz.prog num Tryz.f38 A_imm_Consistent = true:=by kernel_rfl
theorem c162:funB Tryz.prog num Tryz.f107 A_imm_Atomic = true:=by kernel_rfl
theorem c163:funB Tryz.prog num Tryz.f33 A_xlaw12_awake = true:=by kernel_rfl
theorem c164:funB Tryz.prog num Tryz.f106 A_imm_Coherent = true:=by kernel_rfl
theorem c166:funB Tryz.prog num Tryz.f45 A_graph_Set = true:=by kernel_rfl
theorem c176:funB Tryz.prog num Tryz.f63 A_sync_Sw = true:=by kernel_rfl
theorem c177:funB Tryz.prog num Tryz.f156 A_sync_then = true:=by kernel_rfl
theorem c178:funB Tryz.prog num Tryz.f158 A_sync_set = true:=by kernel_rfl
theorem c179:funB Tryz.prog num Tryz.f66 A_sync_Rs = true:=by kernel_rfl
theorem c182:funB Tryz.prog num Tryz.f68 A_xref10_Rs = true:=by kernel_rfl
theorem c183:funB Tryz.prog num Tryz.f69 A_xref10_Release = true:=by kernel_rfl
theorem c184:funB Tryz.prog num Tryz.f70 A_xref10_Sw = true:=by kernel_rfl
theorem c185:funB Tryz.prog num Tryz.f71 A_xref10_Hb = true:=by kernel_rfl
theorem c186:funB Tryz.prog num Tryz.f217 A_graph_first = true:=by kernel_rfl
theorem c187:funB Tryz.prog num Tryz.f218 A_graph_threads = true:=by kernel_rfl
theorem c188:funB Tryz.prog num Tryz.f219 A_graph_rf = true:=by kernel_rfl
theorem c189:funB Tryz.prog num Tryz.f220 A_graph_co = true:=by kernel_rfl
theorem c190:funB Tryz.prog num Tryz.f221 A_graph_rmw = true:=by kernel_rfl
theorem c191:funB Tryz.prog num Tryz.f222 A_graph_Check_1 = true:=by kernel_rfl
theorem c192:funB Tryz.prog num Tryz.f223 A_graph_list = true:=by kernel_rfl
theorem c193:funB Tryz.prog num Tryz.f85 A_order_all = true:=by kernel_rfl
theorem c194:funB Tryz.prog num Tryz.f178 A_order_Bob_1 = true:=by kernel_rfl
theorem c195:funB Tryz.prog num Tryz.f171 A_order_set = true:=by kernel_rfl
theorem c196:funB Tryz.prog num Tryz.f179 A_order_isRel = true:=by kernel_rfl
theorem c197:funB Tryz.prog num Tryz.f180 A_order_Bob_2 = true:=by kernel_rfl
theorem c198:funB Tryz.prog num Tryz.f181 A_order_isAcq = true:=by kernel_rfl
theorem c199:funB Tryz.prog num Tryz.f182 A_order_Bob_3 = true:=by kernel_rfl
theorem c200:funB Tryz.prog num Tryz.f183 A_order_isF = true:=by kernel_rfl
theorem c201:funB Tryz.prog num Tryz.f184 A_order_Bob_4 = true:=by kernel_rfl
theorem c202:funB Tryz.prog num Tryz.f185 A_order_Bob_5 = true:=by kernel_rfl
theorem c203:funB Tryz.prog num Tryz.f173 A_order_isW = true:=by kernel_rfl
theorem c204:funB Tryz.prog num Tryz.f86 A_order_Ar_1 = true:=by kernel_rfl
theorem c205:funB Tryz.prog num Tryz.f88 A_order_Ar_2 = true:=by kernel_rfl
theorem c206:funB Tryz.prog num Tryz.f89 A_order_Ar_3 = true:=by kernel_rfl
theorem c207:funB Tryz.prog num Tryz.f72 A_order_Ppo = true:=by kernel_rfl
theorem c208:funB Tryz.prog num Tryz.f90 A_order_Ar_4 = true:=by kernel_rfl
theorem c209:funB Tryz.prog num Tryz.f80 A_order_Detour = true:=by kernel_rfl
theorem c210:funB Tryz.prog num Tryz.f91 A_order_Ar_5 = true:=by kernel_rfl
theorem c211:funB Tryz.prog num Tryz.f82 A_order_Psc = true:=by kernel_rfl
theorem c213:funB Tryz.prog num Tryz.f74 A_order_Deps = true:=by kernel_rfl
theorem c214:funB Tryz.prog num Tryz.f119 A_imm_looked_coherent = true:=by kernel_rfl
theorem c215:funB Tryz.prog num Tryz.f120 A_imm_looked_atomic = true:=by kernel_rfl
theorem c216:funB Tryz.prog num Tryz.f121 A_imm_looked_ordered = true:=by kernel_rfl
theorem c217:funB Tryz.prog num Tryz.f104 A_imm_Ordered = true:=by kernel_rfl
theorem c218:funB Tryz.prog num Tryz.f105 A_xlaw12_loop = true:=by kernel_rfl
theorem c223:funB Tryz.prog num Tryz.f140 A_xref06_Of = true:=by kernel_rfl
theorem c225:funB Tryz.prog num Tryz.f151 A_xref06_Kind = true:=by kernel_rfl
theorem c229:funB Tryz.prog num Tryz.f236 A_sync_set_1 = true:=by kernel_rfl
theorem c230:funB Tryz.prog num Tryz.f160 A_xref10_W = true:=by kernel_rfl
theorem c231:funB Tryz.prog num Tryz.f163 A_xref01_R_Star = true:=by kernel_rfl
theorem c232:funB Tryz.prog num Tryz.f164 A_xref10_Wrel = true:=by kernel_rfl
theorem c233:funB Tryz.prog num Tryz.f165 A_xref10_Frel = true:=by kernel_rfl
theorem c234:funB Tryz.prog num Tryz.f168 A_xref10_Racq = true:=by kernel_rfl
theorem c235:funB Tryz.prog num Tryz.f169 A_xref10_Facq = true:=by kernel_rfl
theorem c236:funB Tryz.prog num Tryz.f269 A_graph_event = true:=by kernel_rfl
theorem c237:funB Tryz.prog num Tryz.f270 A_graph_write = true:=by kernel_rfl
theorem c238:funB Tryz.prog num Tryz.f271 A_graph_rmw_1 = true:=by kernel_rfl
theorem c239:funB Tryz.prog num Tryz.f272 A_graph_order = true:=by kernel_rfl
theorem c240:funB Tryz.prog num Tryz.f172 A_order_isR = true:=by kernel_rfl
theorem c241:funB Tryz.prog num Tryz.f188 A_order_isSc = true:=by kernel_rfl
theorem c242:funB Tryz.prog num Tryz.f174 A_order_Deps_1 = true:=by kernel_rfl
theorem c243:funB Tryz.prog num Tryz.f175 A_order_Deps_2 = true:=by kernel_rfl
theorem c244:funB Tryz.prog num Tryz.f176 A_order_Deps_3 = true:=by kernel_rfl
theorem c245:funB Tryz.prog num Tryz.f177 A_order_isEx = true:=by kernel_rfl
theorem c248:funB Tryz.prog num Tryz.f284 A_cmp_Compare_int = true:=by kernel_rfl
theorem c249:funB Tryz.prog num Tryz.f283 A_cmp_Or_int = true:=by kernel_rfl
theorem c253:funB Tryz.prog num Tryz.f36 A_xlaw12_all = true:=by kernel_rfl
theorem c255:funB Tryz.prog num Tryz.f77 A_xref11_Bob = true:=by kernel_rfl
theorem c256:funB Tryz.prog num Tryz.f78 A_xref11_Deps = true:=by kernel_rfl
theorem c257:funB Tryz.prog num Tryz.f79 A_xref11_Ppo = true:=by kernel_rfl
theorem c258:funB Tryz.prog num Tryz.f81 A_xref11_Detour = true:=by kernel_rfl
theorem c259:funB Tryz.prog num Tryz.f83 A_xref11_Psc = true:=by kernel_rfl
theorem c260:funB Tryz.prog num Tryz.f84 A_xref11_Ar = true:=by kernel_rfl
theorem c261:funB Tryz.prog num Tryz.f113 A_xref12_Coherent = true:=by kernel_rfl
theorem c262:funB Tryz.prog num Tryz.f114 A_xref12_Atomic = true:=by kernel_rfl
theorem c263:funB Tryz.prog num Tryz.f115 A_xref12_Ordered = true:=by kernel_rfl
theorem c264:funB Tryz.prog num Tryz.f116 A_xref12_Consistent = true:=by kernel_rfl
theorem c265:funB Tryz.prog num Tryz.f206 A_xref01_R_Self = true:=by kernel_rfl
theorem c266:funB Tryz.prog num Tryz.f289 A_cmp_isNaN_int = true:=by kernel_rfl
theorem c474:funB Tryz.prog num Tryz.f9 A_xlaw12_ImmNumbers = true:=by kernel_rfl
def Good (r:Nat × Nat × AFun):Prop:=num r.1 = r.2.1∧∃ fn,Tryz.prog.funcs[r.2.1]? = some fn∧funB Tryz.prog num fn r.2.2 = true
theorem good:∀ r∈tab,Good r:=by
 intro r hr
 unfold tab at hr
 rcases List.mem_cons.1 hr with rfl | hr
 ·exact ⟨by kernel_rfl,_,Tryz.func27,c10⟩
 rcases List.mem_cons.1 hr with rfl | hr
 ·exact ⟨by kernel_rfl,_,Tryz.func51,c11⟩
 rcases List.mem_cons.1 hr with rfl | hr
 ·exact ⟨by kernel_rfl,_,Tryz.func159,c12⟩
 rcases List.mem_cons.1 hr with rfl | hr
 ·exact ⟨by kernel_rfl,_,Tryz.func42,c13⟩
 rcases List.mem_cons.1 hr with rfl | hr
 ·exact ⟨by kernel_rfl,_,Tryz.func224,c14⟩
 rcases List.mem_cons.1 hr with rfl | hr
 ·exact ⟨by kernel_rfl,_,Tryz.func15,c15⟩
 rcases List.mem_cons.1 hr with rfl | hr
 ·exact ⟨by kernel_rfl,_,Tryz.func157,c16⟩
 rcases List.mem_cons.1 hr with rfl | hr
 ·exact ⟨by kernel_rfl,_,Tryz.func148,c17⟩
 rcases List.mem_cons.1 hr with rfl | hr
 ·exact ⟨by kernel_rfl,_,Tryz.func186,c18⟩
 rcases List.mem_cons.1 hr with rfl | hr
 ·exact ⟨by kernel_rfl,_,Tryz.func17,c23⟩
 rcases List.mem_cons.1 hr with rfl | hr
 ·exact ⟨by kernel_rfl,_,Tryz.func55,c24⟩
 rcases List.mem_cons.1 hr with rfl | hr
 ·exact ⟨by kernel_rfl,_,Tryz.func144,c27⟩
 rcases List.mem_cons.1 hr with rfl | hr
 ·exact ⟨by kernel_rfl,_,Tryz.func145,c29⟩
 rcases List.mem_cons.1 hr with rfl | hr
 ·exact ⟨by kernel_rfl,_,Tryz.func152,c30⟩
 rcases List.mem_cons.1 hr with rfl | hr
 ·exact ⟨by kernel_rfl,_,Tryz.func141,c32⟩
 rcases List.mem_cons.1 hr with rfl | hr
 ·exact ⟨by kernel_rfl,_,Tryz.func252,c33⟩
 rcases List.mem_cons.1 hr with rfl | hr
 ·exact ⟨by kernel_rfl,_,Tryz.func170,c34⟩
 rcases List.mem_cons.1 hr with rfl | hr
 ·exact ⟨by kernel_rfl,_,Tryz.func162,c35⟩
 rcases List.mem_cons.1 hr with rfl | hr
 ·exact ⟨by kernel_rfl,_,Tryz.func204,c37⟩
 rcases List.mem_cons.1 hr with rfl | hr
 ·exact ⟨by kernel_rfl,_,Tryz.func49,c39⟩
 rcases List.mem_cons.1 hr with rfl | hr
 ·exact ⟨by kernel_rfl,_,Tryz.func87,c40⟩
 rcases List.mem_cons.1 hr with rfl | hr
 ·exact ⟨by kernel_rfl,_,Tryz.func135,c41⟩
 rcases List.mem_cons.1 hr with rfl | hr
 ·exact ⟨by kernel_rfl,_,Tryz.func189,c42⟩
 rcases List.mem_cons.1 hr with rfl | hr
 ·exact ⟨by kernel_rfl,_,Tryz.func203,c45⟩
 rcases List.mem_cons.1 hr with rfl | hr
 ·exact ⟨by kernel_rfl,_,Tryz.func50,c48⟩
 rcases List.mem_cons.1 hr with rfl | hr
 ·exact ⟨by kernel_rfl,_,Tryz.func130,c49⟩
 rcases List.mem_cons.1 hr with rfl | hr
 ·exact ⟨by kernel_rfl,_,Tryz.func129,c50⟩
 rcases List.mem_cons.1 hr with rfl | hr
 ·exact ⟨by kernel_rfl,_,Tryz.func136,c51⟩
 rcases List.mem_cons.1 hr with rfl | hr
 ·exact ⟨by kernel_rfl,_,Tryz.func237,c52⟩
 rcases List.mem_cons.1 hr with rfl | hr
 ·exact ⟨by kernel_rfl,_,Tryz.func137,c53⟩
 rcases List.mem_cons.1 hr with rfl | hr
 ·exact ⟨by kernel_rfl,_,Tryz.func149,c55⟩
 rcases List.mem_cons.1 hr with rfl | hr
 ·exact ⟨by kernel_rfl,_,Tryz.func150,c56⟩
 rcases List.mem_cons.1 hr with rfl | hr
 ·exact ⟨by kernel_rfl,_,Tryz.func131,c57⟩
 rcases List.mem_cons.1 hr with rfl | hr
 ·exact ⟨by kernel_rfl,_,Tryz.func132,c58⟩
 rcases List.mem_cons.1 hr with rfl | hr
 ·exact ⟨by kernel_rfl,_,Tryz.func191,c59⟩
 rcases List.mem_cons.1 hr with rfl | hr
 ·exact ⟨by kernel_rfl,_,Tryz.func18,c60⟩
 rcases List.mem_cons.1 hr with rfl | hr
 ·exact ⟨by kernel_rfl,_,Tryz.func233,c61⟩
 rcases List.mem_cons.1 hr with rfl | hr
 ·exact ⟨by kernel_rfl,_,Tryz.func247,c63⟩
 rcases List.mem_cons.1 hr with rfl | hr
 ·exact ⟨by kernel_rfl,_,Tryz.func248,c64⟩
 rcases List.mem_cons.1 hr with rfl | hr
 ·exact ⟨by kernel_rfl,_,Tryz.func249,c65⟩
 rcases List.mem_cons.1 hr with rfl | hr
 ·exact ⟨by kernel_rfl,_,Tryz.func250,c66⟩
 rcases List.mem_cons.1 hr with rfl | hr
 ·exact ⟨by kernel_rfl,_,Tryz.func251,c67⟩
 rcases List.mem_cons.1 hr with rfl | hr
 ·exact ⟨by kernel_rfl,_,Tryz.func143,c69⟩
 rcases List.mem_cons.1 hr with rfl | hr
 ·exact ⟨by kernel_rfl,_,Tryz.func187,c70⟩
 rcases List.mem_cons.1 hr with rfl | hr
 ·exact ⟨by kernel_rfl,_,Tryz.func205,c71⟩
 rcases List.mem_cons.1 hr with rfl | hr
 ·exact ⟨by kernel_rfl,_,Tryz.func190,c72⟩
 rcases List.mem_cons.1 hr with rfl | hr
 ·exact ⟨by kernel_rfl,_,Tryz.func161,c73⟩
 rcases List.mem_cons.1 hr with rfl | hr
 ·exact ⟨by kernel_rfl,_,Tryz.func142,c74⟩
 rcases List.mem_cons.1 hr with rfl | hr
 ·exact ⟨by kernel_rfl,_,Tryz.func167,c75⟩
 rcases List.mem_cons.1 hr with rfl | hr
 ·exact ⟨by kernel_rfl,_,Tryz.func31,c76⟩
 rcases List.mem_cons.1 hr with rfl | hr
 ·exact ⟨by kernel_rfl,_,Tryz.func32,c77⟩
 rcases List.mem_cons.1 hr with rfl | hr
 ·exact ⟨by kernel_rfl,_,Tryz.func34,c78⟩
 rcases List.mem_cons.1 hr with rfl | hr
 ·exact ⟨by kernel_rfl,_,Tryz.func35,c79⟩
 rcases List.mem_cons.1 hr with rfl | hr
 ·exact ⟨by kernel_rfl,_,Tryz.func133,c80⟩
 rcases List.mem_cons.1 hr with rfl | hr
 ·exact ⟨by kernel_rfl,_,Tryz.func47,c81⟩
 rcases List.mem_cons.1 hr with rfl | hr
 ·exact ⟨by kernel_rfl,_,Tryz.func276,c82⟩
 rcases List.mem_cons.1 hr with rfl | hr
 ·exact ⟨by kernel_rfl,_,Tryz.func202,c83⟩
 rcases List.mem_cons.1 hr with rfl | hr
 ·exact ⟨by kernel_rfl,_,Tryz.func166,c84⟩
 rcases List.mem_cons.1 hr with rfl | hr
 ·exact ⟨by kernel_rfl,_,Tryz.func234,c85⟩
 rcases List.mem_cons.1 hr with rfl | hr
 ·exact ⟨by kernel_rfl,_,Tryz.func37,c86⟩
 rcases List.mem_cons.1 hr with rfl | hr
 ·exact ⟨by kernel_rfl,_,Tryz.func108,c87⟩
 rcases List.mem_cons.1 hr with rfl | hr
 ·exact ⟨by kernel_rfl,_,Tryz.func109,c88⟩
 rcases List.mem_cons.1 hr with rfl | hr
 ·exact ⟨by kernel_rfl,_,Tryz.func110,c89⟩
 rcases List.mem_cons.1 hr with rfl | hr
 ·exact ⟨by kernel_rfl,_,Tryz.func111,c90⟩
 rcases List.mem_cons.1 hr with rfl | hr
 ·exact ⟨by kernel_rfl,_,Tryz.func112,c91⟩
 rcases List.mem_cons.1 hr with rfl | hr
 ·exact ⟨by kernel_rfl,_,Tryz.func228,c92⟩
 rcases List.mem_cons.1 hr with rfl | hr
 ·exact ⟨by kernel_rfl,_,Tryz.func229,c93⟩
 rcases List.mem_cons.1 hr with rfl | hr
 ·exact ⟨by kernel_rfl,_,Tryz.func230,c94⟩
 rcases List.mem_cons.1 hr with rfl | hr
 ·exact ⟨by kernel_rfl,_,Tryz.func231,c95⟩
 rcases List.mem_cons.1 hr with rfl | hr
 ·exact ⟨by kernel_rfl,_,Tryz.func232,c96⟩
 rcases List.mem_cons.1 hr with rfl | hr
 ·exact ⟨by kernel_rfl,_,Tryz.func117,c97⟩
 rcases List.mem_cons.1 hr with rfl | hr
 ·exact ⟨by kernel_rfl,_,Tryz.func207,c98⟩
 rcases List.mem_cons.1 hr with rfl | hr
 ·exact ⟨by kernel_rfl,_,Tryz.func208,c99⟩
 rcases List.mem_cons.1 hr with rfl | hr
 ·exact ⟨by kernel_rfl,_,Tryz.func209,c100⟩
 rcases List.mem_cons.1 hr with rfl | hr
 ·exact ⟨by kernel_rfl,_,Tryz.func210,c101⟩
 rcases List.mem_cons.1 hr with rfl | hr
 ·exact ⟨by kernel_rfl,_,Tryz.func126,c102⟩
 rcases List.mem_cons.1 hr with rfl | hr
 ·exact ⟨by kernel_rfl,_,Tryz.func211,c103⟩
 rcases List.mem_cons.1 hr with rfl | hr
 ·exact ⟨by kernel_rfl,_,Tryz.func212,c104⟩
 rcases List.mem_cons.1 hr with rfl | hr
 ·exact ⟨by kernel_rfl,_,Tryz.func213,c105⟩
 rcases List.mem_cons.1 hr with rfl | hr
 ·exact ⟨by kernel_rfl,_,Tryz.func214,c106⟩
 rcases List.mem_cons.1 hr with rfl | hr
 ·exact ⟨by kernel_rfl,_,Tryz.func215,c107⟩
 rcases List.mem_cons.1 hr with rfl | hr
 ·exact ⟨by kernel_rfl,_,Tryz.func216,c108⟩
 rcases List.mem_cons.1 hr with rfl | hr
 ·exact ⟨by kernel_rfl,_,Tryz.func253,c109⟩
 rcases List.mem_cons.1 hr with rfl | hr
 ·exact ⟨by kernel_rfl,_,Tryz.func254,c110⟩
 rcases List.mem_cons.1 hr with rfl | hr
 ·exact ⟨by kernel_rfl,_,Tryz.func255,c111⟩
 rcases List.mem_cons.1 hr with rfl | hr
 ·exact ⟨by kernel_rfl,_,Tryz.func256,c112⟩
 rcases List.mem_cons.1 hr with rfl | hr
 ·exact ⟨by kernel_rfl,_,Tryz.func257,c113⟩
 rcases List.mem_cons.1 hr with rfl | hr
 ·exact ⟨by kernel_rfl,_,Tryz.func258,c114⟩
 rcases List.mem_cons.1 hr with rfl | hr
 ·exact ⟨by kernel_rfl,_,Tryz.func259,c115⟩
 rcases List.mem_cons.1 hr with rfl | hr
 ·exact ⟨by kernel_rfl,_,Tryz.func260,c116⟩
 rcases List.mem_cons.1 hr with rfl | hr
 ·exact ⟨by kernel_rfl,_,Tryz.func261,c117⟩
 rcases List.mem_cons.1 hr with rfl | hr
 ·exact ⟨by kernel_rfl,_,Tryz.func262,c118⟩
 rcases List.mem_cons.1 hr with rfl | hr
 ·exact ⟨by kernel_rfl,_,Tryz.func263,c119⟩
 rcases List.mem_cons.1 hr with rfl | hr
 ·exact ⟨by kernel_rfl,_,Tryz.func264,c120⟩
 rcases List.mem_cons.1 hr with rfl | hr
 ·exact ⟨by kernel_rfl,_,Tryz.func265,c121⟩
 rcases List.mem_cons.1 hr with rfl | hr
 ·exact ⟨by kernel_rfl,_,Tryz.func266,c122⟩
 rcases List.mem_cons.1 hr with rfl | hr
 ·exact ⟨by kernel_rfl,_,Tryz.func267,c123⟩
 rcases List.mem_cons.1 hr with rfl | hr
 ·exact ⟨by kernel_rfl,_,Tryz.func268,c124⟩
 rcases List.mem_cons.1 hr with rfl | hr
 ·exact ⟨by kernel_rfl,_,Tryz.func277,c125⟩
 rcases List.mem_cons.1 hr with rfl | hr
 ·exact ⟨by kernel_rfl,_,Tryz.func278,c126⟩
 rcases List.mem_cons.1 hr with rfl | hr
 ·exact ⟨by kernel_rfl,_,Tryz.func279,c127⟩
 rcases List.mem_cons.1 hr with rfl | hr
 ·exact ⟨by kernel_rfl,_,Tryz.func280,c128⟩
 rcases List.mem_cons.1 hr with rfl | hr
 ·exact ⟨by kernel_rfl,_,Tryz.func274,c129⟩
 rcases List.mem_cons.1 hr with rfl | hr
 ·exact ⟨by kernel_rfl,_,Tryz.func281,c130⟩
 rcases List.mem_cons.1 hr with rfl | hr
 ·exact ⟨by kernel_rfl,_,Tryz.func282,c131⟩
 rcases List.mem_cons.1 hr with rfl | hr
 ·exact ⟨by kernel_rfl,_,Tryz.func288,c132⟩
 rcases List.mem_cons.1 hr with rfl | hr
 ·exact ⟨by kernel_rfl,_,Tryz.func64,c148⟩
 rcases List.mem_cons.1 hr with rfl | hr
 ·exact ⟨by kernel_rfl,_,Tryz.func65,c149⟩
 rcases List.mem_cons.1 hr with rfl | hr
 ·exact ⟨by kernel_rfl,_,Tryz.func118,c152⟩
 rcases List.mem_cons.1 hr with rfl | hr
 ·exact ⟨by kernel_rfl,_,Tryz.func76,c155⟩
 rcases List.mem_cons.1 hr with rfl | hr
 ·exact ⟨by kernel_rfl,_,Tryz.func26,c156⟩
 rcases List.mem_cons.1 hr with rfl | hr
 ·exact ⟨by kernel_rfl,_,Tryz.func38,c161⟩
 rcases List.mem_cons.1 hr with rfl | hr
 ·exact ⟨by kernel_rfl,_,Tryz.func107,c162⟩
 rcases List.mem_cons.1 hr with rfl | hr
 ·exact ⟨by kernel_rfl,_,Tryz.func33,c163⟩
 rcases List.mem_cons.1 hr with rfl | hr
 ·exact ⟨by kernel_rfl,_,Tryz.func106,c164⟩
 rcases List.mem_cons.1 hr with rfl | hr
 ·exact ⟨by kernel_rfl,_,Tryz.func45,c166⟩
 rcases List.mem_cons.1 hr with rfl | hr
 ·exact ⟨by kernel_rfl,_,Tryz.func63,c176⟩
 rcases List.mem_cons.1 hr with rfl | hr
 ·exact ⟨by kernel_rfl,_,Tryz.func156,c177⟩
 rcases List.mem_cons.1 hr with rfl | hr
 ·exact ⟨by kernel_rfl,_,Tryz.func158,c178⟩
 rcases List.mem_cons.1 hr with rfl | hr
 ·exact ⟨by kernel_rfl,_,Tryz.func66,c179⟩
 rcases List.mem_cons.1 hr with rfl | hr
 ·exact ⟨by kernel_rfl,_,Tryz.func68,c182⟩
 rcases List.mem_cons.1 hr with rfl | hr
 ·exact ⟨by kernel_rfl,_,Tryz.func69,c183⟩
 rcases List.mem_cons.1 hr with rfl | hr
 ·exact ⟨by kernel_rfl,_,Tryz.func70,c184⟩
 rcases List.mem_cons.1 hr with rfl | hr
 ·exact ⟨by kernel_rfl,_,Tryz.func71,c185⟩
 rcases List.mem_cons.1 hr with rfl | hr
 ·exact ⟨by kernel_rfl,_,Tryz.func217,c186⟩
 rcases List.mem_cons.1 hr with rfl | hr
 ·exact ⟨by kernel_rfl,_,Tryz.func218,c187⟩
 rcases List.mem_cons.1 hr with rfl | hr
 ·exact ⟨by kernel_rfl,_,Tryz.func219,c188⟩
 rcases List.mem_cons.1 hr with rfl | hr
 ·exact ⟨by kernel_rfl,_,Tryz.func220,c189⟩
 rcases List.mem_cons.1 hr with rfl | hr
 ·exact ⟨by kernel_rfl,_,Tryz.func221,c190⟩
 rcases List.mem_cons.1 hr with rfl | hr
 ·exact ⟨by kernel_rfl,_,Tryz.func222,c191⟩
 rcases List.mem_cons.1 hr with rfl | hr
 ·exact ⟨by kernel_rfl,_,Tryz.func223,c192⟩
 rcases List.mem_cons.1 hr with rfl | hr
 ·exact ⟨by kernel_rfl,_,Tryz.func85,c193⟩
 rcases List.mem_cons.1 hr with rfl | hr
 ·exact ⟨by kernel_rfl,_,Tryz.func178,c194⟩
 rcases List.mem_cons.1 hr with rfl | hr
 ·exact ⟨by kernel_rfl,_,Tryz.func171,c195⟩
 rcases List.mem_cons.1 hr with rfl | hr
 ·exact ⟨by kernel_rfl,_,Tryz.func179,c196⟩
 rcases List.mem_cons.1 hr with rfl | hr
 ·exact ⟨by kernel_rfl,_,Tryz.func180,c197⟩
 rcases List.mem_cons.1 hr with rfl | hr
 ·exact ⟨by kernel_rfl,_,Tryz.func181,c198⟩
 rcases List.mem_cons.1 hr with rfl | hr
 ·exact ⟨by kernel_rfl,_,Tryz.func182,c199⟩
 rcases List.mem_cons.1 hr with rfl | hr
 ·exact ⟨by kernel_rfl,_,Tryz.func183,c200⟩
 rcases List.mem_cons.1 hr with rfl | hr
 ·exact ⟨by kernel_rfl,_,Tryz.func184,c201⟩
 rcases List.mem_cons.1 hr with rfl | hr
 ·exact ⟨by kernel_rfl,_,Tryz.func185,c202⟩
 rcases List.mem_cons.1 hr with rfl | hr
 ·exact ⟨by kernel_rfl,_,Tryz.func173,c203⟩
 rcases List.mem_cons.1 hr with rfl | hr
 ·exact ⟨by kernel_rfl,_,Tryz.func86,c204⟩
 rcases List.mem_cons.1 hr with rfl | hr
 ·exact ⟨by kernel_rfl,_,Tryz.func88,c205⟩
 rcases List.mem_cons.1 hr with rfl | hr
 ·exact ⟨by kernel_rfl,_,Tryz.func89,c206⟩
 rcases List.mem_cons.1 hr with rfl | hr
 ·exact ⟨by kernel_rfl,_,Tryz.func72,c207⟩
 rcases List.mem_cons.1 hr with rfl | hr
 ·exact ⟨by kernel_rfl,_,Tryz.func90,c208⟩
 rcases List.mem_cons.1 hr with rfl | hr
 ·exact ⟨by kernel_rfl,_,Tryz.func80,c209⟩
 rcases List.mem_cons.1 hr with rfl | hr
 ·exact ⟨by kernel_rfl,_,Tryz.func91,c210⟩
 rcases List.mem_cons.1 hr with rfl | hr
 ·exact ⟨by kernel_rfl,_,Tryz.func82,c211⟩
 rcases List.mem_cons.1 hr with rfl | hr
 ·exact ⟨by kernel_rfl,_,Tryz.func74,c213⟩
 rcases List.mem_cons.1 hr with rfl | hr
 ·exact ⟨by kernel_rfl,_,Tryz.func119,c214⟩
 rcases List.mem_cons.1 hr with rfl | hr
 ·exact ⟨by kernel_rfl,_,Tryz.func120,c215⟩
 rcases List.mem_cons.1 hr with rfl | hr
 ·exact ⟨by kernel_rfl,_,Tryz.func121,c216⟩
 rcases List.mem_cons.1 hr with rfl | hr
 ·exact ⟨by kernel_rfl,_,Tryz.func104,c217⟩
 rcases List.mem_cons.1 hr with rfl | hr
 ·exact ⟨by kernel_rfl,_,Tryz.func105,c218⟩
 rcases List.mem_cons.1 hr with rfl | hr
 ·exact ⟨by kernel_rfl,_,Tryz.func140,c223⟩
 rcases List.mem_cons.1 hr with rfl | hr
 ·exact ⟨by kernel_rfl,_,Tryz.func151,c225⟩
 rcases List.mem_cons.1 hr with rfl | hr
 ·exact ⟨by kernel_rfl,_,Tryz.func236,c229⟩
 rcases List.mem_cons.1 hr with rfl | hr
 ·exact ⟨by kernel_rfl,_,Tryz.func160,c230⟩
 rcases List.mem_cons.1 hr with rfl | hr
 ·exact ⟨by kernel_rfl,_,Tryz.func163,c231⟩
 rcases List.mem_cons.1 hr with rfl | hr
 ·exact ⟨by kernel_rfl,_,Tryz.func164,c232⟩
 rcases List.mem_cons.1 hr with rfl | hr
 ·exact ⟨by kernel_rfl,_,Tryz.func165,c233⟩
 rcases List.mem_cons.1 hr with rfl | hr
 ·exact ⟨by kernel_rfl,_,Tryz.func168,c234⟩
 rcases List.mem_cons.1 hr with rfl | hr
 ·exact ⟨by kernel_rfl,_,Tryz.func169,c235⟩
 rcases List.mem_cons.1 hr with rfl | hr
 ·exact ⟨by kernel_rfl,_,Tryz.func269,c236⟩
 rcases List.mem_cons.1 hr with rfl | hr
 ·exact ⟨by kernel_rfl,_,Tryz.func270,c237⟩
 rcases List.mem_cons.1 hr with rfl | hr
 ·exact ⟨by kernel_rfl,_,Tryz.func271,c238⟩
 rcases List.mem_cons.1 hr with rfl | hr
 ·exact ⟨by kernel_rfl,_,Tryz.func272,c239⟩
 rcases List.mem_cons.1 hr with rfl | hr
 ·exact ⟨by kernel_rfl,_,Tryz.func172,c240⟩
 rcases List.mem_cons.1 hr with rfl | hr
 ·exact ⟨by kernel_rfl,_,Tryz.func188,c241⟩
 rcases List.mem_cons.1 hr with rfl | hr
 ·exact ⟨by kernel_rfl,_,Tryz.func174,c242⟩
 rcases List.mem_cons.1 hr with rfl | hr
 ·exact ⟨by kernel_rfl,_,Tryz.func175,c243⟩
 rcases List.mem_cons.1 hr with rfl | hr
 ·exact ⟨by kernel_rfl,_,Tryz.func176,c244⟩
 rcases List.mem_cons.1 hr with rfl | hr
 ·exact ⟨by kernel_rfl,_,Tryz.func177,c245⟩
 rcases List.mem_cons.1 hr with rfl | hr
 ·exact ⟨by kernel_rfl,_,Tryz.func284,c248⟩
 rcases List.mem_cons.1 hr with rfl | hr
 ·exact ⟨by kernel_rfl,_,Tryz.func283,c249⟩
 rcases List.mem_cons.1 hr with rfl | hr
 ·exact ⟨by kernel_rfl,_,Tryz.func36,c253⟩
 rcases List.mem_cons.1 hr with rfl | hr
 ·exact ⟨by kernel_rfl,_,Tryz.func77,c255⟩
 rcases List.mem_cons.1 hr with rfl | hr
 ·exact ⟨by kernel_rfl,_,Tryz.func78,c256⟩
 rcases List.mem_cons.1 hr with rfl | hr
 ·exact ⟨by kernel_rfl,_,Tryz.func79,c257⟩
 rcases List.mem_cons.1 hr with rfl | hr
 ·exact ⟨by kernel_rfl,_,Tryz.func81,c258⟩
 rcases List.mem_cons.1 hr with rfl | hr
 ·exact ⟨by kernel_rfl,_,Tryz.func83,c259⟩
 rcases List.mem_cons.1 hr with rfl | hr
 ·exact ⟨by kernel_rfl,_,Tryz.func84,c260⟩
 rcases List.mem_cons.1 hr with rfl | hr
 ·exact ⟨by kernel_rfl,_,Tryz.func113,c261⟩
 rcases List.mem_cons.1 hr with rfl | hr
 ·exact ⟨by kernel_rfl,_,Tryz.func114,c262⟩
 rcases List.mem_cons.1 hr with rfl | hr
 ·exact ⟨by kernel_rfl,_,Tryz.func115,c263⟩
 rcases List.mem_cons.1 hr with rfl | hr
 ·exact ⟨by kernel_rfl,_,Tryz.func116,c264⟩
 rcases List.mem_cons.1 hr with rfl | hr
 ·exact ⟨by kernel_rfl,_,Tryz.func206,c265⟩
 rcases List.mem_cons.1 hr with rfl | hr
 ·exact ⟨by kernel_rfl,_,Tryz.func289,c266⟩
 rcases List.mem_cons.1 hr with rfl | hr
 ·exact ⟨by kernel_rfl,_,Tryz.func9,c474⟩
 cases hr
theorem table:Table Tryz.prog num funs:=by
 intro f A h
 unfold funs at h
 cases hf:tab.find? (fun r => r.1 == f) with
 | none => rw[hf] at h;cases h
 | some r =>
   rw[hf] at h;cases h
   have h1:=List.find?_some hf
   simp only[beq_iff_eq] at h1
   subst h1
   obtain ⟨h2,h3⟩:=good r (List.mem_of_find?_eq_some hf)
   rw[h2];exact h3
theorem pk_eco:Pk_eco funs:=⟨rfl,rfl,rfl,rfl,rfl,rfl,rfl,rfl,rfl,rfl,rfl,rfl,rfl,rfl,rfl,rfl,rfl⟩
theorem pk_xref01:Pk_xref01 funs:=⟨rfl,rfl,rfl,rfl,rfl,rfl,rfl,rfl,rfl⟩
theorem pk_xref06:Pk_xref06 funs:=⟨rfl,rfl,rfl,rfl,rfl,rfl,rfl,rfl⟩
theorem pk_xref09:Pk_xref09 funs:=⟨rfl,rfl,rfl,rfl,rfl,rfl,rfl⟩
theorem pk_xref10:Pk_xref10 funs:=⟨rfl,rfl,rfl,rfl,rfl,rfl,rfl,rfl,rfl⟩
theorem pk_xref11:Pk_xref11 funs:=⟨rfl,rfl,rfl,rfl,rfl,rfl⟩
theorem pk_xref12:Pk_xref12 funs:=⟨rfl,rfl,rfl,rfl⟩
theorem pk_imm:Pk_imm funs:=⟨rfl,rfl,rfl,rfl,rfl,rfl,rfl⟩
theorem pk_order:Pk_order funs:=⟨rfl,rfl,rfl,rfl,rfl,rfl,rfl,rfl,rfl,rfl,rfl,rfl,rfl,rfl,rfl,rfl,rfl,rfl,rfl,rfl,rfl,rfl,rfl,rfl,rfl,rfl,rfl,rfl⟩
theorem pk_rel:Pk_rel funs:=⟨rfl,rfl,rfl,rfl,rfl,rfl,rfl,rfl,rfl,rfl,rfl,rfl,rfl⟩
theorem pk_sync:Pk_sync funs:=⟨rfl,rfl,rfl,rfl,rfl,rfl,rfl⟩
end Go.Proofs.YthafjhelijmpcaaGreat
end
section
set_option linter.unusedVariables false
set_option linter.unusedSimpArgs false
namespace Go.Ab
open Go.RowKit
def ShR (S:List AV→Prop) (n:Nat) (asx:List AV):Prop:=∃ rows:List (List AV),rows.length = n∧asx = rows.flatten∧∀ r∈rows,S r
def ShL (S:TypeId→List AV→Prop):List TypeId→List AV→Prop
 | [],asx => asx = []
 | t :: ts,asx => ∃ a b,asx = a ++ b∧S t a∧ShL S ts b
def Sh (P:Program):Nat→TypeId→List AV→Prop
 | 0,_,_ => False
 | m + 1,t,asx => match P.underlying t with
   | some .bool => ∃ b,asx = [.b b]
   | some (.int k) => ∃ n,asx = [.i k n]∧(Lit.int k n).wf = true
   | some .string => ∃ s,asx = [.s s]∧s.size≤maxLen
   | some (.slice e) => ∃ cs n,asx = [.sl cs n .non]∧n≤maxLen∧ShR (Sh P m e) n cs
   | some (.pointer e) => asx = [.nilp]∨∃ cs,asx = [.ptr cs]∧Sh P m e cs
   | some (.struct fs) => ShL (Sh P m) (fs.toList.map (·.type)) asx
   | some (.array n e) => ShR (Sh P m e) n asx
   | _ => False
def fieldsOk (P:Program):Nat→List Field→Nat→Bool
 | o,[],n => o == n
 | o,f :: fs,n => (f.offset == o) && fieldsOk P (o + P.cellsOf f.type) fs n
def plainB (P:Program):Nat→TypeId→Bool
 | 0,_ => false
 | m + 1,t => match P.underlying t with
   | some .bool | some (.int _) | some .string => true
   | some (.slice e) => plainB P m e
   | some (.pointer e) => plainB P m e
   | some (.struct fs) => fieldsOk P 0 fs.toList (P.cellsOf t) && fs.toList.all (fun f => plainB P m f.type)
   | some (.array n e) => (P.cellsOf t == n * P.cellsOf e) && plainB P m e
   | _ => false
section
variable {H:Type} {enc:TypeId × Value→H} {P:Program} {c:Cx}
theorem add_add' (a:Addr) (m n:Nat):(a.add m).add n = a.add (m + n):=by
 unfold Addr.add
 by_cases hm:m = 0<;>by_cases hn:n = 0<;>simp[hm,hn,Nat.add_assoc]
theorem I_cell (hb:c.base = c.w.heap.size) (hJ:c.J = fun _ => True) {a:Addr} {v:Value} (h:c.w.cell? a = some v):c.I a:=.inl ⟨by rw[hb];exact block_lt_of_cell h,by rw[hJ];trivial⟩
theorem read_rows {S:List AV→Prop} {sz:Nat} {a:Addr} {n:Nat}
  (h:∀ i,i < n→∃ row rs,c.w.cells? 0 (a.add (i * sz)) sz = some row∧S rs∧Reps c false rs row∧∀ v∈row,v.oneCell' = true):
  ∃ cs vs,ShR S n cs∧Reps c false cs vs∧vs.length = n * sz∧(∀ v∈vs,v.oneCell' = true)∧∀ j,j < n * sz→c.w.cell? (a.add j) = vs[j]?:=by
 induction n with
 | zero => exact ⟨[],[],⟨[],rfl,rfl,fun _ h => by cases h⟩,Reps.nil,by simp,(fun v (h:v∈([]:List Value)) => by cases h),fun j hj => by omega⟩
 | succ n ih =>
   obtain ⟨cs,vs,⟨rows,hl,rfl,hS⟩,hR,hlen,h1,hcell⟩:=ih fun i hi => h i (by omega)
   obtain ⟨row,rs,hc,hSr,hRr,h1r⟩:=h n (by omega)
   obtain ⟨_,hrl,hrc⟩:=World.cells?_some hc
   refine ⟨_,vs ++ row,⟨rows ++ [rs],by simp[hl],rfl,?_⟩,?_,?_,?_,?_⟩
   ·intro r hr
    rcases List.mem_append.1 hr with hr | hr
    ·exact hS r hr
    ·rw[List.mem_singleton.1 hr];exact hSr
   ·simp only[List.flatten_append,List.flatten_cons,List.flatten_nil,List.append_nil]
    exact hR.append hRr
   ·rw[List.length_append,hlen,hrl,Nat.succ_mul]
   ·intro v hv
    rcases List.mem_append.1 hv with hv | hv
    ·exact h1 v hv
    ·exact h1r v hv
   ·intro j hj
    rw[Nat.succ_mul] at hj
    by_cases hjn:j < n * sz
    ·rw[List.getElem?_append_left (by omega)];exact hcell j hjn
    ·rw[List.getElem?_append_right (by omega),hlen,←hrc (j - n * sz) (by omega),add_add']
     rw[show n * sz + (j - n * sz) = j by omega]
theorem read_cells (hb:c.base = c.w.heap.size) (hJ:c.J = fun _ => True):∀ (m:Nat) {t:TypeId} {fuel:Nat} {cs:List Value} {x:DataW H × List MemPlace},
  plainB P m t = true→DataW.trod enc P c.w 0 (fun _ => true) true fuel t cs = some x→∃ asx,Sh P m t asx∧Reps c false asx cs∧∀ v∈cs,v.oneCell' = true
 | 0,_,_,_,_,h,_ => by simp[plainB] at h
 | m + 1,t,fuel,cs,x,hp,h => by
   have one:∀ {y:AV} {v:Value},Rep c false y v→v.oneCell' = true→Reps c false [y] [v]∧∀ u∈[v],u.oneCell' = true:=fun hr h1 =>
    ⟨Reps.cons hr Reps.nil,fun u hu => by rw[List.mem_singleton.1 hu];exact h1⟩
   simp only[plainB] at hp
   cases ht:P.underlying t with
   | none => rw[ht] at hp;cases hp
   | some d =>
     rw[ht] at hp
     cases d with
     | bool =>
       obtain ⟨b,rfl,_⟩:=DataW.trod_bool ht h
       exact ⟨[.b b],by simp only[Sh,ht];exact ⟨b,rfl⟩,one (.b b) rfl⟩
     | int k =>
       obtain ⟨n,rfl,_,hw⟩:=DataW.trod_int ht h
       exact ⟨[.i k n],by simp only[Sh,ht];exact ⟨n,rfl,hw⟩,one (.i k n) rfl⟩
     | string =>
       obtain ⟨s,rfl,_,hs⟩:=DataW.trod_string ht h
       exact ⟨[.s s],by simp only[Sh,ht];exact ⟨s,rfl,hs⟩,one (.s s) rfl⟩
     | slice e =>
       rcases DataW.trod_slice ht h with ⟨rfl,_⟩ | ⟨a,len,cap,elems,rest,n,rfl,rfl,_,_,hl,hm,hel,hget,_,_⟩
       ·refine ⟨[.sl [] 0 .non],by simp only[Sh,ht];exact ⟨[],0,rfl,Nat.zero_le _,[],rfl,rfl,fun _ h => by cases h⟩,one ?_ rfl⟩
        exact .sl ⟨0,0,none⟩ [] (Nat.le_refl _) (Nat.zero_le _) (fun h => by cases h) (fun _ _ _ h => by cases h) (fun h => by omega) (fun _ h => by cases h) rfl (fun h => absurd rfl h) (fun j v h => by simp at h) (fun j x v h => by simp at h) (fun _ _ h => by cases h)
       ·obtain ⟨asx,vs,hS,hR,hlen,h1,hcell⟩:=read_rows (c:=c) (S:=Sh P m e) (sz:=P.cellsOf e) (a:=a) (n:=len) fun i hi => by
         have hg:=hget i hi
         cases hc:c.w.cells? 0 (a.add (i * P.cellsOf e)) (P.cellsOf e) with
         | none => rw[hc] at hg;simp at hg;omega
         | some row =>
           rw[hc,Option.bind_some,List.getElem?_eq_getElem (by omega)] at hg
           obtain ⟨rs,h1,h2,h3⟩:=read_cells hb hJ m hp hg
           exact ⟨row,rs,rfl,h1,h2,h3⟩
        have hk:∀ (j:Nat) v,vs[j]? = some v→c.I (a.add j)∧c.w.cell? (a.add j) = some v:=fun j v hv => by
         have hj:j < len * P.cellsOf e:=by rw[←hlen];exact (List.getElem?_eq_some_iff.1 hv).1
         have:=(hcell j hj).trans hv
         exact ⟨I_cell hb hJ this,this⟩
        refine ⟨[.sl asx len .non],by simp only[Sh,ht];exact ⟨asx,len,rfl,by omega,hS⟩,one ?_ rfl⟩
        exact .sl a vs hl hm (fun h => by cases h) (fun _ _ _ h => by cases h) (fun _ => rfl) h1 hR.1 (fun _ => rfl) hk (fun j x v hx hv => hR.2 j x v hx hv) (fun _ _ h => by cases h)
     | pointer e =>
       rcases DataW.trod_pointer ht h with ⟨rfl,_⟩ | ⟨a,cs',y,n,rfl,rfl,_,hc,hd⟩
       ·exact ⟨[.nilp],by simp only[Sh,ht];exact .inl trivial,one .nilp rfl⟩
       ·obtain ⟨rs,h1,h2,h3⟩:=read_cells hb hJ m hp hd
        obtain ⟨_,hl,hcell⟩:=World.cells?_some hc
        have hk:∀ (j:Nat) v,cs'[j]? = some v→c.I (a.add j)∧c.w.cell? (a.add j) = some v:=fun j v hv => by
         have hj:j < P.cellsOf e:=by rw[←hl];exact (List.getElem?_eq_some_iff.1 hv).1
         have:=(hcell j hj).trans hv
         exact ⟨I_cell hb hJ this,this⟩
        exact ⟨[.ptr rs],by simp only[Sh,ht];exact .inr ⟨rs,rfl,h1⟩,one (.ptr a cs' h3 h2.1 hk (fun j x v hx hv => h2.2 j x v hx hv)) rfl⟩
     | struct fs =>
       simp only[Bool.and_eq_true,List.all_eq_true] at hp
       obtain ⟨xs,n,rfl,_,hcl,hxl,hget⟩:=DataW.trod_struct ht h
       have key:∀ (l:List Field) (o:Nat) (i:Nat),fieldsOk P o l (P.cellsOf t) = true→o≤cs.length→(∀ f∈l,plainB P m f.type = true)→(∀ j f,l[j]? = some f→DataW.trod enc P c.w 0 (fun _ => true) true n f.type ((cs.drop f.offset).take (P.cellsOf f.type)) = xs[i + j]?)→i + l.length = xs.length →
         ∃ asx,ShL (Sh P m) (l.map (·.type)) asx∧Reps c false asx (cs.drop o)∧∀ v∈cs.drop o,v.oneCell' = true:=by
        intro l
        induction l with
        | nil =>
          intro o i hf ho _ _ _
          simp only[fieldsOk,beq_iff_eq] at hf
          have:cs.drop o = []:=List.drop_eq_nil_of_le (by omega)
          rw[this]
          exact ⟨[],rfl,Reps.nil,fun _ h => by cases h⟩
        | cons f l ih =>
          intro o i hf ho hpl hg hlen
          simp only[fieldsOk,Bool.and_eq_true,beq_iff_eq] at hf
          obtain ⟨hfo,hf⟩:=hf
          have hg0:=hg 0 f rfl
          simp only[List.length_cons] at hlen
          rw[List.getElem?_eq_getElem (by omega),hfo] at hg0
          obtain ⟨rs,h1,h2,h3⟩:=read_cells hb hJ m (hpl f (List.mem_cons_self ..)) hg0
          have mono:∀ (l:List Field) (o:Nat),fieldsOk P o l (P.cellsOf t) = true→o≤P.cellsOf t:=by
           intro l
           induction l with
           | nil => intro o h;simp only[fieldsOk,beq_iff_eq] at h;omega
           | cons f l ih => intro o h;simp only[fieldsOk,Bool.and_eq_true] at h;have:=ih _ h.2;omega
          have ho2:=mono _ _ hf
          obtain ⟨asx,h4,h5,h6⟩:=ih (o + P.cellsOf f.type) (i + 1) hf (by omega) (fun g hg => hpl g (List.mem_cons_of_mem _ hg)) (fun j g hj => by
           have:=hg (j + 1) g (by simpa using hj)
           rwa [show i + (j + 1) = i + 1 + j by omega] at this) (by omega)
          have hsplit:cs.drop o = (cs.drop o).take (P.cellsOf f.type) ++ cs.drop (o + P.cellsOf f.type):=by
           rw[←List.drop_drop,List.take_append_drop]
          rw[hsplit]
          refine ⟨rs ++ asx,⟨rs,asx,rfl,h1,h4⟩,h2.append h5,fun v hv => ?_⟩
          rcases List.mem_append.1 hv with hv | hv
          ·exact h3 v hv
          ·exact h6 v hv
       obtain ⟨asx,h1,h2,h3⟩:=key fs.toList 0 0 hp.1 (Nat.zero_le _) hp.2 (fun j f hj => by
        have:=hget j f (by simpa using hj)
        rwa [show 0 + j = j by omega]) (by simp[hxl])
       exact ⟨asx,by simp only[Sh,ht];exact h1,by simpa using h2,by simpa using h3⟩
     | array n e =>
       simp only[Bool.and_eq_true,beq_iff_eq] at hp
       obtain ⟨xs,q,rfl,_,hcl,hxl,hget⟩:=DataW.trod_array ht h
       have key:∀ i,i≤n→∃ asx,ShR (Sh P m e) i asx∧Reps c false asx (cs.take (i * P.cellsOf e))∧∀ v∈cs.take (i * P.cellsOf e),v.oneCell' = true:=by
        intro i
        induction i with
        | zero => intro _;exact ⟨[],⟨[],rfl,rfl,fun _ h => by cases h⟩,by simpa using Reps.nil,by simp⟩
        | succ i ih =>
          intro hi
          obtain ⟨asx,⟨rows,hl,rfl,hS⟩,h2,h3⟩:=ih (by omega)
          have hg:=hget i (by omega)
          rw[List.getElem?_eq_getElem (by omega)] at hg
          obtain ⟨rs,h4,h5,h6⟩:=read_cells hb hJ m hp.2 hg
          have hsplit:cs.take ((i + 1) * P.cellsOf e) = cs.take (i * P.cellsOf e) ++ (cs.drop (i * P.cellsOf e)).take (P.cellsOf e):=by
           rw[Nat.succ_mul,List.take_add]
          rw[hsplit]
          refine ⟨_,⟨rows ++ [rs],by simp[hl],rfl,fun r hr => ?_⟩,?_,fun v hv => ?_⟩
          ·rcases List.mem_append.1 hr with hr | hr
           ·exact hS r hr
           ·rw[List.mem_singleton.1 hr];exact h4
          ·simp only[List.flatten_append,List.flatten_cons,List.flatten_nil,List.append_nil]
           exact h2.append h5
          ·rcases List.mem_append.1 hv with hv | hv
           ·exact h3 v hv
           ·exact h6 v hv
       obtain ⟨asx,h1,h2,h3⟩:=key n (Nat.le_refl _)
       have hall:cs.take (n * P.cellsOf e) = cs:=List.take_of_length_le (by omega)
       rw[hall] at h2 h3
       exact ⟨asx,by simp only[Sh,ht];exact h1,h2,h3⟩
     | _ => cases hp
theorem read_one (hb:c.base = c.w.heap.size) (hJ:c.J = fun _ => True) (m:Nat) {t:TypeId} {v:Value} {d:DataW H} {ps:List MemPlace} (hp:plainB P m t = true) (hv:v.cells = #[v]) (h:DataW.Trod enc P c.w 0 (fun _ => true) true t v d ps):
  ∃ x,Sh P m t [x]∧Rep c true x v:=by
 obtain ⟨fuel,hf⟩:=h
 rw[hv] at hf
 obtain ⟨asx,h1,h2,_⟩:=read_cells hb hJ m hp hf
 have hl:asx.length = 1:=by simpa using h2.1
 match asx,hl with
 | [x],_ => exact ⟨x,h1,(h2.2 0 x v rfl rfl).up⟩
end
end Go.Ab
end
section
namespace Go.Ab
def CLe (c d:CS):Prop:=∀ f asx g r,c f asx g = some r→d f asx g = some r
theorem opE_mono {c d:CS} (h:CLe c d) {al:Nat→Bool} {lo id:Nat} {op:AOp} {e:Env} {g:G} {r:AV × G} (hr:opE c al lo id op e g = some r):opE d al lo id op e g = some r:=by
 cases op with
 | call m f args =>
   simp only[opE,vCall] at hr ⊢
   split at hr
   ·cases m with
    | raw => exact h _ _ _ _ hr
    | see =>
      simp only at hr ⊢
      obtain ⟨v,g2⟩:=r
      obtain ⟨g',hc,rfl,hk⟩:=seeR_inv hr
      rw[h _ _ _ _ hc]
      exact seeR_some hk
    | pure =>
      simp only at hr ⊢
      split at hr
      ·cases hr
      ·split at hr
       ·cases hr
       ·rename_i hc
        rw[h _ _ _ _ hc]
        exact hr
    | lock =>
      simp only at hr ⊢
      split at hr
      ·cases hr
      ·split at hr
       ·cases hr
       ·rename_i hc
        rw[h _ _ _ _ hc]
        exact hr
    | thaw =>
      simp only at hr ⊢
      split at hr
      ·cases hr
      ·split at hr
       ·rename_i hc
        rw[h _ _ _ _ hc]
        exact hr
       ·cases hr
    | melt =>
      simp only at hr ⊢
      split at hr
      ·cases hr
      ·split at hr
       ·rename_i hc
        rw[h _ _ _ _ hc]
        exact hr
       ·cases hr
   ·cases hr
 | _ => exact hr
theorem regE_mono {c d:CS} (h:CLe c d) {draw:Bool} {base:Nat}:∀ {os:List AOper} {j:Nat} {e:Env} {g:G} {r},regE c draw base j os e g = some r→regE d draw base j os e g = some r
 | [],_,_,_,_,hr => hr
 | o :: os,j,e,g,r,hr => by
   simp only[regE] at hr ⊢
   split
   ·rename_i hw
    simp only[hw,if_true] at hr
    split at hr
    ·rename_i ho
     rw[opE_mono h ho]
     exact regE_mono h hr
    ·cases hr
   ·rename_i hw
    simp only[hw,Bool.false_eq_true,if_false] at hr
    exact regE_mono h hr
theorem iter_mono {f f':Env→G→Option (Out × Env × G)} (h:∀ e g r,f e g = some r→f' e g = some r):∀ {k k':Nat} {e g r},k≤k'→iter f k e g = some r→iter f' k' e g = some r
 | 0,_,_,_,_,_,hr => by simp[iter] at hr
 | k + 1,k',e,g,r,hk,hr => by
   obtain ⟨k',rfl⟩:∃ j,k' = j + 1:=⟨k' - 1,by omega⟩
   simp only[iter] at hr ⊢
   split at hr
   ·rename_i hf
    rw[h _ _ _ hf]
    exact iter_mono h (by omega) hr
   ·rename_i hn
    cases hf:f e g with
    | none => rw[hf] at hr;cases hr
    | some q =>
      rw[hf] at hr
      obtain rfl:q = r:=Option.some.inj hr
      obtain ⟨o,e',g'⟩:=q
      cases o with
      | nrm => exact absurd hf (hn _ _)
      | ext n => rw[h _ _ _ hf]
      | ret => rw[h _ _ _ hf]
theorem codeE_mono {c d:CS} (h:CLe c d) {k k':Nat} (hk:k≤k'):∀ {x:ACode} {e:Env} {g:G} {r},codeE c k x e g = some r→codeE d k' x e g = some r:=by
 intro x
 induction x with
 | skip => intro e g r hr;exact hr
 | reg draw ops =>
   intro e g r hr
   simp only[codeE] at hr ⊢
   split at hr
   ·rename_i ho
    rw[regE_mono h ho]
    exact hr
   ·cases hr
 | seq a b iha ihb =>
   intro e g r hr
   simp only[codeE] at hr ⊢
   split at hr
   ·rename_i ho
    rw[iha ho]
    exact ihb hr
   ·rename_i hn
    cases hf:codeE c k a e g with
    | none => rw[hf] at hr;cases hr
    | some q =>
      rw[hf] at hr
      obtain rfl:q = r:=Option.some.inj hr
      obtain ⟨o,e',g'⟩:=q
      cases o with
      | nrm => exact absurd hf (hn _ _)
      | ext n => rw[iha hf]
      | ret => rw[iha hf]
 | cond cc t f iht ihf =>
   intro e g r hr
   simp only[codeE] at hr ⊢
   split at hr
   ·split
    ·rename_i hx
     simp only[hx,if_true] at hr
     exact iht hr
    ·rename_i hx
     simp only[hx,Bool.false_eq_true,if_false] at hr
     exact ihf hr
   ·cases hr
 | lck t cc ih =>
   intro e g r hr
   simp only[codeE] at hr ⊢
   exact ih hr
 | lckS t cc ih =>
   intro e g r hr
   simp only[codeE] at hr ⊢
   exact ih hr
 | imm t cc ih =>
   intro e g r hr
   simp only[codeE] at hr ⊢
   cases hf:frz g.hp depth (e t) with
   | none => rw[hf] at hr;cases hr
   | some v => rw[hf] at hr;exact ih hr
 | tmp cc ih =>
   intro e g r hr
   simp only[codeE] at hr ⊢
   cases hf:codeE c k cc e ⟨lock g.hp (List.range g.nx),g.nx⟩ with
   | none => rw[hf] at hr;cases hr
   | some q => rw[hf] at hr;rw[ih hf];exact hr
 | scp cc ih =>
   intro e g r hr
   simp only[codeE] at hr ⊢
   exact ih hr
 | lab =>
   intro e g r hr
   simp only[codeE] at hr ⊢
   exact hr
 | blk id cc ih =>
   intro e g r hr
   simp only[codeE] at hr ⊢
   split at hr
   ·rename_i hf
    rw[ih hf]
    exact hr
   ·rename_i hn
    cases hf:codeE c k cc e g with
    | none => rw[hf] at hr;cases hr
    | some q =>
      rw[hf] at hr
      obtain rfl:q = r:=Option.some.inj hr
      obtain ⟨o,e',g'⟩:=q
      cases o with
      | nrm => rw[ih hf]
      | ext n => exact absurd hf (hn _ _ _)
      | ret => rw[ih hf]
 | loop cc ih =>
   intro e g r hr
   simp only[codeE] at hr ⊢
   exact iter_mono (fun _ _ _ => ih) hk hr
 | ext id => intro e g r hr;exact hr
 | ret => intro e g r hr;exact hr
theorem callE_mono (F:Funs):∀ {k k':Nat},k≤k'→CLe (callE F k) (callE F k')
 | 0,_,_,_,_,_,_,hr => by simp[callE] at hr
 | k + 1,k',hk,f,asx,g,r,hr => by
   obtain ⟨k',rfl⟩:∃ j,k' = j + 1:=⟨k' - 1,by omega⟩
   simp only[callE] at hr ⊢
   split at hr
   ·cases hr
   ·rename_i fn hF
    have hm:=fun {x} => codeE_mono (callE_mono F (show k≤k' by omega)) (show k≤k' by omega) (x:=fn.body) (e:=argEnv asx) (g:=g) (r:=x)
    split at hr
    ·rename_i hc
     rw[hm hc]
     exact hr
    ·rename_i hc
     rw[hm hc]
     exact hr
    ·cases hr
open Classical in
noncomputable def lim {α:Type} (f:Nat→Option α):Option α:=
 if h:∃ r k,f k = some r then some (Classical.choose h) else none
theorem lim_some {α:Type} {f:Nat→Option α} (hm:∀ k k' r,k≤k'→f k = some r→f k' = some r) {r:α}:lim f = some r↔∃ k,f k = some r:=by
 unfold lim
 constructor
 ·intro h
  split at h
  ·rename_i hx
   have:=Classical.choose_spec hx
   rwa [Option.some.inj h] at this
  ·cases h
 ·rintro ⟨k,hk⟩
  rw[dif_pos ⟨r,k,hk⟩]
  obtain ⟨k',hk'⟩:=Classical.choose_spec (⟨r,k,hk⟩:∃ r k,f k = some r)
  have h1:=hm k (max k k') _ (by omega) hk
  have h2:=hm k' (max k k') _ (by omega) hk'
  rw[h1] at h2
  exact congrArg some (Option.some.inj h2).symm
theorem lim_ext {α:Type} {a b:Option α} (h:∀ r,a = some r↔b = some r):a = b:=by
 cases a with
 | none =>
   cases b with
   | none => rfl
   | some r => exact (((h r).2 rfl).symm ▸ rfl:none = some r)
 | some r => exact ((h r).1 rfl).symm
variable (F:Funs)
noncomputable def callS:CS:=fun f asx g => lim fun k => callE F k f asx g
noncomputable def codeS (x:ACode) (e:Env) (g:G):Option (Out × Env × G):=lim fun k => codeE (callE F k) k x e g
theorem callS_some {f asx g r}:callS F f asx g = some r↔∃ k,callE F k f asx g = some r:=
 lim_some fun _ _ _ hk h => callE_mono F hk _ _ _ _ h
theorem codeS_some {x e g r}:codeS F x e g = some r↔∃ k,codeE (callE F k) k x e g = some r:=
 lim_some fun _ _ _ hk h => codeE_mono (callE_mono F hk) hk h
theorem callE_le (k:Nat):CLe (callE F k) (callS F):=fun _ _ _ _ h => (callS_some F).2 ⟨k,h⟩
theorem opE_lim {al lo id op e g r}:opE (callS F) al lo id op e g = some r↔∃ k,opE (callE F k) al lo id op e g = some r:=by
 refine ⟨fun h => ?_,fun ⟨k,h⟩ => opE_mono (callE_le F k) h⟩
 cases op with
 | call m f args =>
   simp only[opE,vCall] at h ⊢
   split at h
   ·cases m with
    | raw => exact (callS_some F).1 h
    | see =>
      simp only at h ⊢
      obtain ⟨v,g2⟩:=r
      obtain ⟨g',hc,rfl,hkp⟩:=seeR_inv h
      obtain ⟨k,hk⟩:=(callS_some F).1 hc
      exact ⟨k,by rw[hk];exact seeR_some hkp⟩
    | pure =>
      simp only at h ⊢
      split at h
      ·cases h
      ·split at h
       ·cases h
       ·rename_i hc
        obtain ⟨k,hk⟩:=(callS_some F).1 hc
        exact ⟨k,by rw[hk];exact h⟩
    | lock =>
      simp only at h ⊢
      split at h
      ·cases h
      ·split at h
       ·cases h
       ·rename_i hc
        obtain ⟨k,hk⟩:=(callS_some F).1 hc
        exact ⟨k,by rw[hk];exact h⟩
    | thaw =>
      simp only at h ⊢
      split at h
      ·cases h
      ·split at h
       ·rename_i hc
        obtain ⟨k,hk⟩:=(callS_some F).1 hc
        exact ⟨k,by rw[hk];exact h⟩
       ·cases h
    | melt =>
      simp only at h ⊢
      split at h
      ·cases h
      ·split at h
       ·rename_i hc
        obtain ⟨k,hk⟩:=(callS_some F).1 hc
        exact ⟨k,by rw[hk];exact h⟩
       ·cases h
   ·cases h
 | _ => exact ⟨0,h⟩
theorem regE_lim {draw base}:∀ {os:List AOper} {j e g r},regE (callS F) draw base j os e g = some r↔∃ k,regE (callE F k) draw base j os e g = some r
 | [],_,_,_,_ => ⟨fun h => ⟨0,h⟩,fun ⟨_,h⟩ => h⟩
 | o :: os,j,e,g,r => by
   refine ⟨fun h => ?_,fun ⟨k,h⟩ => regE_mono (callE_le F k) h⟩
   simp only[regE] at h
   split at h
   ·rename_i hw
    split at h
    ·rename_i ho
     obtain ⟨k1,h1⟩:=(opE_lim F).1 ho
     obtain ⟨k2,h2⟩:=(regE_lim).1 h
     refine ⟨max k1 k2,?_⟩
     simp only[regE]
     rw[if_pos hw,opE_mono (callE_mono F (Nat.le_max_left k1 k2)) h1]
     exact regE_mono (callE_mono F (Nat.le_max_right k1 k2)) h2
    ·cases h
   ·rename_i hw
    obtain ⟨k2,h2⟩:=(regE_lim).1 h
    refine ⟨k2,?_⟩
    simp only[regE]
    rw[if_neg hw]
    exact h2
theorem codeS_skip (e g):codeS F .skip e g = some (.nrm,e,g):=(codeS_some F).2 ⟨0,rfl⟩
theorem codeS_ext (id e g):codeS F (.ext id) e g = some (.ext id,e,g):=(codeS_some F).2 ⟨0,rfl⟩
theorem codeS_ret (e g):codeS F .ret e g = some (.ret,e,g):=(codeS_some F).2 ⟨0,rfl⟩
theorem codeS_reg (draw ops e g):codeS F (.reg draw ops) e g = match regE (callS F) draw g.nx 0 ops e { g with nx:=g.nx + ops.length } with
  | some (e,g) => some (.nrm,e,g)
  | none => none:=by
 refine lim_ext fun r => ?_
 rw[codeS_some]
 constructor
 ·rintro ⟨k,h⟩
  simp only[codeE] at h
  split at h
  ·rename_i ho
   rw[(regE_lim F).2 ⟨k,ho⟩]
   exact h
  ·cases h
 ·intro h
  split at h
  ·rename_i ho
   obtain ⟨k,hk⟩:=(regE_lim F).1 ho
   exact ⟨k,by simp only[codeE];rw[hk];exact h⟩
  ·cases h
theorem codeS_seq (a b e g):codeS F (.seq a b) e g = match codeS F a e g with
  | some (.nrm,e,g) => codeS F b e g
  | r => r:=by
 refine lim_ext fun r => ?_
 rw[codeS_some]
 constructor
 ·rintro ⟨k,h⟩
  simp only[codeE] at h
  split at h
  ·rename_i ho
   rw[(codeS_some F).2 ⟨k,ho⟩]
   exact (codeS_some F).2 ⟨k,h⟩
  ·rename_i hn
   rw[(codeS_some F).2 ⟨k,h⟩]
   obtain ⟨o,e',g'⟩:=r
   cases o with
   | nrm => exact absurd h (hn _ _)
   | ext n => rfl
   | ret => rfl
 ·intro h
  split at h
  ·rename_i ho
   obtain ⟨k1,h1⟩:=(codeS_some F).1 ho
   obtain ⟨k2,h2⟩:=(codeS_some F).1 h
   refine ⟨max k1 k2,?_⟩
   simp only[codeE]
   rw[codeE_mono (callE_mono F (Nat.le_max_left k1 k2)) (Nat.le_max_left k1 k2) h1]
   exact codeE_mono (callE_mono F (Nat.le_max_right k1 k2)) (Nat.le_max_right k1 k2) h2
  ·rename_i hn
   obtain ⟨k1,h1⟩:=(codeS_some F).1 h
   refine ⟨k1,?_⟩
   simp only[codeE]
   rw[h1]
   obtain ⟨o,e',g'⟩:=r
   cases o with
   | nrm => exact absurd h (hn _ _)
   | ext n => rfl
   | ret => rfl
theorem codeS_cond (c t f e g):codeS F (.cond c t f) e g = match c.ev e with
  | .b x => if x then codeS F t e g else codeS F f e g
  | _ => none:=by
 refine lim_ext fun r => ?_
 rw[codeS_some]
 simp only[codeE]
 cases c.ev e with
 | b x =>
   cases x with
   | true => simp only[if_true];exact (codeS_some F).symm
   | false => simp only[Bool.false_eq_true,if_false];exact (codeS_some F).symm
 | _ => simp
theorem codeS_imm (t c e g):codeS F (.imm t c) e g = match frz g.hp depth (e t) with
  | some v => codeS F c (upd e t v) ⟨lock g.hp (vis g.hp depth (e t)),g.nx⟩
  | none => none:=by
 refine lim_ext fun r => ?_
 rw[codeS_some]
 simp only[codeE]
 cases frz g.hp depth (e t) with
 | none => simp
 | some v => exact (codeS_some F).symm
theorem codeS_scp (c e g):codeS F (.scp c) e g = codeS F c e g:=by
 refine lim_ext fun r => ?_
 rw[codeS_some]
 simp only[codeE]
 exact (codeS_some F).symm
theorem codeS_lab (e g):codeS F .lab e g = some (.nrm,e,g):=by
 refine lim_ext fun r => ?_
 rw[codeS_some]
 simp only[codeE]
 exact ⟨fun ⟨_,h⟩ => h,fun h => ⟨0,h⟩⟩
theorem codeS_blk (id c e g):codeS F (.blk id c) e g = match codeS F c e g with
  | some (.ext n,e,g) => some (if n = id then .nrm else .ext n,e,g)
  | r => r:=by
 refine lim_ext fun r => ?_
 rw[codeS_some]
 constructor
 ·rintro ⟨k,h⟩
  simp only[codeE] at h
  split at h
  ·rename_i ho
   rw[(codeS_some F).2 ⟨k,ho⟩]
   exact h
  ·rename_i hn
   rw[(codeS_some F).2 ⟨k,h⟩]
   obtain ⟨o,e',g'⟩:=r
   cases o with
   | nrm => rfl
   | ext n => exact absurd h (hn _ _ _)
   | ret => rfl
 ·intro h
  split at h
  ·rename_i ho
   obtain ⟨k1,h1⟩:=(codeS_some F).1 ho
   exact ⟨k1,by simp only[codeE];rw[h1];exact h⟩
  ·rename_i hn
   obtain ⟨k1,h1⟩:=(codeS_some F).1 h
   refine ⟨k1,?_⟩
   simp only[codeE]
   rw[h1]
   obtain ⟨o,e',g'⟩:=r
   cases o with
   | nrm => rfl
   | ext n => exact absurd h (hn _ _ _)
   | ret => rfl
theorem codeS_loop (c e g):codeS F (.loop c) e g = match codeS F c e g with
  | some (.nrm,e,g) => codeS F (.loop c) e g
  | r => r:=by
 refine lim_ext fun r => ?_
 rw[codeS_some]
 constructor
 ·rintro ⟨k,h⟩
  simp only[codeE] at h
  cases k with
  | zero => simp[iter] at h
  | succ k =>
    simp only[iter] at h
    split at h
    ·rename_i ho
     rw[(codeS_some F).2 ⟨k + 1,ho⟩]
     refine (codeS_some F).2 ⟨k + 1,?_⟩
     simp only[codeE]
     exact iter_mono (fun _ _ _ h => h) (Nat.le_succ k) h
    ·rename_i hn
     rw[(codeS_some F).2 ⟨k + 1,h⟩]
     obtain ⟨o,e',g'⟩:=r
     cases o with
     | nrm => exact absurd h (hn _ _)
     | ext n => rfl
     | ret => rfl
 ·intro h
  split at h
  ·rename_i ho
   obtain ⟨k1,h1⟩:=(codeS_some F).1 ho
   obtain ⟨k2,h2⟩:=(codeS_some F).1 h
   simp only[codeE] at h2
   refine ⟨max k1 k2 + 1,?_⟩
   simp only[codeE,iter]
   rw[codeE_mono (callE_mono F (by omega:k1≤max k1 k2 + 1)) (by omega:k1≤max k1 k2 + 1) h1]
   exact iter_mono (fun _ _ _ h => codeE_mono (callE_mono F (by omega:k2≤max k1 k2 + 1)) (by omega:k2≤max k1 k2 + 1) h) (by omega) h2
  ·rename_i hn
   obtain ⟨k1,h1⟩:=(codeS_some F).1 h
   refine ⟨k1 + 1,?_⟩
   simp only[codeE,iter]
   rw[codeE_mono (callE_mono F (by omega:k1≤k1 + 1)) (by omega:k1≤k1 + 1) h1]
   obtain ⟨o,e',g'⟩:=r
   cases o with
   | nrm => exact absurd h (hn _ _)
   | ext n => rfl
   | ret => rfl
theorem callS_eq (f asx g):callS F f asx g = match F f with
  | none => none
  | some fn => match codeS F fn.body (argEnv asx) g with
    | some (.nrm,e,g) | some (.ret,e,g) => (resE fn.res e g).map (·,g)
    | _ => none:=by
 refine lim_ext fun r => ?_
 rw[callS_some]
 constructor
 ·rintro ⟨k,h⟩
  cases k with
  | zero => simp[callE] at h
  | succ k =>
    simp only[callE] at h
    split at h
    ·cases h
    ·rename_i fn hF
     rw[hF]
     simp only
     split at h
     ·rename_i hc
      rw[(codeS_some F).2 ⟨k,hc⟩]
      exact h
     ·rename_i hc
      rw[(codeS_some F).2 ⟨k,hc⟩]
      exact h
     ·cases h
 ·intro h
  split at h
  ·cases h
  ·rename_i fn hF
   split at h
   ·rename_i hc
    obtain ⟨k,hk⟩:=(codeS_some F).1 hc
    exact ⟨k + 1,by simp only[callE,hF];rw[hk];exact h⟩
   ·rename_i hc
    obtain ⟨k,hk⟩:=(codeS_some F).1 hc
    exact ⟨k + 1,by simp only[callE,hF];rw[hk];exact h⟩
   ·cases h
end Go.Ab
end
section
namespace Go.Ab
theorem upd_same {α:Type} (e:Nat→α) (d:Nat) (v:α):upd e d v d = v:=if_pos rfl
theorem upd_ne {α:Type} (e:Nat→α) {d k:Nat} (v:α) (h:k≠d):upd e d v k = e k:=if_neg h
theorem put_some (e:Env) (d:Nat) (v:AV):put e (some d) v = upd e d v:=rfl
theorem put_none (e:Env) (v:AV):put e none v = e:=rfl
theorem allow_no (base:Nat) (pre:List Nat) (id:Nat):allow false base pre id = true:=rfl
theorem allow_lt {base id:Nat} (pre:List Nat) (h:id < base):allow true base pre id = true:=by simp[allow,h]
section
variable (c:CS) (d:Bool) (b j:Nat) (dst:Option Nat) (os:List AOper) (e:Env)
noncomputable def bindR (r:Option (AV × G)):Option (Env × G):=
 match r with
 | some (v,g) => regE c d b j os (put e dst v) g
 | none => none
noncomputable def selR (w:Bool) (op:AOp) (pre:List Nat) (g:G):Option (Env × G):=
 if w then bindR c d b (j + 1) dst os e (opE c (allow d b pre) b (b + j) op e g) else regE c d b (j + 1) os (put e dst .undef) g
theorem selR_true (op pre g):selR c d b j dst os e true op pre g = bindR c d b (j + 1) dst os e (opE c (allow d b pre) b (b + j) op e g):=rfl
theorem regE_nil (g:G):regE c d b j [] e g = some (e,g):=rfl
theorem regE_cons (op:AOp) (grd:Option (Nat × Bool)) (pre:List Nat) (g:G):
  regE c d b j ({ dst,op,grd,pre } :: os) e g = selR c d b j dst os e (wanted e grd) op pre g:=by
 simp only[regE,selR,bindR]
 rfl
end
section
variable (F:Funs)
noncomputable def thenS (x:ACode) (r:Option (Out × Env × G)):Option (Out × Env × G):=
 match r with
 | some (.nrm,e,g) => codeS F x e g
 | r => r
noncomputable def selS (t f:ACode) (e:Env) (g:G) (v:AV):Option (Out × Env × G):=
 match v with
 | .b c => if c then codeS F t e g else codeS F f e g
 | _ => none
def normS (r:Option (Env × G)):Option (Out × Env × G):=
 match r with
 | some (e,g) => some (.nrm,e,g)
 | none => none
def blkS (id:Nat) (r:Option (Out × Env × G)):Option (Out × Env × G):=
 match r with
 | some (.ext n,e,g) => some (if n = id then .nrm else .ext n,e,g)
 | r => r
theorem cS_reg (draw ops e g):codeS F (.reg draw ops) e g = normS (regE (callS F) draw g.nx 0 ops e ⟨g.hp,g.nx + ops.length⟩):=codeS_reg F draw ops e g
theorem cS_seq (a b e g):codeS F (.seq a b) e g = thenS F b (codeS F a e g):=codeS_seq F a b e g
theorem cS_cond (c t f e g):codeS F (.cond c t f) e g = selS F t f e g (c.ev e):=codeS_cond F c t f e g
theorem cS_blk (id c e g):codeS F (.blk id c) e g = blkS id (codeS F c e g):=codeS_blk F id c e g
theorem cS_loop (c e g):codeS F (.loop c) e g = thenS F (.loop c) (codeS F c e g):=codeS_loop F c e g
end
def wantV (v:AV) (w:Bool):Bool:=match v with | .b x => x == w | _ => false
theorem wanted_none (e:Env):wanted e none = true:=rfl
theorem wanted_some (e:Env) (t:Nat) (w:Bool):wanted e (some (t,w)) = wantV (e t) w:=rfl
theorem wantV_1 (x:Bool):wantV (.b x) true = x:=by cases x<;>rfl
theorem wantV_0 (x:Bool):wantV (.b x) false = !x:=by cases x<;>rfl
theorem wantV_undef (w:Bool):wantV .undef w = false:=rfl
section
variable {c:CS} {al:Nat→Bool} {lo id:Nat} {e:Env} {g:G}
theorem ev_t (n:Nat):Opd.ev e (.t n) = e n:=rfl
theorem ev_c (v:AV):Opd.ev e (.c v) = v:=rfl
theorem o_mv (x:Opd):opE c al lo id (.mv x) e g = some (x.ev e,g):=rfl
theorem o_pick (x y z:Opd):opE c al lo id (.pick x y z) e g = vPick (x.ev e) (y.ev e) (z.ev e) g:=rfl
theorem vPick_t (a b:AV) (g:G):vPick (.b true) a b g = some (a,g):=rfl
theorem vPick_f (a b:AV) (g:G):vPick (.b false) a b g = some (b,g):=rfl
theorem o_new (z:List AV):opE c al lo id (.new z) e g = some (.mp id 0,⟨upd g.hp id (some (.cells z false)),g.nx⟩):=rfl
theorem o_box (x:Opd):opE c al lo id (.box x) e g = vBox id (x.ev e) g:=rfl
theorem vMap_some (v:AV):vMap g (some v) = some (v,g):=rfl
theorem vMapL_some (f) (v:List AV):vMapL f g (some v) = some (f v,g):=rfl
theorem o_build (z:List AV) (ps):opE c al lo id (.build z ps) e g = vMapL .agg g (fill e z ps):=rfl
theorem o_ld (agg) (x:Opd):opE c al lo id (.ld agg x) e g = vLd al agg (x.ev e) g:=rfl
theorem vLd_ptr (agg cs):vLd al agg (.ptr cs) g = vMap g (part cs 0 agg):=rfl
theorem o_st (n) (a x:Opd):opE c al lo id (.st n a x) e g = vSt al n (a.ev e) (x.ev e) g:=rfl
theorem o_nilck (x:Opd):opE c al lo id (.nilck x) e g = vNil (x.ev e) g:=rfl
theorem vNil_ptr (cs):vNil (.ptr cs) g = some (.ptr cs,g):=rfl
theorem vNil_mp (b o):vNil (.mp b o) g = some (.mp b o,g):=rfl
theorem vNil_fn (f a b):vNil (.fn f a b) g = some (.fn f a b,g):=rfl
theorem o_bin (op) (x y:Opd):opE c al lo id (.bin op x y) e g = vMap g (abin op (x.ev e) (y.ev e)):=rfl
theorem o_un (op) (x:Opd):opE c al lo id (.un op x) e g = vMap g (aun op (x.ev e)):=rfl
theorem o_mkfn (f a b):opE c al lo id (.mkfn f a b) e g = some (.fn f (a.map (·.ev e)) (b.map (·.ev e)),g):=rfl
theorem o_fa (off) (x:Opd):opE c al lo id (.fa off x) e g = vFa off (x.ev e) g:=rfl
theorem vFa_mp (off b o):vFa off (.mp b o) g = some (.mp b (o + off),g):=rfl
theorem o_fld (off agg) (x:Opd):opE c al lo id (.fld off agg x) e g = vFld off agg (x.ev e) g:=rfl
theorem vFld_agg (off agg cs):vFld off agg (.agg cs) g = vMap g (part cs off agg):=rfl
theorem o_ia (esz) (x i:Opd):opE c al lo id (.ia esz x i) e g = vIa esz (x.ev e) (i.ev e) g:=rfl
theorem vIa_sl {esz cs t k} {n:Nat} {z:Int} (h0:0≤z) (h:z < n):vIa esz (.sl cs n t) (.i k z) g = some (.ptr (cs.drop (z.toNat * esz)),g):=if_pos ⟨h0,h⟩
theorem vIa_ms {esz b off k} {n:Nat} {z:Int} (h0:0≤z) (h:z < n):vIa esz (.ms b off n) (.i k z) g = some (.mp b (off + z.toNat * esz),g):=if_pos ⟨h0,h⟩
theorem o_iaa (len esz) (x i:Opd):opE c al lo id (.iaa len esz x i) e g = vIaa len esz (x.ev e) (i.ev e) g:=rfl
theorem vIaa_ptr {esz cs k} {len:Nat} {z:Int} (h0:0≤z) (h:z < len):vIaa len esz (.ptr cs) (.i k z) g = some (.ptr (cs.drop (z.toNat * esz)),g):=if_pos ⟨h0,h⟩
theorem vIaa_mp {esz b off k} {len:Nat} {z:Int} (h0:0≤z) (h:z < len):vIaa len esz (.mp b off) (.i k z) g = some (.mp b (off + z.toNat * esz),g):=if_pos ⟨h0,h⟩
theorem o_len (x:Opd):opE c al lo id (.len x) e g = vLen (x.ev e) g:=rfl
theorem vLen_sl (cs n t):vLen (.sl cs n t) g = some (.i .i64 n,g):=rfl
theorem vLen_ms (b o n):vLen (.ms b o n) g = some (.i .i64 n,g):=rfl
theorem o_mx (x y:Opd):opE c al lo id (.mx x y) e g = vMx (x.ev e) (y.ev e) g:=rfl
theorem o_mn (x y:Opd):opE c al lo id (.mn x y) e g = vMn (x.ev e) (y.ev e) g:=rfl
theorem vMx_i (k l a b):vMx (.i k a) (.i l b) g = some (.i k (if b > a then b else a),g):=rfl
theorem vMn_i (k l a b):vMn (.i k a) (.i l b) g = some (.i k (if b < a then b else a),g):=rfl
theorem o_ext (i) (x:Opd):opE c al lo id (.ext i x) e g = vExt i (x.ev e) g:=rfl
theorem vExt_tup (i cs):vExt i (.tup cs) g = vMap g (cs[i]?):=rfl
theorem b_add (k x y):abin .add (.i k x) (.i k y) = some (.i k (k.wrap (x + y))):=by simp[abin,ibin]
theorem b_sub (k x y):abin .sub (.i k x) (.i k y) = some (.i k (k.wrap (x - y))):=by simp[abin,ibin]
theorem b_mul (k x y):abin .mul (.i k x) (.i k y) = some (.i k (k.wrap (x * y))):=by simp[abin,ibin]
theorem b_quo {k x y} (h:y≠0):abin .quo (.i k x) (.i k y) = some (.i k (k.wrap (x.tdiv y))):=by simp[abin,ibin,h]
theorem b_rem {k x y} (h:y≠0):abin .rem (.i k x) (.i k y) = some (.i k (x.tmod y)):=by simp[abin,ibin,h]
theorem b_lss (k x y):abin .lss (.i k x) (.i k y) = some (.b (decide (x < y))):=by simp[abin,ibin]
theorem b_leq (k x y):abin .leq (.i k x) (.i k y) = some (.b (decide (x≤y))):=by simp[abin,ibin]
theorem b_gtr (k x y):abin .gtr (.i k x) (.i k y) = some (.b (decide (x > y))):=by simp[abin,ibin]
theorem b_geq (k x y):abin .geq (.i k x) (.i k y) = some (.b (decide (x ≥ y))):=by simp[abin,ibin]
theorem b_eql (k x y):abin .eql (.i k x) (.i k y) = some (.b (x == y)):=by simp[abin,ibin]
theorem b_neq (k x y):abin .neq (.i k x) (.i k y) = some (.b (x != y)):=by simp[abin,ibin]
end
def selB (x:Bool) (o:Option Blk):Option Blk:=if x then o else none
theorem selB_true (o):selB true o = o:=rfl
theorem rd_S (g:G) (al:Nat→Bool) (id:Nat):rd g al id = selB (al id) (g.hp id):=rfl
section
variable {al:Nat→Bool} {g:G}
def ldS (agg:Option Nat) (off:Nat) (g:G):Option Blk→Option (AV × G)
 | some (.cells cs _) => vMap g (part cs off agg)
 | _ => none
theorem ldS_ok (agg off g cs ro):ldS agg off g (some (.cells cs ro)) = vMap g (part cs off agg):=rfl
theorem vLd_S (agg b off):vLd al agg (.mp b off) g = ldS agg off g (selB (al b) (g.hp b)):=rfl
def stD (n b off len m:Nat) (ones:Bool) (cs vs:List AV) (g:G):Option (AV × G):=
 if len = n∧off + n≤m∧ones = true then some (.undef,⟨upd g.hp b (some (.cells (splice cs off vs) false)),g.nx⟩) else none
theorem stD_ok {n b off len m:Nat} {cs vs g} (h:len = n∧off + n≤m):stD n b off len m true cs vs g = some (.undef,⟨upd g.hp b (some (.cells (splice cs off vs) false)),g.nx⟩):=if_pos ⟨h.1,h.2,rfl⟩
def stS (n b off:Nat) (vs:List AV) (g:G):Option Blk→Option (AV × G)
 | some (.cells cs false) => stD n b off vs.length cs.length (vs.all one) cs vs g
 | _ => none
theorem stS_ok (n b off vs g cs):stS n b off vs g (some (.cells cs false)) = stD n b off vs.length cs.length (vs.all one) cs vs g:=rfl
theorem vSt_S (n b off x):vSt al n (.mp b off) x g = stS n b off (cellsOf x) g (selB (al b) (g.hp b)):=by
 simp only[vSt]
 rw[rd_S]
 cases selB (al b) (g.hp b) with
 | none => rfl
 | some bl =>
   cases bl with
   | cells cs ro => cases ro<;>rfl
   | map es => rfl
   | tok l => rfl
def boxD (id:Nat) (cs:List AV) (g:G) (x:Bool):Option (AV × G):=if x then some (.mp id 0,⟨upd g.hp id (some (.cells cs false)),g.nx⟩) else none
theorem boxD_ok (id cs g):boxD id cs g true = some (.mp id 0,⟨upd g.hp id (some (.cells cs false)),g.nx⟩):=rfl
theorem vBox_S (id v):vBox id v g = boxD id (cellsOf v) g ((cellsOf v).all one):=rfl
def faD (off len:Nat) (cs:List AV) (g:G):Option (AV × G):=if off < len then some (.ptr (cs.drop off),g) else none
theorem faD_ok {off len:Nat} {cs g} (h:off < len):faD off len cs g = some (.ptr (cs.drop off),g):=if_pos h
theorem vFa_S (off cs):vFa off (.ptr cs) g = faD off cs.length cs g:=rfl
def fillD (e:Env) (cs:List AV) (off n len m:Nat) (ones:Bool) (vs:List AV) (ps:List (Nat × Nat × Opd)):Option (List AV):=
 if len = n∧off + n≤m∧ones = true then fill e (splice cs off vs) ps else none
theorem fillD_ok {e cs off n len m vs ps} (h:len = n∧off + n≤m):fillD e cs off n len m true vs ps = fill e (splice cs off vs) ps:=if_pos ⟨h.1,h.2,rfl⟩
theorem fill_S (e:Env) (cs:List AV) (off n x ps):fill e cs ((off,n,x) :: ps) = fillD e cs off n (cellsOf (x.ev e)).length cs.length ((cellsOf (x.ev e)).all one) (cellsOf (x.ev e)) ps:=by
 simp only[fill,fillD]
theorem fill_nil (e cs):fill e cs [] = some cs:=rfl
theorem cellsOf_agg (cs):cellsOf (.agg cs) = cs:=rfl
theorem cellsOf_i (k n):cellsOf (.i k n) = [.i k n]:=rfl
theorem cellsOf_b (x):cellsOf (.b x) = [.b x]:=rfl
theorem cellsOf_s (x):cellsOf (.s x) = [.s x]:=rfl
theorem cellsOf_ptr (x):cellsOf (.ptr x) = [.ptr x]:=rfl
theorem cellsOf_nilp:cellsOf .nilp = [.nilp]:=rfl
theorem cellsOf_sl (a b c):cellsOf (.sl a b c) = [.sl a b c]:=rfl
theorem cellsOf_mp (a b):cellsOf (.mp a b) = [.mp a b]:=rfl
theorem cellsOf_fn (a b c):cellsOf (.fn a b c) = [.fn a b c]:=rfl
theorem one_i (k n):one (.i k n) = true:=rfl
theorem one_b (x):one (.b x) = true:=rfl
theorem one_s (x):one (.s x) = true:=rfl
theorem one_ptr (x):one (.ptr x) = true:=rfl
theorem one_nilp:one .nilp = true:=rfl
theorem one_sl (a b c):one (.sl a b c) = true:=rfl
theorem one_mp (a b):one (.mp a b) = true:=rfl
theorem one_fn (a b c):one (.fn a b c) = true:=rfl
theorem splice_1 (cs off v):splice cs off [v] = cs.set off v:=rfl
theorem splice_2 (a b x y):splice [a,b] 0 [x,y] = [x,y]:=rfl
theorem splice_3 (a b c x y z):splice [a,b,c] 0 [x,y,z] = [x,y,z]:=rfl
theorem part_0 (c cs):part (c :: cs) 0 none = some c:=rfl
theorem part_1 (c d cs):part (c :: d :: cs) 1 none = some d:=rfl
theorem part_2 (a c d cs):part (a :: c :: d :: cs) 2 none = some d:=rfl
def andLe (lo:Nat) (al:Nat→Bool) (i:Nat):Bool:=decide (lo≤i) && al i
theorem o_stL {c:CS} {al:Nat→Bool} {lo id:Nat} {e:Env} {g:G} (n a x):opE c al lo id (.stL n a x) e g = vSt (andLe lo al) n (a.ev e) (x.ev e) g:=rfl
theorem andLe_ok {lo:Nat} {al:Nat→Bool} {i:Nat} (h:lo≤i):andLe lo al i = al i:=by simp[andLe,h]
theorem allow_hd {base k id:Nat} (l:List Nat) (h:id = base + k):allow true base (k :: l) id = true:=by subst h;simp[allow]
theorem allow_h2 {base k k' id:Nat} (l:List Nat) (h:id = base + k):allow true base (k' :: k :: l) id = true:=by subst h;simp[allow]
theorem part_3 (a b c d:AV) (l:List AV):part (a :: b :: c :: d :: l) 3 none = some d:=rfl
theorem part_4 (a b c d e:AV) (l:List AV):part (a :: b :: c :: d :: e :: l) 4 none = some e:=rfl
theorem part_5 (a b c d e f:AV) (l:List AV):part (a :: b :: c :: d :: e :: f :: l) 5 none = some f:=rfl
theorem cellsOf_ms (a b c):cellsOf (.ms a b c) = [.ms a b c]:=rfl
theorem one_ms (a b c):one (.ms a b c) = true:=rfl
theorem drop_0 (l:List AV):l.drop 0 = l:=rfl
theorem g0_nx:g0.nx = 0:=rfl
theorem g0_hp:g0.hp = fun _ => none:=rfl
theorem o_bsl {c:CS} {al:Nat→Bool} {lo id:Nat} {e:Env} {g:G} (imm n z ps):opE c al lo id (.bsl imm n z ps) e g = vBsl id imm n (fill e z ps) g:=rfl
theorem vBsl_t (id n cs) (g:G):vBsl id true n (some cs) g = vMapL (fun cs => .sl cs n .rig) g (frzL (fun _ => none) depth cs):=rfl
theorem vBsl_f (id n cs) (g:G):vBsl id false n (some cs) g = some (.ms id 0 n,⟨upd g.hp id (some (.cells cs false)),g.nx⟩):=rfl
theorem o_app {c:CS} {al:Nat→Bool} {lo id:Nat} {e:Env} {g:G} (esz by' x y):opE c al lo id (.app esz by' x y) e g = vApp al id esz by' (x.ev e) (y.ev e) g:=rfl
def appD (n m esz bytes lc ld:Nat) (r:Option (AV × G)):Option (AV × G):=if (n + m) * bytes≤2 ^ 46∧n + m≤2 ^ 62∧lc = n * esz∧ld = m * esz then r else none
theorem appD_ok {n m esz bytes lc ld r} (h:(n + m) * bytes≤2 ^ 46∧n + m≤2 ^ 62∧lc = n * esz∧ld = m * esz):appD n m esz bytes lc ld r = r:=if_pos h
theorem vApp_rig {id esz bytes cs n ds m t2} (h:m≠0):vApp al id esz bytes (.sl cs n .rig) (.sl ds m t2) g = appD n m esz bytes cs.length ds.length (some (.sl (cs ++ ds) (n + m) (.own id esz),⟨upd g.hp id (some (.tok true)),g.nx⟩)):=by
 simp only[vApp,vSrc,if_neg h];rfl
theorem vApp_rig0 {id esz bytes cs n ds t2}:vApp al id esz bytes (.sl cs n .rig) (.sl ds 0 t2) g = appD n 0 esz bytes cs.length ds.length (some (.sl cs n .rig,g)):=by
 simp only[vApp,vSrc,if_true];rfl
def appK (id esz tk n:Nat) (cs:List AV) (g:G):Option Blk→Option (AV × G)
 | some (.tok true) => some (.sl cs n (.own id esz),⟨upd (upd g.hp tk (some (.tok false))) id (some (.tok true)),g.nx⟩)
 | _ => none
theorem appK_ok (id esz tk n cs g):appK id esz tk n cs g (some (.tok true)) = some (.sl cs n (.own id esz),⟨upd (upd g.hp tk (some (.tok false))) id (some (.tok true)),g.nx⟩):=rfl
theorem vApp_own {id esz bytes cs n tk ds m t2}:vApp al id esz bytes (.sl cs n (.own tk esz)) (.sl ds m t2) g = appD n m esz bytes cs.length ds.length (appK id esz tk (n + m) (cs ++ ds) g (selB (al tk) (g.hp tk))):=by
 simp only[vApp,vSrc,rd_S]
 unfold appD appK
 split
 ·cases selB (al tk) (g.hp tk) with
  | none => rfl
  | some b =>
    cases b with
    | tok x => cases x<;>simp
    | cells _ _ => rfl
    | map _ => rfl
 ·rfl
theorem o_eqn {c:CS} {al:Nat→Bool} {lo id:Nat} {e:Env} {g:G} (neg x y):opE c al lo id (.eqn neg x y) e g = vMap g (negb neg (aeqn (x.ev e) (y.ev e))):=rfl
theorem o_eqb {c:CS} {al:Nat→Bool} {lo id:Nat} {e:Env} {g:G} (neg x y):opE c al lo id (.eqb neg x y) e g = vMap g (negb neg (aeqb (x.ev e) (y.ev e))):=rfl
theorem o_eqa {c:CS} {al:Nat→Bool} {lo id:Nat} {e:Env} {g:G} (neg ks x y):opE c al lo id (.eqa neg ks x y) e g = vMap g (negb neg (aeqa ks (x.ev e) (y.ev e))):=rfl
theorem aeqn_pn (cs):aeqn (.ptr cs) .nilp = some false:=rfl
theorem aeqn_np (cs):aeqn .nilp (.ptr cs) = some false:=rfl
theorem aeqn_mn (a b):aeqn (.mp a b) .nilp = some false:=rfl
theorem aeqn_nn:aeqn .nilp .nilp = some true:=rfl
theorem aeqb_bb (x y):aeqb (.b x) (.b y) = some (x == y):=rfl
theorem negb_t (x):negb true (some x) = some (.b (!x)):=rfl
theorem negb_f (x):negb false (some x) = some (.b x):=rfl
theorem aun_not (x):aun .not (.b x) = some (.b !x):=rfl
end
end Go.Ab
end
section
set_option linter.unusedVariables false
namespace Go.Ab
def lckG (g:G) (v:AV):G:=⟨lock g.hp (vis g.hp depth v),g.nx⟩
section
variable (F:Funs)
def W (c:ACode) (e:Env) (g:G) (Q:Out→Env→G→Prop):Prop:=∃ o e' g',codeS F c e g = some (o,e',g')∧Q o e' g'
def WR (d:Bool) (b j:Nat) (ops:List AOper) (e:Env) (g:G) (K:Env→G→Prop):Prop:=∃ e' g',regE (callS F) d b j ops e g = some (e',g')∧K e' g'
def thenQ (b:ACode) (Q:Out→Env→G→Prop):Out→Env→G→Prop
 | .nrm,e,g => W F b e g Q
 | o,e,g => Q o e g
def selW (t f:ACode) (e:Env) (g:G) (Q:Out→Env→G→Prop):AV→Prop
 | .b true => W F t e g Q
 | .b false => W F f e g Q
 | _ => False
def blkQ (id:Nat) (Q:Out→Env→G→Prop):Out→Env→G→Prop
 | .ext n,e,g => if n = id then Q .nrm e g else Q (.ext n) e g
 | o,e,g => Q o e g
def nrmQ (Q:Out→Env→G→Prop) (e:Env) (g:G):Prop:=Q .nrm e g
def bindO (d:Bool) (b j:Nat) (dst:Option Nat) (os:List AOper) (e:Env) (K:Env→G→Prop):Option (AV × G)→Prop
 | some (v,g) => WR F d b j os (put e dst v) g K
 | none => False
def selO (d:Bool) (b j:Nat) (dst:Option Nat) (os:List AOper) (e:Env) (op:AOp) (pre:List Nat) (g:G) (K:Env→G→Prop) (w:Bool):Prop:=
 if w then bindO F d b (j + 1) dst os e K (opE (callS F) (allow d b pre) b (b + j) op e g) else WR F d b (j + 1) os (put e dst .undef) g K
end
section
variable {F:Funs}
theorem W_skip {e g Q}:W F .skip e g Q = Q .nrm e g:=by
 unfold W;rw[codeS_skip];apply propext
 exact ⟨fun ⟨o,e',g',h,q⟩ => by cases h;exact q,fun q => ⟨_,_,_,rfl,q⟩⟩
theorem W_ext {id e g Q}:W F (.ext id) e g Q = Q (.ext id) e g:=by
 unfold W;rw[codeS_ext];apply propext
 exact ⟨fun ⟨o,e',g',h,q⟩ => by cases h;exact q,fun q => ⟨_,_,_,rfl,q⟩⟩
theorem W_ret {e g Q}:W F .ret e g Q = Q .ret e g:=by
 unfold W;rw[codeS_ret];apply propext
 exact ⟨fun ⟨o,e',g',h,q⟩ => by cases h;exact q,fun q => ⟨_,_,_,rfl,q⟩⟩
theorem W_seq {a b e g Q}:W F (.seq a b) e g Q = W F a e g (thenQ F b Q):=by
 unfold W;rw[cS_seq];apply propext
 constructor
 ·intro ⟨o,e',g',h,q⟩
  cases hc:codeS F a e g with
  | none => rw[hc] at h;cases h
  | some r =>
    obtain ⟨o1,e1,g1⟩:=r
    rw[hc] at h
    refine ⟨o1,e1,g1,rfl,?_⟩
    cases o1 with
    | nrm => exact ⟨o,e',g',h,q⟩
    | ext n => cases h;exact q
    | ret => cases h;exact q
 ·intro ⟨o,e',g',h,q⟩
  rw[h]
  cases o with
  | nrm => exact q
  | ext n => exact ⟨_,_,_,rfl,q⟩
  | ret => exact ⟨_,_,_,rfl,q⟩
theorem thenQ_nrm {b Q e g}:thenQ F b Q .nrm e g = W F b e g Q:=rfl
theorem thenQ_ext {b Q n e g}:thenQ F b Q (.ext n) e g = Q (.ext n) e g:=rfl
theorem thenQ_ret {b Q e g}:thenQ F b Q .ret e g = Q .ret e g:=rfl
theorem W_cond {c t f e g Q}:W F (.cond c t f) e g Q = selW F t f e g Q (c.ev e):=by
 unfold W;rw[cS_cond];apply propext
 generalize c.ev e = v
 cases v<;>simp only[selS,selW]<;>try (constructor<;>(intro h;first | exact h.elim | (obtain ⟨_,_,_,h,_⟩:=h;cases h)))
 rename_i x
 cases x<;>simp[W]
theorem selW_true {t f e g Q}:selW F t f e g Q (.b true) = W F t e g Q:=rfl
theorem selW_false {t f e g Q}:selW F t f e g Q (.b false) = W F f e g Q:=rfl
theorem W_imm {t c e g Q v} (h:frz g.hp depth (e t) = some v):W F (.imm t c) e g Q = W F c (upd e t v) (lckG g (e t)) Q:=by
 unfold W;rw[codeS_imm,h];rfl
theorem W_immM {t:Nat} {c:ACode} {e:Env} {g:G} {Q:Out→Env→G→Prop} (M:Env→G→Prop) (h0:M e g) (h:∀ e g,M e g→W F (.imm t c) e g Q):W F (.imm t c) e g Q:=h e g h0
theorem W_scp {c e g Q}:W F (.scp c) e g Q = W F c e g Q:=by unfold W;rw[codeS_scp]
theorem W_lab {e g Q}:W F .lab e g Q = Q .nrm e g:=by
 unfold W;rw[codeS_lab];apply propext
 exact ⟨fun ⟨o,e',g',h,q⟩ => by cases h;exact q,fun q => ⟨_,_,_,rfl,q⟩⟩
theorem W_blk {id c e g Q}:W F (.blk id c) e g Q = W F c e g (blkQ id Q):=by
 unfold W;rw[cS_blk];apply propext
 constructor
 ·intro ⟨o,e',g',h,q⟩
  cases hc:codeS F c e g with
  | none => rw[hc] at h;cases h
  | some r =>
    obtain ⟨o1,e1,g1⟩:=r
    rw[hc] at h
    refine ⟨o1,e1,g1,rfl,?_⟩
    cases o1 with
    | nrm => cases h;exact q
    | ext n =>
      cases h
      show if n = id then _ else _
      split
      ·rename_i hn;rw[if_pos hn] at q;exact q
      ·rename_i hn;rw[if_neg hn] at q;exact q
    | ret => cases h;exact q
 ·intro ⟨o,e',g',h,q⟩
  rw[h]
  cases o with
  | nrm => exact ⟨_,_,_,rfl,q⟩
  | ext n =>
    refine ⟨_,_,_,rfl,?_⟩
    have q:if n = id then Q .nrm e' g' else Q (.ext n) e' g':=q
    split
    ·rename_i hn;rw[if_pos hn] at q;exact q
    ·rename_i hn;rw[if_neg hn] at q;exact q
  | ret => exact ⟨_,_,_,rfl,q⟩
theorem blkQ_nrm {id Q e g}:blkQ id Q .nrm e g = Q .nrm e g:=rfl
theorem blkQ_ret {id Q e g}:blkQ id Q .ret e g = Q .ret e g:=rfl
theorem blkQ_same {id Q e g}:blkQ id Q (.ext id) e g = Q .nrm e g:=if_pos rfl
theorem blkQ_ne {id n Q e g} (h:n≠id):blkQ id Q (.ext n) e g = Q (.ext n) e g:=if_neg h
theorem W_reg {d ops e g Q}:W F (.reg d ops) e g Q = WR F d g.nx 0 ops e ⟨g.hp,g.nx + ops.length⟩ (nrmQ Q):=by
 unfold W WR;rw[cS_reg];apply propext
 constructor
 ·intro ⟨o,e',g',h,q⟩
  cases hc:regE (callS F) d g.nx 0 ops e ⟨g.hp,g.nx + ops.length⟩ with
  | none => rw[hc] at h;cases h
  | some r =>
    rw[hc] at h
    cases h
    exact ⟨_,_,rfl,q⟩
 ·intro ⟨e',g',h,q⟩
  rw[h]
  exact ⟨.nrm,e',g',rfl,q⟩
theorem nrmQ_is {Q e g}:nrmQ Q e g = Q .nrm e g:=rfl
theorem WR_nil {d b j e g K}:WR F d b j [] e g K = K e g:=by
 unfold WR;apply propext
 simp only[regE_nil]
 exact ⟨fun ⟨e',g',h,q⟩ => by cases h;exact q,fun q => ⟨_,_,rfl,q⟩⟩
theorem WR_cons {d b j dst op grd pre os e g K}:WR F d b j ({ dst,op,grd,pre } :: os) e g K = selO F d b j dst os e op pre g K (wanted e grd):=by
 unfold WR;rw[regE_cons]
 generalize wanted e grd = w
 cases w
 ·rfl
 ·rw[selR_true]
  show _ = bindO _ _ _ _ _ _ _ _ _
  cases opE (callS F) (allow d b pre) b (b + j) op e g with
  | none =>
    apply propext
    constructor
    ·intro ⟨_,_,h,_⟩;cases h
    ·intro h;exact False.elim h
  | some r => rfl
theorem selO_true {d b j dst os e op pre g K}:selO F d b j dst os e op pre g K true = bindO F d b (j + 1) dst os e K (opE (callS F) (allow d b pre) b (b + j) op e g):=rfl
theorem selO_false {d b j dst os e op pre g K}:selO F d b j dst os e op pre g K false = WR F d b (j + 1) os (put e dst .undef) g K:=rfl
theorem bindO_some {d b j dst os e K v g}:bindO F d b j dst os e K (some (v,g)) = WR F d b j os (put e dst v) g K:=rfl
theorem W_mono {c e g} {Q Q':Out→Env→G→Prop} (h:W F c e g Q) (hq:∀ o e g,Q o e g→Q' o e g):W F c e g Q':=by
 obtain ⟨o,e',g',h1,h2⟩:=h;exact ⟨o,e',g',h1,hq _ _ _ h2⟩
def loopQ (I:Nat→Env→G→Prop) (m:Nat) (Q:Out→Env→G→Prop):Out→Env→G→Prop
 | .nrm,e,g => ∃ m',m' < m∧I m' e g
 | o,e,g => Q o e g
theorem loopQ_nrm {I m Q e g}:loopQ I m Q .nrm e g = ∃ m',m' < m∧I m' e g:=rfl
theorem loopQ_ext {I m Q n e g}:loopQ I m Q (.ext n) e g = Q (.ext n) e g:=rfl
theorem loopQ_ret {I m Q e g}:loopQ I m Q .ret e g = Q .ret e g:=rfl
theorem W_loop {c e g Q} (I:Nat→Env→G→Prop) (n:Nat) (h0:I n e g) (h:∀ m e g,I m e g→W F c e g (loopQ I m Q)):W F (.loop c) e g Q:=by
 have key:∀ m e g,I m e g→W F (.loop c) e g Q:=by
  intro m
  induction m using Nat.strongRecOn with
  | _ m ih =>
    intro e g hI
    obtain ⟨o,e1,g1,h1,h2⟩:=h m e g hI
    unfold W
    rw[cS_loop,h1]
    cases o with
    | nrm =>
      obtain ⟨m',hm,hI'⟩:=h2
      exact ih m' hm e1 g1 hI'
    | ext n => exact ⟨_,_,_,rfl,h2⟩
    | ret => exact ⟨_,_,_,rfl,h2⟩
 exact key n e g h0
noncomputable def pureS (F:Funs) (f:Nat) (asx:List AV):Option AV:=match callS F f asx g0 with
 | some (v,g) => frz g.hp depth v
 | none => none
noncomputable def vPure (F:Funs) (al:Nat→Bool) (f:AV) (args:List AV) (g:G):Option (AV × G):=vCall (callS F) al 0 .pure f args g
theorem o_pure {al lo id e g} (f:Opd) (asx:List Opd):opE (callS F) al lo id (.call .pure f asx) e g = vPure F al (f.ev e) (asx.map (·.ev e)) g:=rfl
theorem vPure_ok {al:Nat→Bool} {fid:Nat} {fst caps args bs:List AV} {g:G} {v:AV} (h1:frzL (rd g al) depth (fst ++ args ++ caps) = some bs) (h2:pureS F fid bs = some v) (h3:(flat v || ((fst ++ args ++ caps).flatMap (vis (rd g al) depth)).isEmpty) = true):
  vPure F al (.fn fid fst caps) args g = some (v,g):=by
 unfold pureS at h2
 split at h2
 ·rename_i v0 g' hc
  have hc':callS F fid bs ⟨fun _ => none,0⟩ = some (v0,g'):=hc
  unfold vPure vCall
  simp only[h1,hc',h2,h3,if_true]
 ·cases h2
def retQ (rs:List ARes) (v:AV):Out→Env→G→Prop
 | .ext _,_,_ => False
 | _,e,g => (match resE rs e g with | some v0 => frz g.hp depth v0 | none => none) = some v
theorem retQ_nrm {rs v e g}:retQ rs v .nrm e g = ((match resE rs e g with | some v0 => frz g.hp depth v0 | none => none) = some v):=rfl
theorem retQ_ret {rs v e g}:retQ rs v .ret e g = ((match resE rs e g with | some v0 => frz g.hp depth v0 | none => none) = some v):=rfl
theorem pure_of {f:Nat} {fn:AFun} {asx:List AV} {v:AV} (hF:F f = some fn) (h:W F fn.body (argEnv asx) g0 (retQ fn.res v)):pureS F f asx = some v:=by
 obtain ⟨o,e,g,h1,h2⟩:=h
 unfold pureS
 rw[callS_eq,hF]
 simp only[h1]
 cases o with
 | ext n => exact h2.elim
 | nrm =>
   have h2:(match resE fn.res e g with | some v0 => frz g.hp depth v0 | none => none) = some v:=h2
   cases hr:resE fn.res e g with
   | none => rw[hr] at h2;cases h2
   | some v0 => rw[hr] at h2;simp only[hr,Option.map_some];exact h2
 | ret =>
   have h2:(match resE fn.res e g with | some v0 => frz g.hp depth v0 | none => none) = some v:=h2
   cases hr:resE fn.res e g with
   | none => rw[hr] at h2;cases h2
   | some v0 => rw[hr] at h2;simp only[hr,Option.map_some];exact h2
end
theorem argEnv_0 (a l):argEnv (a :: l) 0 = a:=rfl
theorem argEnv_1 (a b l):argEnv (a :: b :: l) 1 = b:=rfl
theorem argEnv_2 (a b c l):argEnv (a :: b :: c :: l) 2 = c:=rfl
theorem argEnv_3 (a b c d l):argEnv (a :: b :: c :: d :: l) 3 = d:=rfl
theorem argEnv_4 (a b c d e l):argEnv (a :: b :: c :: d :: e :: l) 4 = e:=rfl
theorem argEnv_5 (a b c d e f l):argEnv (a :: b :: c :: d :: e :: f :: l) 5 = f:=rfl
theorem res_1 (n e g):resE [.t n] e g = some (e n):=rfl
theorem res_2 (n m e g):resE [.t n,.t m] e g = some (.tup [e n,e m]):=rfl
theorem frz_flat {hp} {d:Nat} {v:AV} (h:flat v = true):frz hp (d + 1) v = some v:=by cases v<;>first | (cases h;done) | simp only[frz]
theorem frzL_flat {hp} {d:Nat}:∀ {cs:List AV},cs.all flat = true→frzL hp (d + 1) cs = some cs
 | [],_ => by simp only[frzL]
 | c :: cs,h => by
   simp only[List.all_cons,Bool.and_eq_true] at h
   simp only[frzL,frz_flat h.1,frzL_flat h.2]
theorem frzL_nil (hp d):frzL hp d [] = some []:=by simp only[frzL]
def consO (c:Option AV) (cs:Option (List AV)):Option (List AV):=match c,cs with
 | some c,some cs => some (c :: cs)
 | _,_ => none
theorem consO_ok (c cs):consO (some c) (some cs) = some (c :: cs):=rfl
theorem frzL_cons (hp d c cs):frzL hp d (c :: cs) = consO (frz hp d c) (frzL hp d cs):=by
 simp only[frzL]
 cases frz hp d c<;>cases frzL hp d cs<;>rfl
theorem frz_d_i (hp k n):frz hp depth (.i k n) = some (.i k n):=by show frz hp (8 + 1) _ = _;simp only[frz]
theorem frz_d_b (hp x):frz hp depth (.b x) = some (.b x):=by show frz hp (8 + 1) _ = _;simp only[frz]
theorem frz_d_s (hp x):frz hp depth (.s x) = some (.s x):=by show frz hp (8 + 1) _ = _;simp only[frz]
theorem frz_d_nilp (hp):frz hp depth .nilp = some .nilp:=by show frz hp (8 + 1) _ = _;simp only[frz]
theorem frz_d_ptr (hp cs):frz hp depth (.ptr cs) = some (.ptr cs):=by show frz hp (8 + 1) _ = _;simp only[frz]
theorem frz_d_sl (hp cs n t):frz hp depth (.sl cs n t) = some (.sl cs n .non):=by show frz hp (8 + 1) _ = _;simp only[frz]
theorem frz_d_mp {hp:Nat→Option Blk} {id off cs ro ds} (h:hp id = some (.cells cs ro)) (hf:frzL hp 8 (cs.drop off) = some ds):frz hp depth (.mp id off) = some (.ptr ds):=by
 show frz hp (8 + 1) _ = _
 simp only[frz,h,hf,Option.map_some]
theorem frz_d_fn0 (hp f):frz hp depth (.fn f [] []) = some (.fn f [] []):=by show frz hp (8 + 1) _ = _;simp only[frz,frzL]
noncomputable def frzB (hp:Nat→Option Blk) (off:Nat) (cs:List AV) (x:Bool):Option (List AV):=if x then some (cs.drop off) else frzL hp 8 (cs.drop off)
noncomputable def frzP (hp:Nat→Option Blk) (off:Nat) (f:List AV→AV):Option Blk→Option AV
 | some (.cells cs _) => (frzB hp off cs (cs.all flat)).map f
 | _ => none
theorem frzB_eq (hp:Nat→Option Blk) (off:Nat) (cs:List AV):frzB hp off cs (cs.all flat) = frzL hp 8 (cs.drop off):=by
 unfold frzB
 split
 ·rename_i hf
  refine (frzL_flat ?_).symm
  rw[List.all_eq_true] at hf ⊢
  exact fun x hx => hf x (List.mem_of_mem_drop hx)
 ·rfl
theorem frz_P (hp:Nat→Option Blk) (id off:Nat):frz hp depth (.mp id off) = frzP hp off .ptr (hp id):=by
 show frz hp (8 + 1) _ = _
 simp only[frz]
 unfold frzP
 simp only[frzB_eq]
 cases hp id with
 | none => rfl
 | some b => cases b<;>rfl
theorem frz_Q (hp:Nat→Option Blk) (id off n:Nat):frz hp depth (.ms id off n) = frzP hp off (fun cs => .sl cs n .non) (hp id):=by
 show frz hp (8 + 1) _ = _
 simp only[frz]
 unfold frzP
 simp only[frzB_eq]
 cases hp id with
 | none => rfl
 | some b => cases b<;>rfl
theorem frzP_cells (hp off f cs ro):frzP hp off f (some (.cells cs ro)) = (frzB hp off cs (cs.all flat)).map f:=rfl
theorem frzB_true (hp off cs):frzB hp off cs true = some (cs.drop off):=rfl
theorem map_some' (f:List AV→AV) (cs:List AV):(some cs).map f = some (f cs):=rfl
noncomputable def purD (g:G) (vs:List Nat):Option AV→Option (AV × G)
 | some v => if flat v || vs.isEmpty then some (v,g) else none
 | none => none
def purE (g:G) (v:AV) (x:Bool):Option (AV × G):=if x then some (v,g) else none
theorem purD_some (g vs v):purD g vs (some v) = purE g v (flat v || vs.isEmpty):=rfl
theorem purE_true (g v):purE g v true = some (v,g):=rfl
noncomputable def purS (F:Funs) (f:Nat) (g:G) (vs:List Nat):Option (List AV)→Option (AV × G)
 | some bs => purD g vs (pureS F f bs)
 | none => none
theorem purS_some (F f g vs bs):purS F f g vs (some bs) = purD g vs (pureS F f bs):=rfl
theorem vPure_S (F:Funs) (al:Nat→Bool) (fid:Nat) (fst args caps:List AV) (g:G):
  vPure F al (.fn fid fst caps) args g = purS F fid g ((fst ++ args ++ caps).flatMap (vis (rd g al) depth)) (frzL (rd g al) depth (fst ++ args ++ caps)):=by
 unfold vPure vCall
 simp only
 cases frzL (rd g al) depth (fst ++ args ++ caps) with
 | none => rfl
 | some bs =>
   rw[purS_some]
   unfold pureS g0
   simp only
   cases callS F fid bs ⟨fun _ => none,0⟩ with
   | none => rfl
   | some r =>
     obtain ⟨v,g'⟩:=r
     simp only
     cases frz g'.hp depth v with
     | none => rfl
     | some v' => rfl
theorem flat_i (k n):flat (.i k n) = true:=rfl
theorem flat_b (x):flat (.b x) = true:=rfl
theorem flat_s (x):flat (.s x) = true:=rfl
theorem flat_nilp:flat .nilp = true:=rfl
theorem flat_ptr (x):flat (.ptr x) = false:=rfl
theorem flat_sl (a b c):flat (.sl a b c) = false:=rfl
theorem flat_agg (a):flat (.agg a) = false:=rfl
theorem flat_tup (a):flat (.tup a) = false:=rfl
theorem vis_i (hp k n):vis hp depth (.i k n) = []:=by show vis hp (8 + 1) _ = _;simp only[vis]
theorem vis_b (hp x):vis hp depth (.b x) = []:=by show vis hp (8 + 1) _ = _;simp only[vis]
theorem vis_s (hp x):vis hp depth (.s x) = []:=by show vis hp (8 + 1) _ = _;simp only[vis]
theorem vis_nilp (hp):vis hp depth .nilp = []:=by show vis hp (8 + 1) _ = _;simp only[vis]
theorem vis_ptr (hp x):vis hp depth (.ptr x) = []:=by show vis hp (8 + 1) _ = _;simp only[vis]
theorem vis_sl (hp a b c):vis hp depth (.sl a b c) = []:=by show vis hp (8 + 1) _ = _;simp only[vis]
theorem vis_fn0 (hp f):vis hp depth (.fn f [] []) = []:=by show vis hp (8 + 1) _ = _;simp only[vis,List.flatMap_nil,List.append_nil]
theorem isEmpty_nil:([]:List Nat).isEmpty = true:=rfl
def midQ (M:Env→G→Prop):Out→Env→G→Prop
 | .nrm,e,g => M e g
 | _,_,_ => False
theorem midQ_nrm {M e g}:midQ M .nrm e g = M e g:=rfl
theorem midQ_then {F:Funs} {rest Q} {M:Env→G→Prop} (h2:∀ e g,M e g→W F rest e g Q) (o e g) (h:midQ M o e g):thenQ F rest Q o e g:=by
 cases o with
 | nrm => exact h2 e g h
 | ext n => exact h.elim
 | ret => exact h.elim
theorem W_cut {F:Funs} {c rest e g Q} (M:Env→G→Prop) (h1:W F c e g (midQ M)) (h2:∀ e g,M e g→W F rest e g Q):W F c e g (thenQ F rest Q):=W_mono h1 (midQ_then h2)
theorem sel_cut {F:Funs} {t f rest e g Q v} (M:Env→G→Prop) (h1:selW F t f e g (midQ M) v) (h2:∀ e g,M e g→W F rest e g Q):selW F t f e g (thenQ F rest Q) v:=by
 cases v<;>simp only[selW] at h1 ⊢
 rename_i x
 cases x<;>exact W_mono h1 (midQ_then h2)
theorem frz_b_inv {hp:Nat→Option Blk} {k:Nat} {v:AV} {b:Bool} (h:frz hp (k + 1) v = some (.b b)):v = .b b:=by
 cases v with
 | b x => simp only[frz] at h;cases h;rfl
 | agg cs => simp only[frz] at h;cases hf:frzL hp k cs<;>rw[hf] at h<;>cases h
 | tup cs => simp only[frz] at h;cases hf:frzL hp k cs<;>rw[hf] at h<;>cases h
 | mp id off =>
   simp only[frz] at h
   split at h
   ·cases hf:frzL hp k (List.drop off _)<;>rw[hf] at h<;>cases h
   ·cases h
 | ms id off n =>
   simp only[frz] at h
   split at h
   ·cases hf:frzL hp k (List.drop off _)<;>rw[hf] at h<;>cases h
   ·cases h
 | fn f asx bs => simp only[frz] at h;split at h<;>cases h
 | ifc t w => simp only[frz] at h;cases hf:frz hp k w<;>rw[hf] at h<;>cases h
 | _ => simp only[frz] at h;cases h
theorem pureS_bool {F:Funs} {f:Nat} {asx:List AV} {b:Bool} (h:pureS F f asx = some (.b b)):∃ k g',callE F k f asx g0 = some (.b b,g'):=by
 unfold pureS at h
 split at h
 ·rename_i v g hc
  have:=frz_b_inv (k:=8) h
  subst this
  obtain ⟨k,hk⟩:=(callS_some F).1 hc
  exact ⟨k,g,hk⟩
 ·cases h
def retB (rs:List ARes) (P:Bool→Prop):Out→Env→G→Prop
 | .ext _,_,_ => False
 | _,e,g => ∃ b,resE rs e g = some (.b b)∧P b
theorem retB_nrm {rs P e g}:retB rs P .nrm e g = (∃ b,resE rs e g = some (.b b)∧P b):=rfl
theorem retB_ret {rs P e g}:retB rs P .ret e g = (∃ b,resE rs e g = some (.b b)∧P b):=rfl
theorem blk_cut {F:Funs} {c rest:ACode} {id:Nat} {e:Env} {g:G} {Q:Out→Env→G→Prop} (M:Env→G→Prop) (h1:W F c e g (blkQ id (midQ M))) (h2:∀ e g,M e g→W F rest e g Q):W F c e g (blkQ id (thenQ F rest Q)):=by
 refine W_mono h1 fun o e g h => ?_
 cases o with
 | nrm => exact h2 e g h
 | ret => exact h.elim
 | ext n =>
   have h:if n = id then midQ M .nrm e g else midQ M (.ext n) e g:=h
   show if n = id then thenQ F rest Q .nrm e g else thenQ F rest Q (.ext n) e g
   by_cases hn:n = id
   ·rw[if_pos hn] at h ⊢;exact h2 e g h
   ·rw[if_neg hn] at h;exact h.elim
def midR (Q:Out→Env→G→Prop) (M:Env→G→Prop):Out→Env→G→Prop
 | .nrm,e,g => M e g
 | .ret,e,g => Q .ret e g
 | .ext _,_,_ => False
theorem midR_nrm {Q M e g}:midR Q M .nrm e g = M e g:=rfl
theorem midR_ret {Q M e g}:midR Q M .ret e g = Q .ret e g:=rfl
theorem blk_cutR {F:Funs} {c rest:ACode} {id:Nat} {e:Env} {g:G} {Q:Out→Env→G→Prop} (M:Env→G→Prop) (h1:W F c e g (blkQ id (midR Q M))) (h2:∀ e g,M e g→W F rest e g Q):W F c e g (blkQ id (thenQ F rest Q)):=by
 refine W_mono h1 fun o e g h => ?_
 cases o with
 | nrm => exact h2 e g h
 | ret => exact h
 | ext n =>
   have h:if n = id then midR Q M .nrm e g else midR Q M (.ext n) e g:=h
   show if n = id then thenQ F rest Q .nrm e g else thenQ F rest Q (.ext n) e g
   by_cases hn:n = id
   ·rw[if_pos hn] at h ⊢;exact h2 e g h
   ·rw[if_neg hn] at h;exact h.elim
theorem wp:type_of% (And.intro (And.intro (And.intro (And.intro (And.intro (And.intro (And.intro @W_skip (And.intro @W_ext @W_ret)) (And.intro (And.intro @W_seq @thenQ_nrm) (And.intro @thenQ_ext @thenQ_ret))) (And.intro (And.intro (And.intro @W_cond @selW_true) (And.intro @selW_false @W_blk)) (And.intro (And.intro @blkQ_nrm @blkQ_ret) (And.intro @blkQ_same @blkQ_ne)))) (And.intro (And.intro (And.intro @W_reg (And.intro @nrmQ_is @WR_nil)) (And.intro (And.intro @WR_cons @selO_true) (And.intro @selO_false @bindO_some))) (And.intro (And.intro (And.intro @loopQ_nrm @loopQ_ext) (And.intro @loopQ_ret @wanted_none)) (And.intro (And.intro @wanted_some @wantV_1) (And.intro @wantV_0 @wantV_undef))))) (And.intro (And.intro (And.intro (And.intro @ev_t (And.intro @ev_c @put_some)) (And.intro (And.intro @put_none @upd_same) (And.intro @upd_ne @List.length_cons.{0}))) (And.intro (And.intro (And.intro @List.length_nil.{0} @List.map_cons.{0,0}) (And.intro @List.map_nil.{0,0} @allow_no)) (And.intro (And.intro @allow_lt @argEnv_0) (And.intro @argEnv_1 @argEnv_2)))) (And.intro (And.intro (And.intro (And.intro @argEnv_3 @argEnv_4) (And.intro @argEnv_5 @res_1)) (And.intro (And.intro @res_2 @retQ_nrm) (And.intro @retQ_ret @o_mv))) (And.intro (And.intro (And.intro @o_pick @vPick_t) (And.intro @vPick_f @o_new)) (And.intro (And.intro @o_box @vBox_S) (And.intro @boxD_ok @vMap_some)))))) (And.intro (And.intro (And.intro (And.intro (And.intro @vMapL_some (And.intro @o_build @o_ld)) (And.intro (And.intro @vLd_ptr @vLd_S) (And.intro @ldS_ok @selB_true))) (And.intro (And.intro (And.intro @o_st @vSt_S) (And.intro @stS_ok @stD_ok)) (And.intro (And.intro @o_nilck @vNil_ptr) (And.intro @vNil_mp @vNil_fn)))) (And.intro (And.intro (And.intro (And.intro @o_bin @o_un) (And.intro @o_mkfn @o_fa)) (And.intro (And.intro @vFa_mp @vFa_S) (And.intro @faD_ok @o_fld))) (And.intro (And.intro (And.intro @vFld_agg @o_ia) (And.intro @vIa_sl @vIa_ms)) (And.intro (And.intro @o_iaa @vIaa_ptr) (And.intro @vIaa_mp @o_len))))) (And.intro (And.intro (And.intro (And.intro @vLen_sl (And.intro @vLen_ms @o_mx)) (And.intro (And.intro @o_mn @vMx_i) (And.intro @vMn_i @o_ext))) (And.intro (And.intro (And.intro @vExt_tup @b_add) (And.intro @b_sub @b_mul)) (And.intro (And.intro @b_lss @b_leq) (And.intro @b_gtr @b_geq)))) (And.intro (And.intro (And.intro (And.intro @b_eql @b_neq) (And.intro @o_pure @List.nil_append.{0})) (And.intro (And.intro @List.append_nil.{0} @List.cons_append.{0}) (And.intro @frz_d_i @frz_d_b))) (And.intro (And.intro (And.intro @frz_d_s @frz_d_nilp) (And.intro @frz_d_ptr @frz_d_sl)) (And.intro (And.intro @frz_d_fn0 @Bool.not_true) (And.intro @Bool.not_false @Bool.true_and))))))) (And.intro (And.intro (And.intro (And.intro (And.intro (And.intro @Bool.and_true (And.intro @Bool.false_and @Bool.and_false)) (And.intro (And.intro @decide_true @decide_false) (And.intro @beq_self_eq_true.{0} @Bool.true_eq_false))) (And.intro (And.intro (And.intro @Bool.false_eq_true @Nat.zero_add) (And.intro @Nat.add_zero @Int.toNat_natCast)) (And.intro (And.intro @ge_iff_le.{0} @gt_iff_lt.{0}) (And.intro @fill_S @fillD_ok)))) (And.intro (And.intro (And.intro (And.intro @fill_nil @cellsOf_agg) (And.intro @cellsOf_i @cellsOf_b)) (And.intro (And.intro @cellsOf_s @cellsOf_ptr) (And.intro @cellsOf_nilp @cellsOf_sl))) (And.intro (And.intro (And.intro @cellsOf_mp @cellsOf_fn) (And.intro @one_i @one_b)) (And.intro (And.intro @one_s @one_ptr) (And.intro @one_nilp @one_sl))))) (And.intro (And.intro (And.intro (And.intro @one_mp (And.intro @one_fn @List.all_cons.{0})) (And.intro (And.intro @List.all_nil.{0} @splice_1) (And.intro @splice_2 @splice_3))) (And.intro (And.intro (And.intro @part_0 @part_1) (And.intro @part_2 @drop_0)) (And.intro (And.intro @g0_nx @g0_hp) (And.intro @List.set_cons_zero.{0} @List.set_cons_succ.{0})))) (And.intro (And.intro (And.intro (And.intro @List.length_append.{0} @List.length_replicate.{0}) (And.intro @eq_self.{1} @true_and)) (And.intro (And.intro @and_true @vPure_S) (And.intro @purS_some @purD_some))) (And.intro (And.intro (And.intro @purE_true @frzL_cons) (And.intro @frzL_nil @consO_ok)) (And.intro (And.intro @flat_i @flat_b) (And.intro @flat_s @flat_nilp)))))) (And.intro (And.intro (And.intro (And.intro (And.intro @flat_ptr (And.intro @flat_sl @flat_agg)) (And.intro (And.intro @flat_tup @vis_i) (And.intro @vis_b @vis_s))) (And.intro (And.intro (And.intro @vis_nilp @vis_ptr) (And.intro @vis_sl @vis_fn0)) (And.intro (And.intro @List.flatMap_cons.{0,0} @List.flatMap_nil.{0,0}) (And.intro @isEmpty_nil @Bool.true_or)))) (And.intro (And.intro (And.intro (And.intro @Bool.false_or @Bool.or_true) (And.intro @Bool.or_false @frz_P)) (And.intro (And.intro @frz_Q @frzP_cells) (And.intro @frzB_true @map_some'))) (And.intro (And.intro (And.intro @rd_S @o_bsl) (And.intro @vBsl_t @vBsl_f)) (And.intro (And.intro @o_app @appD_ok) (And.intro @vApp_rig @vApp_rig0))))) (And.intro (And.intro (And.intro (And.intro @appK_ok (And.intro @vApp_own @o_eqn)) (And.intro (And.intro @o_eqb @o_eqa) (And.intro @aeqn_pn @aeqn_np))) (And.intro (And.intro (And.intro @aeqn_mn @aeqn_nn) (And.intro @aeqb_bb @negb_t)) (And.intro (And.intro @negb_f @aun_not) (And.intro @midQ_nrm @part_3)))) (And.intro (And.intro (And.intro (And.intro @part_4 @part_5) (And.intro @cellsOf_ms @one_ms)) (And.intro (And.intro @Int.toNat_zero @Nat.zero_mul) (And.intro @o_stL @andLe_ok))) (And.intro (And.intro (And.intro @allow_hd @allow_h2) (And.intro @retB_nrm @retB_ret)) (And.intro (And.intro @midR_nrm @midR_ret) (And.intro @W_scp @W_lab)))))))):=(And.intro (And.intro (And.intro (And.intro (And.intro (And.intro (And.intro @W_skip (And.intro @W_ext @W_ret)) (And.intro (And.intro @W_seq @thenQ_nrm) (And.intro @thenQ_ext @thenQ_ret))) (And.intro (And.intro (And.intro @W_cond @selW_true) (And.intro @selW_false @W_blk)) (And.intro (And.intro @blkQ_nrm @blkQ_ret) (And.intro @blkQ_same @blkQ_ne)))) (And.intro (And.intro (And.intro @W_reg (And.intro @nrmQ_is @WR_nil)) (And.intro (And.intro @WR_cons @selO_true) (And.intro @selO_false @bindO_some))) (And.intro (And.intro (And.intro @loopQ_nrm @loopQ_ext) (And.intro @loopQ_ret @wanted_none)) (And.intro (And.intro @wanted_some @wantV_1) (And.intro @wantV_0 @wantV_undef))))) (And.intro (And.intro (And.intro (And.intro @ev_t (And.intro @ev_c @put_some)) (And.intro (And.intro @put_none @upd_same) (And.intro @upd_ne @List.length_cons.{0}))) (And.intro (And.intro (And.intro @List.length_nil.{0} @List.map_cons.{0,0}) (And.intro @List.map_nil.{0,0} @allow_no)) (And.intro (And.intro @allow_lt @argEnv_0) (And.intro @argEnv_1 @argEnv_2)))) (And.intro (And.intro (And.intro (And.intro @argEnv_3 @argEnv_4) (And.intro @argEnv_5 @res_1)) (And.intro (And.intro @res_2 @retQ_nrm) (And.intro @retQ_ret @o_mv))) (And.intro (And.intro (And.intro @o_pick @vPick_t) (And.intro @vPick_f @o_new)) (And.intro (And.intro @o_box @vBox_S) (And.intro @boxD_ok @vMap_some)))))) (And.intro (And.intro (And.intro (And.intro (And.intro @vMapL_some (And.intro @o_build @o_ld)) (And.intro (And.intro @vLd_ptr @vLd_S) (And.intro @ldS_ok @selB_true))) (And.intro (And.intro (And.intro @o_st @vSt_S) (And.intro @stS_ok @stD_ok)) (And.intro (And.intro @o_nilck @vNil_ptr) (And.intro @vNil_mp @vNil_fn)))) (And.intro (And.intro (And.intro (And.intro @o_bin @o_un) (And.intro @o_mkfn @o_fa)) (And.intro (And.intro @vFa_mp @vFa_S) (And.intro @faD_ok @o_fld))) (And.intro (And.intro (And.intro @vFld_agg @o_ia) (And.intro @vIa_sl @vIa_ms)) (And.intro (And.intro @o_iaa @vIaa_ptr) (And.intro @vIaa_mp @o_len))))) (And.intro (And.intro (And.intro (And.intro @vLen_sl (And.intro @vLen_ms @o_mx)) (And.intro (And.intro @o_mn @vMx_i) (And.intro @vMn_i @o_ext))) (And.intro (And.intro (And.intro @vExt_tup @b_add) (And.intro @b_sub @b_mul)) (And.intro (And.intro @b_lss @b_leq) (And.intro @b_gtr @b_geq)))) (And.intro (And.intro (And.intro (And.intro @b_eql @b_neq) (And.intro @o_pure @List.nil_append.{0})) (And.intro (And.intro @List.append_nil.{0} @List.cons_append.{0}) (And.intro @frz_d_i @frz_d_b))) (And.intro (And.intro (And.intro @frz_d_s @frz_d_nilp) (And.intro @frz_d_ptr @frz_d_sl)) (And.intro (And.intro @frz_d_fn0 @Bool.not_true) (And.intro @Bool.not_false @Bool.true_and))))))) (And.intro (And.intro (And.intro (And.intro (And.intro (And.intro @Bool.and_true (And.intro @Bool.false_and @Bool.and_false)) (And.intro (And.intro @decide_true @decide_false) (And.intro @beq_self_eq_true.{0} @Bool.true_eq_false))) (And.intro (And.intro (And.intro @Bool.false_eq_true @Nat.zero_add) (And.intro @Nat.add_zero @Int.toNat_natCast)) (And.intro (And.intro @ge_iff_le.{0} @gt_iff_lt.{0}) (And.intro @fill_S @fillD_ok)))) (And.intro (And.intro (And.intro (And.intro @fill_nil @cellsOf_agg) (And.intro @cellsOf_i @cellsOf_b)) (And.intro (And.intro @cellsOf_s @cellsOf_ptr) (And.intro @cellsOf_nilp @cellsOf_sl))) (And.intro (And.intro (And.intro @cellsOf_mp @cellsOf_fn) (And.intro @one_i @one_b)) (And.intro (And.intro @one_s @one_ptr) (And.intro @one_nilp @one_sl))))) (And.intro (And.intro (And.intro (And.intro @one_mp (And.intro @one_fn @List.all_cons.{0})) (And.intro (And.intro @List.all_nil.{0} @splice_1) (And.intro @splice_2 @splice_3))) (And.intro (And.intro (And.intro @part_0 @part_1) (And.intro @part_2 @drop_0)) (And.intro (And.intro @g0_nx @g0_hp) (And.intro @List.set_cons_zero.{0} @List.set_cons_succ.{0})))) (And.intro (And.intro (And.intro (And.intro @List.length_append.{0} @List.length_replicate.{0}) (And.intro @eq_self.{1} @true_and)) (And.intro (And.intro @and_true @vPure_S) (And.intro @purS_some @purD_some))) (And.intro (And.intro (And.intro @purE_true @frzL_cons) (And.intro @frzL_nil @consO_ok)) (And.intro (And.intro @flat_i @flat_b) (And.intro @flat_s @flat_nilp)))))) (And.intro (And.intro (And.intro (And.intro (And.intro @flat_ptr (And.intro @flat_sl @flat_agg)) (And.intro (And.intro @flat_tup @vis_i) (And.intro @vis_b @vis_s))) (And.intro (And.intro (And.intro @vis_nilp @vis_ptr) (And.intro @vis_sl @vis_fn0)) (And.intro (And.intro @List.flatMap_cons.{0,0} @List.flatMap_nil.{0,0}) (And.intro @isEmpty_nil @Bool.true_or)))) (And.intro (And.intro (And.intro (And.intro @Bool.false_or @Bool.or_true) (And.intro @Bool.or_false @frz_P)) (And.intro (And.intro @frz_Q @frzP_cells) (And.intro @frzB_true @map_some'))) (And.intro (And.intro (And.intro @rd_S @o_bsl) (And.intro @vBsl_t @vBsl_f)) (And.intro (And.intro @o_app @appD_ok) (And.intro @vApp_rig @vApp_rig0))))) (And.intro (And.intro (And.intro (And.intro @appK_ok (And.intro @vApp_own @o_eqn)) (And.intro (And.intro @o_eqb @o_eqa) (And.intro @aeqn_pn @aeqn_np))) (And.intro (And.intro (And.intro @aeqn_mn @aeqn_nn) (And.intro @aeqb_bb @negb_t)) (And.intro (And.intro @negb_f @aun_not) (And.intro @midQ_nrm @part_3)))) (And.intro (And.intro (And.intro (And.intro @part_4 @part_5) (And.intro @cellsOf_ms @one_ms)) (And.intro (And.intro @Int.toNat_zero @Nat.zero_mul) (And.intro @o_stL @andLe_ok))) (And.intro (And.intro (And.intro @allow_hd @allow_h2) (And.intro @retB_nrm @retB_ret)) (And.intro (And.intro @midR_nrm @midR_ret) (And.intro @W_scp @W_lab))))))))
end Go.Ab
end
section
set_option linter.unusedVariables false
set_option linter.unusedSimpArgs false
namespace Go.Ab
open Go.RowKit
def c0 (num:Nat→Nat) (w:World):Cx:=⟨num,w.heap.size,fun _ => True,w,fun _ => (0,0),fun _ => none⟩
theorem row_calls {P:Program} {num:Nat→Nat} {F:Funs} (hT:Table P num F) (hm:P.follows .mixedOrders = true) {f:Nat} {asx:List AV} {b:Bool} (h:pureS F f asx = some (.b b)) {w:World} {vargs:List Value} (hr:Reps (c0 num w) true asx vargs):
  Calls P (num f) vargs.toArray w (fun e w' => e = .returned (.bool b)∧Below w.heap.size w w'):=by
 obtain ⟨k,g',hk⟩:=pureS_bool h
 have K:Ok (c0 num w) 0:={
  basele:=Nat.le_refl _
  cells:=fun _ _ _ h => by cases h
  maps:=fun _ _ h => by cases h
  toks:=fun _ h => by cases h
  inj:=fun _ _ _ h => by obtain ⟨_,h,_⟩:=h;cases h
  fresh:=fun _ _ => rfl }
 have:=((callE_ok hT hm k).2 f asx g0 _ _ hk).2 (c0 num w) vargs rfl rfl K hr
 refine Calls.mono this.1 fun e w' ⟨val,c',h1,h2,E,_,_,hrep⟩ => ?_
 cases hrep
 exact ⟨h1,h2 ▸ E.below⟩
def intsC (l:List Int):List AV:=l.map fun v => .i .i64 v
def pairsC (l:List (Int × Int)):List AV:=l.flatMap fun p => [.i .i64 p.1,.i .i64 p.2]
theorem sh_ints {P:Program} {t e:TypeId} {x:AV} (ht:P.underlying t = some (.slice e)) (he:P.underlying e = some (.int .i64)) (h:Sh P 2 t [x]):
  ∃ l:List Int,x = .sl (intsC l) l.length .non∧l.length≤maxLen∧∀ n∈l,(Lit.int .i64 n).wf = true:=by
 simp only[Sh,ht,he] at h
 obtain ⟨cs,n,hx,hn,rows,hl,rfl,hS⟩:=h
 cases hx
 have key:∀ rows:List (List AV),(∀ r∈rows,∃ n,r = [AV.i .i64 n]∧(Lit.int .i64 n).wf = true)→∃ l:List Int,rows.flatten = intsC l∧l.length = rows.length∧∀ n∈l,(Lit.int .i64 n).wf = true:=by
  intro rows
  induction rows with
  | nil => intro _;exact ⟨[],rfl,rfl,fun _ h => by cases h⟩
  | cons r rows ih =>
    intro h
    obtain ⟨n,rfl,hn⟩:=h r (List.mem_cons_self ..)
    obtain ⟨l,h1,h2,h3⟩:=ih fun r hr => h r (List.mem_cons_of_mem _ hr)
    refine ⟨n :: l,by rw[List.flatten_cons,h1];rfl,by simp[h2],fun m hm => ?_⟩
    rcases List.mem_cons.1 hm with rfl | hm
    ·exact hn
    ·exact h3 m hm
 obtain ⟨l,h1,h2,h3⟩:=key rows hS
 exact ⟨l,by rw[h1,←hl,h2],by omega,h3⟩
end Go.Ab
end
section
set_option linter.unusedVariables false
set_option linter.unusedSimpArgs false
namespace Go.Ab
abbrev Rw:=Nat→BitVec 64
def U (x:BitVec 64):AV:=.i .u64 (x.toNat:Int)
def rowsC (R:Rw):List AV:=(List.range 40).map fun a => U (R a)
def relC (n:Nat) (R:Rw):List AV:=.i .i64 n :: rowsC R
theorem rowsC_len (R:Rw):(rowsC R).length = 40:=by simp[rowsC]
theorem relC_len (n:Nat) (R:Rw):(relC n R).length = 41:=by simp[relC,rowsC_len]
theorem rowsC_get {R:Rw} {a:Nat} (h:a < 40):(rowsC R)[a]? = some (U (R a)):=by
 simp[rowsC,h]
theorem relC_n (n:Nat) (R:Rw):part (relC n R) 0 none = some (.i .i64 n):=rfl
theorem relC_row {n:Nat} {R:Rw} {a:Nat} (h:a < 40):part (relC n R) (0 + 1 + a * 1) none = some (U (R a)):=by
 rw[show 0 + 1 + a * 1 = a + 1 by omega]
 simp only[part,relC,List.getElem?_cons_succ,rowsC_get h]
theorem relC_drop1 (n:Nat) (R:Rw):(relC n R).drop 1 = rowsC R:=rfl
theorem relC_row' {R:Rw} {a:Nat} (h:a < 40):part ((rowsC R).drop (a * 1)) 0 none = some (U (R a)):=by
 simp only[part,List.getElem?_drop,Nat.mul_one,Nat.add_zero,rowsC_get h]
theorem relC_set {n:Nat} {R:Rw} {a:Nat} {x:BitVec 64} (h:a < 40):splice (relC n R) (0 + 1 + a * 1) [U x] = relC n (upd R a x):=by
 rw[show 0 + 1 + a * 1 = a + 1 by omega]
 show (relC n R).set (a + 1) (U x) = _
 simp only[relC,List.set_cons_succ]
 congr 1
 refine List.ext_getElem? fun i => ?_
 rw[List.getElem?_set]
 by_cases hi:i < 40
 ·rw[rowsC_get hi]
  by_cases ha:a = i
  ·subst ha
   rw[if_pos rfl,if_pos (by rw[rowsC_len];exact h),rowsC_get hi,upd_same]
  ·have:i≠a:=fun h => ha h.symm
   rw[if_neg ha,rowsC_get hi,upd_ne _ _ this]
 ·have h1:(rowsC R)[i]? = none:=by rw[List.getElem?_eq_none];rw[rowsC_len];omega
  have h2:(rowsC (upd R a x))[i]? = none:=by rw[List.getElem?_eq_none];rw[rowsC_len];omega
  rw[h2,h1]
  have:a≠i:=by omega
  simp[this]
theorem relC_set' {n:Nat} {R:Rw} {a:Nat} {x:BitVec 64} (h:a < 40):(relC n R).set (0 + 1 + a * 1) (U x) = relC n (upd R a x):=relC_set h
theorem cellsOf_U (x:BitVec 64):cellsOf (U x) = [U x]:=rfl
theorem one_U (x:BitVec 64):one (U x) = true:=rfl
theorem relC_flat (n:Nat) (R:Rw):(relC n R).all flat = true:=by
 simp[relC,rowsC,U,flat]
theorem relC_one (n:Nat) (R:Rw):(relC n R).all one = true:=by
 simp[relC,rowsC,U,one]
def bit (b:Nat):BitVec 64:=1#64 <<< b
theorem u64_wrap {x:Nat} (h:x < 2 ^ 64):IntKind.u64.wrap (x:Int) = x:=by
 simp[IntKind.wrap,IntKind.bits,IntKind.signed,IntKind.min,IntKind.max]
 omega
theorem ofU (x:BitVec 64):BitVec.ofInt IntKind.u64.bits (x.toNat:Int) = x:=by
 show BitVec.ofInt 64 _ = _
 apply BitVec.eq_of_toNat_eq
 simp
theorem u_or (x y:BitVec 64):abin .or (U x) (U y) = some (U (x ||| y)):=by
 simp only[abin,U,ibin,if_true,ofU]
 show some (AV.i .u64 (IntKind.u64.wrap (((x ||| y:BitVec 64).toNat:Nat):Int))) = _
 rw[u64_wrap (x ||| y:BitVec 64).isLt]
theorem u_and (x y:BitVec 64):abin .and (U x) (U y) = some (U (x &&& y)):=by
 simp only[abin,U,ibin,if_true,ofU]
 show some (AV.i .u64 (IntKind.u64.wrap (((x &&& y:BitVec 64).toNat:Nat):Int))) = _
 rw[u64_wrap (x &&& y:BitVec 64).isLt]
theorem u_andNot (x y:BitVec 64):abin .andNot (U x) (U y) = some (U (x &&& ~~~ y)):=by
 simp only[abin,U,ibin,if_true,ofU]
 show some (AV.i .u64 (IntKind.u64.wrap (((x &&& ~~~ y:BitVec 64).toNat:Nat):Int))) = _
 rw[u64_wrap (x &&& ~~~ y:BitVec 64).isLt]
theorem u_shl {b:Int} (h0:0≤b) (h:b < 40):abin .shl (.i .u64 1) (.i .i64 b) = some (U (bit b.toNat)):=by
 obtain ⟨k,rfl⟩:∃ k:Nat,b = k:=⟨b.toNat,by omega⟩
 have hk:k < 40:=by omega
 simp only[abin,ishift]
 rw[if_neg (by omega)]
 rw[show min ((k:Int)).toNat IntKind.u64.bits = k by show min k 64 = k;omega]
 have h2:(2 ^ k:Nat) < 2 ^ 64:=Nat.pow_lt_pow_right (by omega) (by omega)
 have:(1:Int) * 2 ^ k = ((2 ^ k:Nat):Int):=by simp
 rw[this,u64_wrap h2]
 simp only[U,bit,Int.toNat_natCast,BitVec.toNat_shiftLeft,Nat.shiftLeft_eq]
 congr 2
 rw[show (1#64).toNat = 1 from rfl,Nat.one_mul,Nat.mod_eq_of_lt h2]
theorem u_test {x:BitVec 64} {b:Int} (h0:0≤b) (h:b < 40):∃ y:BitVec 64,abin .shr (U x) (.i .i64 b) = some (U y)∧abin .and (U y) (.i .u64 1) = some (U (y &&& 1#64))∧abin .neq (U (y &&& 1#64)) (.i .u64 0) = some (.b (x.getLsbD b.toNat)):=by
 obtain ⟨k,rfl⟩:∃ k:Nat,b = k:=⟨b.toNat,by omega⟩
 have hk:k < 40:=by omega
 refine ⟨x >>> k,?_,u_and _ 1#64,?_⟩
 ·simp only[abin,ishift,U]
  rw[if_neg (by omega)]
  rw[show min ((k:Int)).toNat IntKind.u64.bits = k by show min k 64 = k;omega]
  simp only[BitVec.toNat_ushiftRight,Nat.shiftRight_eq_div_pow]
  congr 2
  have:(2:Int) ^ k = ((2 ^ k:Nat):Int):=by simp
  rw[this,Int.fdiv_eq_ediv_of_nonneg _ (Int.natCast_nonneg _)]
  norm_cast
 ·rw[show (AV.i .u64 0) = U 0#64 from rfl]
  simp only[U,b_neq]
  congr 2
  simp only[Int.toNat_natCast]
  have key:((x >>> k) &&& 1#64).toNat = if x.getLsbD k then 1 else 0:=by
   rw[BitVec.toNat_and,BitVec.toNat_ushiftRight]
   simp[Nat.and_one_is_mod,BitVec.getLsbD,Nat.testBit,Nat.and_comm]
   split<;>omega
  rw[key]
  split<;>simp_all
theorem splice_rel (n:Nat) (R:Rw):splice (.i .i64 0 :: List.replicate 40 (.i .u64 0)) 0 (relC n R) = relC n R:=by
 have h:∀ (cs vs:List AV) (a b:AV),vs.length = cs.length→splice (a :: cs) 0 (b :: vs) = b :: vs:=by
  intro cs vs a b h
  cases vs with
  | nil => cases cs<;>first | rfl | simp at h
  | cons v vs =>
    show [] ++ (b :: v :: vs) ++ List.drop (0 + (b :: v :: vs).length) (a :: cs) = _
    rw[List.drop_eq_nil_of_le (by simp at h ⊢;omega)]
    simp
 exact h _ _ _ _ (by simp[rowsC_len])
theorem part_rel (n:Nat) (R:Rw):part (relC n R) 0 (some 41) = some (.agg (relC n R)):=by
 simp[part,relC_len]
 rw[List.take_of_length_le (by rw[relC_len];omega)]
theorem frz_U (hp x):frz hp depth (U x) = some (U x):=frz_d_i hp .u64 _
theorem flat_U (x):flat (U x) = true:=rfl
theorem vis_U (hp x):vis hp depth (U x) = []:=vis_i hp .u64 _
theorem relC_congr {n:Nat} {R S:Rw} (h:∀ a,a < 40→R a = S a):relC n R = relC n S:=by
 unfold relC rowsC
 congr 1
 exact List.map_congr_left fun a ha => by rw[h a (List.mem_range.1 ha)]
theorem part_rows (R:Rw):part (rowsC R) 0 (some 40) = some (.agg (rowsC R)):=by
 simp[part,rowsC_len]
 rw[List.take_of_length_le (by rw[rowsC_len];omega)]
theorem cellsEq_U:∀ l:List (BitVec 64),cellsEq (List.replicate l.length 0) (l.map U) (List.replicate l.length (.i .u64 0)) = some (l.all (· == 0#64))
 | [] => rfl
 | x :: l => by
   simp only[List.length_cons,List.replicate_succ,List.map_cons,cellsEq,cellsEq_U l,List.all_cons]
   show (match cellEq 0 (U x) (.i .u64 0),some (l.all (· == 0#64)) with | some a,some b => some (a && b) | _,_ => none) = _
   have:cellEq 0 (U x) (.i .u64 0) = some (x == 0#64):=by
    simp only[U,cellEq,if_true]
    congr 1
    by_cases h:x = 0#64
    ·subst h;rfl
    ·have:x.toNat≠0:=fun h' => h (BitVec.eq_of_toNat_eq (by simpa using h'))
     rw[Bool.eq_iff_iff]
     simp[h];omega
   rw[this]
def noneR (R:Rw):Bool:=(List.range 40).all fun a => R a == 0#64
theorem eqa_rows (R:Rw):aeqa (List.replicate 40 0) (.agg (rowsC R)) (.agg (List.replicate 40 (.i .u64 0))) = some (noneR R):=by
 have:=cellsEq_U ((List.range 40).map R)
 simp only[List.length_map,List.length_range,List.map_map] at this
 show cellsEq _ _ _ = _
 unfold rowsC noneR
 rw[show (fun a => U (R a)) = U ∘ R from rfl,this,List.all_map]
 rfl
theorem rl:type_of% (And.intro (And.intro (And.intro (And.intro @relC_n @relC_row) (And.intro @relC_row' (And.intro @relC_drop1 @relC_len))) (And.intro (And.intro @rowsC_len (And.intro @relC_one @relC_flat)) (And.intro @cellsOf_U (And.intro @one_U @frz_U)))) (And.intro (And.intro (And.intro @flat_U @vis_U) (And.intro @relC_set' (And.intro @u_shl @u_or))) (And.intro (And.intro @u_and (And.intro @u_andNot @part_rel)) (And.intro @splice_rel (And.intro @part_rows @eqa_rows))))):=(And.intro (And.intro (And.intro (And.intro @relC_n @relC_row) (And.intro @relC_row' (And.intro @relC_drop1 @relC_len))) (And.intro (And.intro @rowsC_len (And.intro @relC_one @relC_flat)) (And.intro @cellsOf_U (And.intro @one_U @frz_U)))) (And.intro (And.intro (And.intro @flat_U @vis_U) (And.intro @relC_set' (And.intro @u_shl @u_or))) (And.intro (And.intro @u_and (And.intro @u_andNot @part_rel)) (And.intro @splice_rel (And.intro @part_rows @eqa_rows)))))
end Go.Ab
end
section
set_option linter.unusedVariables false
set_option linter.unusedSimpArgs false
namespace Go.Ab
variable {F:Funs}
def has (n:Nat) (R:Rw) (a b:Int):Bool:=decide (0≤a∧a < n∧0≤b∧b < n) && (R a.toNat).getLsbD b.toNat
theorem sp_has (pk:Pk_rel F) {n:Nat} (hn:n≤40) (R:Rw) (a b:Int):pureS F 13 [.ptr (relC n R),.i .i64 a,.i .i64 b] = some (.b (has n R a b)):=by
 refine pure_of pk.rel_Rel_Has ?_
 have hl:=relC_len n R
 by_cases h1:0≤a
 ·by_cases h2:a < n
  ·by_cases h3:0≤b
   ·by_cases h4:b < n
    ·obtain ⟨y,hy1,hy2,hy3⟩:=u_test (x:=R a.toNat) h3 (by omega)
     have h5:(0:Int)≤a:=h1
     simp (disch:=omega) only[A_rel_Rel_Has,wp,qa,qb,qc,h1,h2,h3,h4,hl,drop_0,relC_n,relC_drop1,relC_row',hy1,hy2,hy3]
     simp[has,h1,h2,h3,h4]
    ·simp (disch:=omega) only[A_rel_Rel_Has,wp,qa,qb,qc,h1,h2,h3,h4,hl,drop_0,relC_n]
     simp[has,h4]
   ·simp (disch:=omega) only[A_rel_Rel_Has,wp,qa,qb,qc,h1,h2,h3,hl,drop_0,relC_n]
    simp[has,h3]
  ·simp (disch:=omega) only[A_rel_Rel_Has,wp,qa,qb,qc,h1,h2,hl,drop_0,relC_n]
   simp[has,h2]
 ·simp (disch:=omega) only[A_rel_Rel_Has,wp,qa,qb,qc,h1,hl,drop_0,relC_n]
  simp[has,h1]
end Go.Ab
end
section
set_option linter.unusedVariables false
set_option linter.unusedSimpArgs false
namespace Go.Ab
variable {F:Funs}
theorem pairsC_len (l:List (Int × Int)):(pairsC l).length = l.length * 2:=by
 induction l with
 | nil => rfl
 | cons p l ih => simp only[pairsC,List.flatMap_cons,List.length_append,List.length_cons,List.length_nil] at ih ⊢;omega
theorem pairs_part:∀ {l:List (Int × Int)} {k:Nat} (h:k < l.length),part ((pairsC l).drop (k * 2)) 0 (some 2) = some (.agg [.i .i64 (l.getD k (0,0)).1,.i .i64 (l.getD k (0,0)).2])
 | p :: l,0,_ => by simp[pairsC,part]
 | p :: l,k + 1,h => by
   have:=pairs_part (l:=l) (k:=k) (by simpa using h)
   simp only[List.getD_cons_succ]
   rw[←this]
   simp[pairsC,Nat.succ_mul]
def inR (n:Nat) (p:Int × Int):Bool:=decide (0≤p.1∧p.1 < n∧0≤p.2∧p.2 < n)
def addR (n:Nat) (R:Rw) (p:Int × Int):Rw:=if inR n p then upd R p.1.toNat (R p.1.toNat ||| bit p.2.toNat) else R
def newR (n:Nat) (l:List (Int × Int)):Rw:=l.foldl (addR n) (fun _ => 0)
def clamp (n:Int):Nat:=(max 0 (min n 40)).toNat
theorem clamp_le (n:Int):clamp n≤40:=by unfold clamp;omega
theorem newR_take {n:Nat} {l:List (Int × Int)} {k:Nat} (h:k < l.length):newR n (l.take (k + 1)) = addR n (newR n (l.take k)) (l.getD k (0,0)):=by
 unfold newR
 rw[List.take_add_one,List.foldl_append,List.getElem?_eq_getElem h,List.getD_eq_getElem?_getD,List.getElem?_eq_getElem h]
 rfl
theorem i64_wrap {x:Int} (h:-9223372036854775808≤x) (h2:x≤9223372036854775807):IntKind.i64.wrap x = x:=by
 simp[IntKind.wrap,IntKind.bits,IntKind.signed,IntKind.min,IntKind.max]
 omega
theorem sp_new (pk:Pk_rel F) (n:Int) (l:List (Int × Int)) (t:Tok) (hlen:l.length < 9000000000000000000):pureS F 11 [.i .i64 n,.sl (pairsC l) l.length t] = some (.ptr (relC (clamp n) (newR (clamp n) l))):=by
 refine pure_of pk.rel_New ?_
 have hc:(if (40:Int) < n then (40:Int) else n) = min n 40:=by split<;>omega
 have hc0:(if (0:Int) < min n 40 then min n 40 else 0) = clamp n:=by unfold clamp;split<;>omega
 have hz:AV.i .i64 (clamp n) :: List.replicate 40 (.i .u64 0) = relC (clamp n) (fun _ => 0):=rfl
 simp (disch:=omega) only[A_rel_New,wp,qa,qb,qc,hc,hc0,hz,relC_one,List.all_append,List.all_replicate]
 refine W_loop (fun m e g => ∃ k,m = l.length - k∧k≤l.length∧e 13 = .sl (pairsC l) l.length t∧e 14 = .i .i64 l.length∧e 15 = .i .i64 k∧e 5 = .mp 5 0∧g.hp 5 = some (.cells (relC (clamp n) (newR (clamp n) (l.take k))) false)∧5 < g.nx) l.length ?_ ?_
 ·refine ⟨0,rfl,Nat.zero_le _,?_⟩
  simp (disch:=omega) only[wp,qa,qb,qc]
  exact ⟨rfl,rfl,by omega⟩
 ·rintro m e g ⟨k,rfl,hk,h13,h14,h15,h5,hg,hn⟩
  have hcl:=clamp_le n
  by_cases hk':k < l.length
  ·have hk1:(k:Int) < l.length:=by omega
   have hp:=pairs_part hk'
   have hw:IntKind.i64.wrap ((k:Int) + 1) = ((k + 1:Nat):Int):=by rw[i64_wrap (by omega) (by omega)];omega
   have ht:=newR_take (n:=clamp n) hk'
   have n1:5≠g.nx + 1 + 2:=by omega
   have n2:g.nx + 1 + 2≠5:=by omega
   generalize l.getD k (0,0) = p at hp ht
   obtain ⟨a,b⟩:=p
   by_cases h1:0≤a
   ·by_cases h2:a < clamp n
    ·by_cases h3:0≤b
     ·by_cases h4:b < clamp n
      ·simp (disch:=omega) only[wp,qa,qb,qc,h13,h14,h15,h5,hk1,hp,hg,h1,h2,h3,h4,hw,relC_n,relC_row,u_shl,u_or,relC_len,cellsOf_U,one_U,relC_set']
       refine ⟨_,?_,k + 1,rfl,by omega,rfl,?_,by show 5 < _;omega⟩
       ·omega
       ·rw[ht]
        simp[addR,inR,h1,h2,h3,h4]
      ·simp (disch:=omega) only[wp,qa,qb,qc,h13,h14,h15,h5,hk1,hp,hg,h1,h2,h3,h4,hw,relC_n]
       refine ⟨_,?_,k + 1,rfl,by omega,rfl,?_,by show 5 < _;omega⟩
       ·omega
       ·rw[ht]
        simp[addR,inR,h4]
     ·simp (disch:=omega) only[wp,qa,qb,qc,h13,h14,h15,h5,hk1,hp,hg,h1,h2,h3,hw,relC_n]
      refine ⟨_,?_,k + 1,rfl,by omega,rfl,?_,by show 5 < _;omega⟩
      ·omega
      ·rw[ht]
       simp[addR,inR,h3]
    ·simp (disch:=omega) only[wp,qa,qb,qc,h13,h14,h15,h5,hk1,hp,hg,h1,h2,hw,relC_n]
     refine ⟨_,?_,k + 1,rfl,by omega,rfl,?_,by show 5 < _;omega⟩
     ·omega
     ·rw[ht]
      simp[addR,inR,h2]
   ·simp (disch:=omega) only[wp,qa,qb,qc,h13,h14,h15,h5,hk1,hp,hg,h1,hw,relC_n]
    refine ⟨_,?_,k + 1,rfl,by omega,rfl,?_,by show 5 < _;omega⟩
    ·omega
    ·rw[ht]
     simp[addR,inR,h1]
  ·have:k = l.length:=by omega
   subst this
   have hk1:¬ ((l.length:Int) < l.length):=by omega
   simp (disch:=omega) only[wp,qa,qb,qc,h13,h14,h15,h5,hk1,hg,relC_flat,List.take_length]
end Go.Ab
end
section
set_option linter.unusedVariables false
set_option linter.unusedSimpArgs false
namespace Go.Ab
variable {F:Funs}
theorem succ_wrap {k:Nat} (h:k < 9000000000000000000):IntKind.i64.wrap ((k:Int) + 1) = ((k + 1:Nat):Int):=by rw[i64_wrap (by omega) (by omega)];omega
def stepP (n b:Nat) (R:Rw) (a:Nat):Rw:=if has n R a b then upd R a (R a ||| R b) else R
def rowP (n b k:Nat) (R:Rw):Rw:=(List.range k).foldl (stepP n b) R
def plusK (n k:Nat) (R:Rw):Rw:=(List.range k).foldl (fun R b => rowP n b n R) R
def plusR (n:Nat) (R:Rw):Rw:=plusK n n R
theorem rowP_succ (n b k R):rowP n b (k + 1) R = stepP n b (rowP n b k R) k:=by simp[rowP,List.range_succ]
theorem plusK_succ (n k R):plusK n (k + 1) R = rowP n k n (plusK n k R):=by simp[plusK,List.range_succ]
theorem sp_plus (pk:Pk_rel F) {n:Nat} (hn:n≤40) (R:Rw):pureS F 12 [.ptr (relC n R)] = some (.ptr (relC n (plusR n R))):=by
 refine pure_of pk.rel_Rel_Plus ?_
 simp (disch:=omega) only[A_rel_Rel_Plus,wp,qa,qb,qc,rl]
 refine W_loop (fun m e g => ∃ k,m = n - k∧k≤n∧e 0 = .ptr (relC n R)∧e 12 = .i .i64 n∧e 13 = .i .i64 k∧e 3 = .mp 4 0∧g.hp 4 = some (.cells (relC n (plusK n k R)) false)∧4 < g.nx) n ?_ ?_
 ·refine ⟨0,rfl,Nat.zero_le _,?_⟩
  simp (disch:=omega) only[wp,qa,qb,qc]
  exact ⟨rfl,rfl,by omega⟩
 ·rintro m e g ⟨k,rfl,hk,h0,h12,h13,h3,hg,hnx⟩
  by_cases hk':k < n
  ·have hk1:(k:Int) < n:=by omega
   have hw:=succ_wrap (k:=k) (by omega)
   simp (disch:=omega) only[wp,qa,qb,qc,h0,h12,h13,h3,hk1,rl]
   refine W_loop (fun m e g => ∃ j,m = n - j∧j≤n∧e 0 = .ptr (relC n R)∧e 12 = .i .i64 n∧e 13 = .i .i64 k∧e 3 = .mp 4 0∧e 4 = .i .i64 k∧e 19 = .i .i64 n∧e 20 = .i .i64 j∧g.hp 4 = some (.cells (relC n (rowP n k j (plusK n k R))) false)∧4 < g.nx) n ?_ ?_
   ·refine ⟨0,rfl,Nat.zero_le _,?_⟩
    simp (disch:=omega) only[wp,qa,qb,qc,h0,h12,h13,h3,hg]
    exact ⟨rfl,rfl,by omega⟩
   ·rintro m e g ⟨j,rfl,hj,h0,h12,h13,h3,h4,h19,h20,hg,hnx⟩
    by_cases hj':j < n
    ·have hj1:(j:Int) < n:=by omega
     have hwj:=succ_wrap (k:=j) (by omega)
     by_cases hh:has n (rowP n k j (plusK n k R)) j k = true
     ·simp (disch:=omega) only[wp,qa,qb,qc,h0,h12,h13,h3,h4,h19,h20,hj1,hg,rl,sp_has pk hn,hh,hwj]
      refine ⟨_,?_,j + 1,rfl,by omega,rfl,?_,by show 4 < _;omega⟩
      ·omega
      ·rw[rowP_succ,stepP,if_pos hh]
     ·simp (disch:=omega) only[wp,qa,qb,qc,h0,h12,h13,h3,h4,h19,h20,hj1,hg,rl,sp_has pk hn,hh,hwj]
      refine ⟨_,?_,j + 1,rfl,by omega,rfl,?_,by show 4 < _;omega⟩
      ·omega
      ·rw[rowP_succ,stepP,if_neg hh]
    ·obtain rfl:j = n:=by omega
     have hj1:¬ ((j:Int) < j):=by omega
     simp (disch:=omega) only[wp,qa,qb,qc,h0,h12,h13,h3,h4,h19,h20,hj1,hg,hw]
     refine ⟨_,?_,k + 1,rfl,by omega,rfl,?_,by show 4 < _;omega⟩
     ·omega
     ·rw[plusK_succ]
  ·obtain rfl:k = n:=by omega
   have hk1:¬ ((k:Int) < k):=by omega
   simp (disch:=omega) only[wp,qa,qb,qc,h0,h12,h13,h3,hk1,hg,rl]
   rfl
end Go.Ab
end
section
set_option linter.unusedVariables false
set_option linter.unusedSimpArgs false
namespace Go.Ab
variable {F:Funs}
def maybeK (k:Nat) (R:Rw):Rw:=(List.range k).foldl (fun R a => upd R a (R a ||| bit a)) R
theorem maybeK_succ (k R):maybeK (k + 1) R = upd (maybeK k R) k (maybeK k R k ||| bit k):=by simp[maybeK,List.range_succ]
theorem sp_maybe (pk:Pk_rel F) {n:Nat} (hn:n≤40) (R:Rw):pureS F 16 [.ptr (relC n R)] = some (.ptr (relC n (maybeK n R))):=by
 refine pure_of pk.rel_Rel_Maybe ?_
 simp (disch:=omega) only[A_rel_Rel_Maybe,wp,qa,qb,qc,rl]
 refine W_loop (fun m e g => ∃ k,m = n - k∧k≤n∧e 11 = .i .i64 n∧e 12 = .i .i64 k∧e 3 = .mp 4 0∧g.hp 4 = some (.cells (relC n (maybeK k R)) false)∧4 < g.nx) n ?_ ?_
 ·refine ⟨0,rfl,Nat.zero_le _,?_⟩
  simp (disch:=omega) only[wp,qa,qb,qc]
  exact ⟨rfl,rfl,by omega⟩
 ·rintro m e g ⟨k,rfl,hk,h11,h12,h3,hg,hnx⟩
  by_cases hk':k < n
  ·have hk1:(k:Int) < n:=by omega
   have hw:=succ_wrap (k:=k) (by omega)
   simp (disch:=omega) only[wp,qa,qb,qc,h11,h12,h3,hk1,hg,rl,hw]
   refine ⟨_,?_,k + 1,rfl,by omega,rfl,?_,by show 4 < _;omega⟩
   ·omega
   ·rw[maybeK_succ]
  ·obtain rfl:k = n:=by omega
   have hk1:¬ ((k:Int) < k):=by omega
   simp (disch:=omega) only[wp,qa,qb,qc,h11,h12,h3,hk1,hg,rl]
def loopsR (n:Nat) (R:Rw):Bool:=(List.range n).any fun a => has n (plusR n R) a a
theorem sp_loops (pk:Pk_rel F) {n:Nat} (hn:n≤40) (R:Rw):pureS F 14 [.ptr (relC n R)] = some (.b (loopsR n R)):=by
 refine pure_of pk.rel_Rel_Loops ?_
 simp (disch:=omega) only[A_rel_Rel_Loops,wp,qa,qb,qc,rl,sp_plus pk hn]
 refine W_loop (fun m e g => ∃ k,m = n - k∧k≤n∧e 10 = .i .i64 n∧e 11 = .i .i64 k∧e 3 = .ptr (relC n (plusR n R))∧∀ a,a < k→has n (plusR n R) a a = false) n ?_ ?_
 ·refine ⟨0,rfl,Nat.zero_le _,?_⟩
  simp (disch:=omega) only[wp,qa,qb,qc]
  exact ⟨rfl,fun a ha => absurd ha (Nat.not_lt_zero _)⟩
 ·rintro m e g ⟨k,rfl,hk,h10,h11,h3,hall⟩
  by_cases hk':k < n
  ·have hk1:(k:Int) < n:=by omega
   have hw:=succ_wrap (k:=k) (by omega)
   by_cases hh:has n (plusR n R) k k = true
   ·simp (disch:=omega) only[wp,qa,qb,qc,h10,h11,h3,hk1,rl,hw,sp_has pk hn,hh]
    have:loopsR n R = true:=List.any_eq_true.2 ⟨k,List.mem_range.2 hk',hh⟩
    rw[this]
   ·simp (disch:=omega) only[wp,qa,qb,qc,h10,h11,h3,hk1,rl,hw,sp_has pk hn,hh]
    refine ⟨_,?_,k + 1,rfl,by omega,rfl,fun a ha => ?_⟩
    ·omega
    ·by_cases hak:a = k
     ·subst hak;simpa using hh
     ·exact hall a (by omega)
  ·obtain rfl:k = n:=by omega
   have hk1:¬ ((k:Int) < k):=by omega
   simp (disch:=omega) only[wp,qa,qb,qc,h10,h11,h3,hk1,rl]
   have:loopsR k R = false:=List.any_eq_false.2 fun a ha => by rw[hall a (List.mem_range.1 ha)];simp
   rw[this]
def rowPr (n:Nat) (R:Rw) (a j:Nat):List (Int × Int):=((List.range j).filter fun (b:Nat) => has n R a b).map fun (b:Nat) => ((a:Int),(b:Int))
def pairsK (n k:Nat) (R:Rw):List (Int × Int):=(List.range k).flatMap fun a => rowPr n R a n
def pairsR (n:Nat) (R:Rw):List (Int × Int):=pairsK n n R
theorem pairsK_succ (n k R):pairsK n (k + 1) R = pairsK n k R ++ rowPr n R k n:=by simp[pairsK,List.range_succ]
theorem rowPr_succ (n R a j):rowPr n R a (j + 1) = if has n R a j then rowPr n R a j ++ [((a:Int),(j:Int))] else rowPr n R a j:=by
 unfold rowPr
 rw[List.range_succ,List.filter_append,List.filter_cons]
 split<;>simp
def partL (n k j:Nat) (R:Rw):List (Int × Int):=pairsK n k R ++ rowPr n R k j
theorem partL_0 (n k R):partL n k 0 R = pairsK n k R:=by simp[partL,rowPr]
theorem partL_n (n k R):partL n k n R = pairsK n (k + 1) R:=(pairsK_succ n k R).symm
theorem partL_succ (n k j R):partL n k (j + 1) R = if has n R k j then partL n k j R ++ [((k:Int),(j:Int))] else partL n k j R:=by
 unfold partL
 rw[rowPr_succ];split<;>simp
theorem pairsC_app (l m:List (Int × Int)):pairsC (l ++ m) = pairsC l ++ pairsC m:=by simp[pairsC]
theorem pairsC_one (a b:Int):pairsC [(a,b)] = [.i .i64 a,.i .i64 b]:=rfl
def Live (g:G) (esz:Nat) (t:Tok):Prop:=t = .rig∨∃ τ,t = .own τ esz∧g.hp τ = some (.tok true)∧τ < g.nx
theorem sp_pairs (pk:Pk_rel F) {n:Nat} (hn:n≤40) (R:Rw):pureS F 15 [.ptr (relC n R)] = some (.sl (pairsC (pairsR n R)) (pairsR n R).length .non):=by
 refine pure_of pk.rel_Rel_Pairs ?_
 simp (disch:=omega) only[A_rel_Rel_Pairs,wp,qa,qb,qc,rl]
 refine W_loop (fun m e g => ∃ k t,m = n - k∧k≤n∧e 0 = .ptr (relC n R)∧e 9 = .i .i64 n∧e 10 = .i .i64 k∧e 3 = .sl (pairsC (pairsK n k R)) (pairsK n k R).length t∧Live g 2 t∧(pairsK n k R).length≤40 * k) n ?_ ?_
 ·refine ⟨0,.rig,rfl,Nat.zero_le _,?_⟩
  simp (disch:=omega) only[wp,qa,qb,qc]
  exact ⟨rfl,rfl,.inl rfl,Nat.zero_le _⟩
 ·rintro m e g ⟨k,t,rfl,hk,h0,h9,h10,h3,ht,hl⟩
  by_cases hk':k < n
  ·have hk1:(k:Int) < n:=by omega
   have hw:=succ_wrap (k:=k) (by omega)
   simp (disch:=omega) only[wp,qa,qb,qc,h0,h9,h10,h3,hk1,rl]
   refine W_loop (fun m e g => ∃ j t,m = n - j∧j≤n∧e 0 = .ptr (relC n R)∧e 9 = .i .i64 n∧e 10 = .i .i64 k∧e 4 = .i .i64 k∧e 16 = .i .i64 n∧e 17 = .i .i64 j∧e 3 = .sl (pairsC (partL n k j R)) (partL n k j R).length t∧Live g 2 t∧(partL n k j R).length≤40 * k + j) n ?_ ?_
   ·refine ⟨0,t,rfl,Nat.zero_le _,?_⟩
    simp (disch:=omega) only[wp,qa,qb,qc,h0,h9,h10,h3]
    rw[partL_0]
    refine ⟨rfl,rfl,?_,by omega⟩
    rcases ht with rfl | ⟨τ,rfl,hτ,hlt⟩
    ·exact .inl rfl
    ·exact .inr ⟨τ,rfl,hτ,Nat.lt_of_lt_of_le hlt (by dsimp only;omega)⟩
   ·rintro m e g ⟨j,t,rfl,hj,h0,h9,h10,h4,h16,h17,h3,ht,hl⟩
    have hLn:=partL_succ n k j R
    by_cases hj':j < n
    ·have hj1:(j:Int) < n:=by omega
     have hwj:=succ_wrap (k:=j) (by omega)
     by_cases hh:has n R k j = true
     ·rw[if_pos hh] at hLn
      rcases ht with rfl | ⟨τ,rfl,hτ,hlt⟩
      ·simp (disch:=omega) only[wp,qa,qb,qc,h0,h9,h10,h4,h16,h17,h3,hj1,rl,sp_has pk hn,hh,hwj,pairsC_len]
       refine ⟨n - (j + 1),?_,j + 1,?_⟩
       ·omega
       ·rw[hLn,pairsC_app,pairsC_one,List.length_append]
        exact ⟨_,rfl,by omega,rfl,rfl,.inr ⟨_,rfl,upd_same _ _ _,by dsimp only;omega⟩,by simp;omega⟩
      ·simp (disch:=omega) only[wp,qa,qb,qc,h0,h9,h10,h4,h16,h17,h3,hj1,rl,sp_has pk hn,hh,hwj,pairsC_len,hτ]
       refine ⟨n - (j + 1),?_,j + 1,?_⟩
       ·omega
       ·rw[hLn,pairsC_app,pairsC_one,List.length_append]
        exact ⟨_,rfl,by omega,rfl,rfl,.inr ⟨_,rfl,upd_same _ _ _,by dsimp only;omega⟩,by simp;omega⟩
     ·rw[if_neg hh] at hLn
      simp (disch:=omega) only[wp,qa,qb,qc,h0,h9,h10,h4,h16,h17,h3,hj1,rl,sp_has pk hn,hh,hwj]
      refine ⟨_,?_,j + 1,t,rfl,by omega,rfl,?_⟩
      ·omega
      ·rw[hLn]
       refine ⟨rfl,?_,by omega⟩
       rcases ht with rfl | ⟨τ,rfl,hτ,hlt⟩
       ·exact .inl rfl
       ·exact .inr ⟨τ,rfl,hτ,Nat.lt_of_lt_of_le hlt (by dsimp only;omega)⟩
    ·obtain rfl:j = n:=by omega
     have hj1:¬ ((j:Int) < j):=by omega
     simp (disch:=omega) only[wp,qa,qb,qc,h0,h9,h10,h4,h16,h17,h3,hj1,hw]
     refine ⟨_,?_,k + 1,t,rfl,by omega,rfl,?_⟩
     ·omega
     ·rw[←partL_n]
      refine ⟨rfl,?_,by omega⟩
      rcases ht with rfl | ⟨τ,rfl,hτ,hlt⟩
      ·exact .inl rfl
      ·exact .inr ⟨τ,rfl,hτ,Nat.lt_of_lt_of_le hlt (by dsimp only;omega)⟩
  ·obtain rfl:k = n:=by omega
   have hk1:¬ ((k:Int) < k):=by omega
   simp (disch:=omega) only[wp,qa,qb,qc,h0,h9,h10,h3,hk1,rl]
   rfl
end Go.Ab
end
section
set_option linter.unusedVariables false
set_option linter.unusedSimpArgs false
namespace Go.Ab
variable {F:Funs}
def byK (φ:BitVec 64→BitVec 64→BitVec 64) (R S:Rw) (k:Nat):Rw:=fun a => if a < k then φ (R a) (S a) else 0
theorem byK_succ (φ R S k):upd (byK φ R S k) k (φ (R k) (S k)) = byK φ R S (k + 1):=by
 funext a
 unfold upd byK
 by_cases h:a = k
 ·subst h;simp
 ·rw[if_neg h]
  by_cases h2:a < k
  ·rw[if_pos h2,if_pos (by omega)]
  ·rw[if_neg h2,if_neg (by omega)]
theorem maxI (n m:Nat):(if (n:Int) < m then (m:Int) else n) = ((max n m:Nat):Int):=by split<;>omega
theorem sp_by (pk:Pk_rel F) {n m:Nat} (hn:n≤40) (hm:m≤40) (R S:Rw) {fid:Nat} {φ:BitVec 64→BitVec 64→BitVec 64} (hφ:∀ x y,pureS F fid [U x,U y] = some (U (φ x y))):
  pureS F 51 [.ptr (relC n R),.ptr (relC m S),.fn fid [] []] = some (.ptr (relC (max n m) fun a => φ (R a) (S a))):=by
 refine pure_of pk.rel_Rel_by ?_
 have hz:AV.i .i64 (max n m:Nat) :: List.replicate 40 (.i .u64 0) = relC (max n m) (byK φ R S 0):=rfl
 simp (disch:=omega) only[A_rel_Rel_by,wp,qa,qb,qc,rl,maxI,hz,List.all_append,List.all_replicate]
 refine W_loop (fun q e g => ∃ k,q = 40 - k∧k≤40∧e 0 = .ptr (relC n R)∧e 1 = .ptr (relC m S)∧e 2 = .fn fid [] []∧e 20 = .i .i64 k∧e 7 = .mp 11 0∧g.hp 11 = some (.cells (relC (max n m) (byK φ R S k)) false)∧11 < g.nx) 40 ?_ ?_
 ·refine ⟨0,rfl,Nat.zero_le _,?_⟩
  simp (disch:=omega) only[wp,qa,qb,qc]
  exact ⟨rfl,by omega⟩
 ·rintro q e g ⟨k,rfl,hk,h0,h1,h2,h20,h7,hg,hnx⟩
  by_cases hk':k < 40
  ·have hk1:(k:Int) < 40:=by omega
   have hw:=succ_wrap (k:=k) (by omega)
   simp (disch:=omega) only[wp,qa,qb,qc,h0,h1,h2,h20,h7,hk1,hg,rl,hw,hφ,byK_succ]
   refine ⟨40 - (k + 1),?_,k + 1,rfl,by omega,rfl,rfl,by first | omega | (dsimp only;omega)⟩
   omega
  ·obtain rfl:k = 40:=by omega
   have hk1:¬ (((40:Nat):Int) < 40):=by omega
   simp (disch:=omega) only[wp,qa,qb,qc,h0,h1,h2,h20,h7,hg,rl,hk1]
   rw[relC_congr (R:=byK φ R S 40) (S:=fun a => φ (R a) (S a)) (fun a ha => by simp[byK,ha])]
theorem sp_or1 (pk:Pk_rel F) (x y:BitVec 64):pureS F 53 [U x,U y] = some (U (x ||| y)):=by
 refine pure_of pk.rel_Rel_Or_1 ?_
 simp (disch:=omega) only[A_rel_Rel_Or_1,wp,qa,qb,qc,rl]
theorem sp_and1 (pk:Pk_rel F) (x y:BitVec 64):pureS F 52 [U x,U y] = some (U (x &&& y)):=by
 refine pure_of pk.rel_Rel_And_1 ?_
 simp (disch:=omega) only[A_rel_Rel_And_1,wp,qa,qb,qc,rl]
structure RelLs (F:Funs):Prop where
 rel_Rel_In:F 22 = some A_rel_Rel_In
 rel_Rel_Less:F 26 = some A_rel_Rel_Less
 rel_Rel_Less_1:F 54 = some A_rel_Rel_Less_1
def orR (R S:Rw):Rw:=fun a => R a ||| S a
def andR (R S:Rw):Rw:=fun a => R a &&& S a
theorem sp_or (pk:Pk_rel F) {n m:Nat} (hn:n≤40) (hm:m≤40) (R S:Rw):pureS F 24 [.ptr (relC n R),.ptr (relC m S)] = some (.ptr (relC (max n m) (orR R S))):=by
 refine pure_of pk.rel_Rel_Or ?_
 simp (disch:=omega) only[A_rel_Rel_Or,wp,qa,qb,qc,rl,sp_by pk hn hm R S (sp_or1 pk)]
 rfl
theorem sp_and (pk:Pk_rel F) {n m:Nat} (hn:n≤40) (hm:m≤40) (R S:Rw):pureS F 18 [.ptr (relC n R),.ptr (relC m S)] = some (.ptr (relC (max n m) (andR R S))):=by
 refine pure_of pk.rel_Rel_And ?_
 simp (disch:=omega) only[A_rel_Rel_And,wp,qa,qb,qc,rl,sp_by pk hn hm R S (sp_and1 pk)]
 rfl
def stepT (n a:Nat) (R S:Rw) (T:Rw) (b:Nat):Rw:=if has n R a b then upd T a (T a ||| S b) else T
def rowT (n a k:Nat) (R S T:Rw):Rw:=(List.range k).foldl (stepT n a R S) T
def thenK (n k:Nat) (R S:Rw):Rw:=(List.range k).foldl (fun T a => rowT n a n R S T) (fun _ => 0)
def thenR (n:Nat) (R S:Rw):Rw:=thenK n n R S
theorem rowT_succ (n a k R S T):rowT n a (k + 1) R S T = stepT n a R S (rowT n a k R S T) k:=by simp[rowT,List.range_succ]
theorem thenK_succ (n k R S):thenK n (k + 1) R S = rowT n k n R S (thenK n k R S):=by simp[thenK,List.range_succ]
theorem sp_then (pk:Pk_rel F) {n m:Nat} (hn:n≤40) (hm:m≤40) (R S:Rw):pureS F 23 [.ptr (relC n R),.ptr (relC m S)] = some (.ptr (relC (max n m) (thenR n R S))):=by
 refine pure_of pk.rel_Rel_Then ?_
 have hz:AV.i .i64 (max n m:Nat) :: List.replicate 40 (.i .u64 0) = relC (max n m) (thenK n 0 R S):=rfl
 simp (disch:=omega) only[A_rel_Rel_Then,wp,qa,qb,qc,rl,maxI,hz,List.all_append,List.all_replicate]
 refine W_loop (fun q e g => ∃ k,q = n - k∧k≤n∧e 0 = .ptr (relC n R)∧e 1 = .ptr (relC m S)∧e 22 = .i .i64 n∧e 23 = .i .i64 k∧e 5 = .mp 11 0∧g.hp 11 = some (.cells (relC (max n m) (thenK n k R S)) false)∧11 < g.nx) n ?_ ?_
 ·refine ⟨0,rfl,Nat.zero_le _,?_⟩
  simp (disch:=omega) only[wp,qa,qb,qc]
  exact ⟨rfl,by omega⟩
 ·rintro q e g ⟨k,rfl,hk,h0,h1,h22,h23,h5,hg,hnx⟩
  by_cases hk':k < n
  ·have hk1:(k:Int) < n:=by omega
   have hw:=succ_wrap (k:=k) (by omega)
   simp (disch:=omega) only[wp,qa,qb,qc,h0,h1,h22,h23,h5,hk1,rl]
   refine W_loop (fun q e g => ∃ j,q = n - j∧j≤n∧e 0 = .ptr (relC n R)∧e 1 = .ptr (relC m S)∧e 22 = .i .i64 n∧e 23 = .i .i64 k∧e 6 = .i .i64 k∧e 29 = .i .i64 n∧e 30 = .i .i64 j∧e 5 = .mp 11 0∧g.hp 11 = some (.cells (relC (max n m) (rowT n k j R S (thenK n k R S))) false)∧11 < g.nx) n ?_ ?_
   ·refine ⟨0,rfl,Nat.zero_le _,?_⟩
    simp (disch:=omega) only[wp,qa,qb,qc,h0,h1,h22,h23,h5,hg]
    exact ⟨rfl,rfl,by omega⟩
   ·rintro q e g ⟨j,rfl,hj,h0,h1,h22,h23,h6,h29,h30,h5,hg,hnx⟩
    by_cases hj':j < n
    ·have hj1:(j:Int) < n:=by omega
     have hwj:=succ_wrap (k:=j) (by omega)
     by_cases hh:has n R k j = true
     ·simp (disch:=omega) only[wp,qa,qb,qc,h0,h1,h22,h23,h6,h29,h30,h5,hj1,hg,rl,sp_has pk hn,hh,hwj]
      refine ⟨n - (j + 1),?_,j + 1,rfl,by omega,rfl,?_,by first | omega | (dsimp only;omega)⟩
      ·omega
      ·rw[rowT_succ,stepT,if_pos hh]
     ·simp (disch:=omega) only[wp,qa,qb,qc,h0,h1,h22,h23,h6,h29,h30,h5,hj1,hg,rl,sp_has pk hn,hh,hwj]
      refine ⟨n - (j + 1),?_,j + 1,rfl,by omega,rfl,?_,by first | omega | (dsimp only;omega)⟩
      ·omega
      ·rw[rowT_succ,stepT,if_neg hh]
    ·obtain rfl:j = n:=by omega
     have hj1:¬ ((j:Int) < j):=by omega
     simp (disch:=omega) only[wp,qa,qb,qc,h0,h1,h22,h23,h6,h29,h30,h5,hj1,hg,hw]
     refine ⟨j - (k + 1),?_,k + 1,rfl,by omega,rfl,?_,by first | omega | (dsimp only;omega)⟩
     ·omega
     ·rw[thenK_succ]
  ·obtain rfl:k = n:=by omega
   have hk1:¬ ((k:Int) < k):=by omega
   simp (disch:=omega) only[wp,qa,qb,qc,h0,h1,h22,h23,h5,hk1,hg,rl]
   rfl
def stepB (T:Rw) (p:Int × Int):Rw:=upd T p.2.toNat (T p.2.toNat ||| bit p.1.toNat)
def backL (l:List (Int × Int)):Rw:=l.foldl stepB (fun _ => 0)
def backR (n:Nat) (R:Rw):Rw:=backL (pairsR n R)
theorem pairsR_mem {n:Nat} {R:Rw} {p:Int × Int} (h:p∈pairsR n R):0≤p.1∧p.1 < n∧0≤p.2∧p.2 < n:=by
 simp only[pairsR,pairsK,rowPr,List.mem_flatMap,List.mem_map,List.mem_filter,List.mem_range] at h
 obtain ⟨a,ha,b,⟨hb,_⟩,rfl⟩:=h
 simp only
 omega
theorem pairsK_len (n k:Nat) (R:Rw):(pairsK n k R).length≤k * n:=by
 induction k with
 | zero => simp[pairsK]
 | succ k ih =>
   rw[pairsK_succ,List.length_append,Nat.succ_mul]
   have:(rowPr n R k n).length≤n:=by
    unfold rowPr
    rw[List.length_map]
    exact Nat.le_trans (List.length_filter_le _ _) (by simp)
   omega
theorem pairsR_len {n:Nat} (hn:n≤40) (R:Rw):(pairsR n R).length≤1600:=by
 have h1:=pairsK_len n n R
 have h2:n * n≤40 * 40:=Nat.mul_le_mul hn hn
 show (pairsK n n R).length≤1600
 omega
end Go.Ab
end
section
set_option linter.unusedVariables false
set_option linter.unusedSimpArgs false
namespace Go.Ab
def hb (R:Rw) (a b:Nat):Bool:=(R a).getLsbD b
def hN (n:Nat) (R:Rw) (a b:Nat):Bool:=decide (a < n) && decide (b < n) && hb R a b
def Wf (n:Nat) (R:Rw):Prop:=∀ a b,hb R a b = true→a < n∧b < n
theorem has_N (n:Nat) (R:Rw) (a b:Nat):has n R a b = hN n R a b:=by
 unfold has hN hb
 have:decide (0≤(a:Int)∧(a:Int) < n∧0≤(b:Int)∧(b:Int) < n) = (decide (a < n) && decide (b < n)):=by
  rw[Bool.eq_iff_iff];simp
 rw[this];rfl
theorem hN_wf {n:Nat} {R:Rw} (h:Wf n R) (a b:Nat):hN n R a b = hb R a b:=by
 unfold hN
 cases hh:hb R a b with
 | false => simp
 | true => obtain ⟨h1,h2⟩:=h a b hh;simp[h1,h2]
theorem hN_lt {n:Nat} {R:Rw} {a b:Nat} (h:hN n R a b = true):a < n∧b < n:=by
 simp[hN] at h;omega
theorem bit_get {a b:Nat} (ha:a < 64):(bit a).getLsbD b = decide (b = a):=by
 unfold bit
 rw[BitVec.getLsbD_shiftLeft]
 by_cases h:b = a
 ·subst h;simp[ha]
 ·by_cases h2:b < a
  ·simp[h,h2]
  ·have:b - a≠0:=by omega
   simp[h,h2]
   intro _
   omega
theorem hb_upd (R:Rw) (x:BitVec 64) (c a b:Nat):hb (upd R c x) a b = if a = c then x.getLsbD b else hb R a b:=by
 unfold hb upd;split<;>rfl
theorem hb_zero (a b:Nat):hb (fun _ => 0) a b = false:=by simp[hb]
theorem hb_add {n:Nat} (hn:n≤40) (R:Rw) (p:Int × Int) (a b:Nat):hb (addR n R p) a b = (hb R a b || (inR n p && decide (p = ((a:Int),(b:Int))))):=by
 unfold addR
 by_cases h:inR n p = true
 ·rw[if_pos h,hb_upd,h]
  obtain ⟨x,y⟩:=p
  simp only[inR,decide_eq_true_eq] at h
  by_cases ha:a = x.toNat
  ·subst ha
   rw[if_pos rfl,BitVec.getLsbD_or,bit_get (by omega)]
   congr 1
   simp only[Bool.true_and]
   rw[decide_eq_decide]
   simp only[Prod.mk.injEq]
   omega
  ·rw[if_neg ha]
   have:¬ ((x,y) = ((a:Int),(b:Int))):=by simp only[Prod.mk.injEq];omega
   simp[this]
 ·rw[if_neg h]
  simp only[Bool.not_eq_true] at h
  simp[h]
theorem hb_new {n:Nat} (hn:n≤40) (l:List (Int × Int)) (a b:Nat):hb (newR n l) a b = (decide (a < n) && decide (b < n) && l.any fun p => decide (p = ((a:Int),(b:Int)))):=by
 have key:∀ (l:List (Int × Int)) (R:Rw),hb (l.foldl (addR n) R) a b = (hb R a b || (decide (a < n) && decide (b < n) && l.any fun p => decide (p = ((a:Int),(b:Int))))):=by
  intro l
  induction l with
  | nil => intro R;simp
  | cons p l ih =>
    intro R
    rw[List.foldl_cons,ih,hb_add hn,List.any_cons]
    by_cases hp:p = ((a:Int),(b:Int))
    ·subst hp
     have:inR n ((a:Int),(b:Int)) = (decide (a < n) && decide (b < n)):=by
      unfold inR;rw[Bool.eq_iff_iff];simp
     rw[this]
     cases hb R a b<;>cases decide (a < n)<;>cases decide (b < n)<;>simp
    ·simp[hp]
 unfold newR
 rw[key l,hb_zero];rfl
theorem wf_new {n:Nat} (hn:n≤40) (l:List (Int × Int)):Wf n (newR n l):=by
 intro a b h
 rw[hb_new hn] at h
 simp at h;omega
theorem hb_or (R S:Rw) (a b:Nat):hb (orR R S) a b = (hb R a b || hb S a b):=by simp[hb,orR]
theorem hb_and (R S:Rw) (a b:Nat):hb (andR R S) a b = (hb R a b && hb S a b):=by simp[hb,andR]
theorem wf_or {n:Nat} {R S:Rw} (h:Wf n R) (k:Wf n S):Wf n (orR R S):=fun a b hh => by
 rw[hb_or,Bool.or_eq_true] at hh;exact hh.elim (h a b) (k a b)
theorem wf_and {n:Nat} {R S:Rw} (h:Wf n R):Wf n (andR R S):=fun a b hh => by
 rw[hb_and,Bool.and_eq_true] at hh;exact h a b hh.1
theorem hb_maybeK (R:Rw) (k a b:Nat) (hk:k≤64):hb (maybeK k R) a b = (hb R a b || (decide (a < k) && decide (b = a))):=by
 induction k with
 | zero => simp[maybeK]
 | succ k ih =>
   rw[maybeK_succ,hb_upd]
   by_cases h:a = k
   ·subst h
    rw[if_pos rfl,BitVec.getLsbD_or,bit_get (by omega)]
    have:=ih (by omega)
    unfold hb at this ⊢
    rw[this];simp
   ·rw[if_neg h,ih (by omega)]
    have:decide (a < k) = decide (a < k + 1):=by rw[decide_eq_decide];omega
    rw[this]
theorem wf_maybe {n:Nat} {R:Rw} (hn:n≤40) (h:Wf n R):Wf n (maybeK n R):=fun a b hh => by
 rw[hb_maybeK _ _ _ _ (by omega)] at hh
 simp at hh
 rcases hh with hh | hh
 ·exact h a b hh
 ·omega
theorem hb_rowT (n a:Nat) (R S T:Rw) (k:Nat) (x y:Nat):hb (rowT n a k R S T) x y = (hb T x y || (decide (x = a) && (List.range k).any fun b => hN n R a b && hb S b y)):=by
 induction k with
 | zero => simp[rowT]
 | succ k ih =>
   rw[rowT_succ,stepT,List.range_succ,List.any_append,has_N]
   by_cases hh:hN n R a k = true
   ·rw[if_pos hh,hb_upd]
    by_cases hx:x = a
    ·subst hx
     rw[if_pos rfl,BitVec.getLsbD_or]
     have:=ih
     unfold hb at this ⊢
     rw[this]
     simp[hh,Bool.or_assoc,hb]
    ·rw[if_neg hx,ih];simp[hx]
   ·rw[if_neg hh,ih]
    simp[hh]
theorem hb_thenK (n:Nat) (R S:Rw) (k:Nat) (x y:Nat):hb (thenK n k R S) x y = (decide (x < k) && (List.range n).any fun b => hN n R x b && hb S b y):=by
 induction k with
 | zero => simp[thenK,hb]
 | succ k ih =>
   rw[thenK_succ,hb_rowT,ih]
   by_cases hx:x = k
   ·subst hx;simp
   ·have:decide (x < k) = decide (x < k + 1):=by rw[decide_eq_decide];omega
    rw[this];simp[hx]
theorem hb_then {n:Nat} {R S:Rw} (hR:Wf n R) (a b:Nat):hb (thenR n R S) a b = true↔∃ c,hb R a c = true∧hb S c b = true:=by
 unfold thenR
 rw[hb_thenK]
 simp only[Bool.and_eq_true,decide_eq_true_eq,List.any_eq_true,List.mem_range,hN_wf hR]
 constructor
 ·rintro ⟨_,c,_,h1,h2⟩;exact ⟨c,h1,h2⟩
 ·rintro ⟨c,h1,h2⟩;obtain ⟨h3,h4⟩:=hR a c h1;exact ⟨h3,c,h4,h1,h2⟩
theorem wf_then {n:Nat} {R S:Rw} (hR:Wf n R) (hS:Wf n S):Wf n (thenR n R S):=fun a b h => by
 obtain ⟨c,h1,h2⟩:=(hb_then hR a b).1 h
 exact ⟨(hR a c h1).1,(hS c b h2).2⟩
theorem mem_pairsR {n:Nat} {R:Rw} {p:Int × Int}:p∈pairsR n R↔∃ a b:Nat,p = ((a:Int),(b:Int))∧hN n R a b = true:=by
 simp only[pairsR,pairsK,rowPr,List.mem_flatMap,List.mem_map,List.mem_filter,List.mem_range]
 constructor
 ·rintro ⟨a,ha,b,⟨hb,hh⟩,rfl⟩
  exact ⟨a,b,rfl,by rw[←has_N];exact hh⟩
 ·rintro ⟨a,b,rfl,hh⟩
  obtain ⟨h1,h2⟩:=hN_lt hh
  exact ⟨a,h1,b,⟨h2,by rw[has_N];exact hh⟩,rfl⟩
theorem hb_backL (a b:Nat):∀ (l:List (Int × Int)) (T:Rw),(∀ p∈l,0≤p.1∧p.1 < 40∧0≤p.2∧p.2 < 40)→hb (l.foldl stepB T) a b = (hb T a b || l.any fun p => decide (p = ((b:Int),(a:Int))))
 | [],T,_ => by simp
 | p :: l,T,h => by
   rw[List.foldl_cons,hb_backL a b l _ (fun q hq => h q (List.mem_cons_of_mem _ hq)),List.any_cons,←Bool.or_assoc]
   congr 1
   obtain ⟨x,y⟩:=p
   have:=h (x,y) (List.mem_cons_self ..)
   simp only at this
   unfold stepB
   rw[hb_upd]
   by_cases ha:a = y.toNat
   ·subst ha
    rw[if_pos rfl,BitVec.getLsbD_or,bit_get (by omega)]
    unfold hb
    congr 1
    rw[decide_eq_decide]
    simp only[Prod.mk.injEq]
    omega
   ·rw[if_neg ha]
    have:¬ ((x,y) = ((b:Int),(a:Int))):=by simp only[Prod.mk.injEq];omega
    simp[this]
theorem hb_back {n:Nat} {R:Rw} (hn:n≤40) (a b:Nat):hb (backR n R) a b = hN n R b a:=by
 unfold backR backL
 rw[hb_backL a b _ _ (fun p hp => by have:=pairsR_mem hp;omega),hb_zero,Bool.false_or,Bool.eq_iff_iff,List.any_eq_true]
 simp only[decide_eq_true_eq]
 constructor
 ·rintro ⟨p,hp,rfl⟩
  obtain ⟨x,y,hxy,hh⟩:=mem_pairsR.1 hp
  simp only[Prod.mk.injEq] at hxy
  obtain ⟨h1,h2⟩:=hxy
  rw[show b = x by omega,show a = y by omega];exact hh
 ·intro hh
  exact ⟨_,mem_pairsR.2 ⟨b,a,rfl,hh⟩,rfl⟩
theorem wf_back {n:Nat} {R:Rw} (hn:n≤40):Wf n (backR n R):=fun a b h => by
 rw[hb_back hn] at h;obtain ⟨h1,h2⟩:=hN_lt h;exact ⟨h2,h1⟩
inductive Thru (r:Nat→Nat→Prop) (k:Nat):Nat→Nat→Prop
 | one {a b}:r a b→Thru r k a b
 | join {a c b}:c < k→Thru r k a c→Thru r k c b→Thru r k a b
theorem Thru.mono {r:Nat→Nat→Prop} {k k':Nat} (h:k≤k') {a b:Nat} (t:Thru r k a b):Thru r k' a b:=by
 induction t with
 | one h => exact .one h
 | join hc _ _ ih1 ih2 => exact .join (by omega) ih1 ih2
theorem hb_rowP {n b:Nat} (hb':b < n) (R:Rw) (hR:Wf n R) (k:Nat) (hk:k≤n) (x y:Nat):hb (rowP n b k R) x y = (hb R x y || (decide (x < k) && hb R x b && hb R b y)):=by
 induction k generalizing x y with
 | zero => simp[rowP]
 | succ k ih =>
   have ih:=fun x y => ih (by omega) x y
   have hwf:Wf n (rowP n b k R):=fun x y h => by
    rw[ih] at h
    simp at h
    rcases h with h | ⟨⟨_,h1⟩,h2⟩
    ·exact hR x y h
    ·exact ⟨(hR x b h1).1,(hR b y h2).2⟩
   have hrow:rowP n b k R b = R b:=by
    refine BitVec.eq_of_getLsbD_eq fun y _ => ?_
    have:=ih b y
    unfold hb at this
    rw[this]
    cases (R b).getLsbD y<;>cases (R b).getLsbD b<;>simp
   rw[rowP_succ,stepP,has_N,hN_wf hwf,ih k b]
   have hkb:(hb R k b || (decide (k < k) && hb R k b && hb R b b)) = hb R k b:=by simp
   rw[hkb]
   by_cases hh:hb R k b = true
   ·rw[if_pos hh,hb_upd]
    by_cases hx:x = k
    ·subst hx
     rw[if_pos rfl,BitVec.getLsbD_or,hrow]
     have:=ih x y
     unfold hb at this hh ⊢
     rw[this]
     simp[hh]
    ·rw[if_neg hx,ih]
     have:decide (x < k) = decide (x < k + 1):=by rw[decide_eq_decide];omega
     rw[this]
   ·rw[if_neg hh,ih]
    by_cases hx:x = k
    ·subst hx;simp[hh]
    ·have:decide (x < k) = decide (x < k + 1):=by rw[decide_eq_decide];omega
     rw[this]
theorem wf_plusK {n:Nat} {R:Rw} (hR:Wf n R):∀ k,k≤n→Wf n (plusK n k R)
 | 0,_ => hR
 | k + 1,h => fun x y hh => by
   have ih:=wf_plusK hR k (by omega)
   rw[plusK_succ,hb_rowP (by omega) _ ih n (Nat.le_refl _)] at hh
   simp at hh
   rcases hh with hh | ⟨⟨h0,h1⟩,h2⟩
   ·exact ih x y hh
   ·exact ⟨h0,(ih k y h2).2⟩
theorem wf_plus {n:Nat} {R:Rw} (hR:Wf n R):Wf n (plusR n R):=wf_plusK hR n (Nat.le_refl _)
inductive Steps' (r:Nat→Nat→Prop):Nat→Nat→Prop
 | one {a b}:r a b→Steps' r a b
 | join {a c b}:Steps' r a c→Steps' r c b→Steps' r a b
end Go.Ab
end
section
set_option linter.unusedVariables false
set_option linter.unusedSimpArgs false
namespace Go.Ab
variable {F:Funs}
theorem t1_neg (u n:Int) (e1:u % n + n * (u / n) = u):-u = (n - u % n) + n * (-(u / n) - 1):=by
 have e2:n * (-(u / n) - 1) = -(n * (u / n)) - n:=by rw[Int.mul_sub,Int.mul_neg,Int.mul_one]
 rw[e2]
 generalize n * (u / n) = c at *
 generalize u % n = b at *
 omega
theorem tmod_cases {v n:Int} (hn:0 < n):(if v.tmod n < 0 then v.tmod n + n else v.tmod n) = v % n:=by
 have h2:=Int.emod_nonneg v (by omega:n≠0)
 have h3:=Int.emod_lt_of_pos v hn
 by_cases hv:0≤v
 ·rw[Int.tmod_eq_emod_of_nonneg hv,if_neg (by omega)]
 ·obtain ⟨u,rfl⟩:∃ u,v = -u:=⟨-v,by omega⟩
  rw[Int.neg_tmod,Int.tmod_eq_emod_of_nonneg (by omega:0≤u)]
  have h4:=Int.emod_nonneg u (by omega:n≠0)
  have h5:=Int.emod_lt_of_pos u hn
  have e1:=Int.emod_add_mul_ediv u n
  by_cases h6:u % n = 0
  ·rw[h6,Int.neg_zero,if_neg (by omega)]
   exact (Int.emod_eq_zero_of_dvd (Int.dvd_neg.2 (Int.dvd_of_emod_eq_zero h6))).symm
  ·rw[if_pos (by omega)]
   have e3:(-u) % n = n - u % n:=by
    rw[t1_neg u n e1,Int.add_mul_emod_self_left,Int.emod_eq_of_lt (by omega) (by omega)]
   rw[e3]
   omega
theorem tmod_bound {v n:Int} (hn:0 < n):-n≤v.tmod n∧v.tmod n < n:=by
 refine ⟨?_,Int.tmod_lt_of_pos v hn⟩
 have h1:=tmod_cases (v:=v) hn
 have h2:=Int.emod_nonneg v (by omega:n≠0)
 split at h1<;>omega
def place (v n:Int):Int:=v % n
theorem place_lt {v n:Int} (hn:0 < n):0≤place v n∧place v n < n:=⟨Int.emod_nonneg v (by omega),Int.emod_lt_of_pos v hn⟩
theorem sp_place (h10:F 10 = some A_xlaw00_Place) {v n:Int} (hn:0 < n) (hb:n≤4611686018427387904):pureS F 10 [.i .i64 v,.i .i64 n] = some (.i .i64 (place v n)):=by
 refine pure_of h10 ?_
 have h1:=tmod_cases (v:=v) hn
 obtain ⟨h2,h3⟩:=tmod_bound (v:=v) hn
 unfold place
 by_cases h:v.tmod n < 0
 ·have hw:IntKind.i64.wrap (v.tmod n + n) = v.tmod n + n:=i64_wrap (by omega) (by omega)
  rw[if_pos h] at h1
  simp (disch:=omega) only[A_xlaw00_Place,wp,qa,qb,qc,b_rem,h,hw]
  rw[h1]
 ·rw[if_neg h] at h1
  simp (disch:=omega) only[A_xlaw00_Place,wp,qa,qb,qc,b_rem,h]
  rw[h1]
end Go.Ab
end
section
set_option linter.unusedVariables false
set_option linter.unusedSimpArgs false
namespace Go.Ab
variable {F:Funs}
theorem ints_part {l:List Int} {k:Nat} (h:k < l.length):part ((intsC l).drop (k * 1)) 0 none = some (.i .i64 (l.getD k 0)):=by
 simp only[part,intsC,List.getElem?_drop,Nat.mul_one,Nat.add_zero,List.getElem?_map,List.getElem?_eq_getElem h,Option.map_some,List.getD_eq_getElem?_getD,Option.getD_some]
theorem Steps'.mono {r s:Nat→Nat→Prop} (h:∀ a b,r a b→s a b) {a b:Nat} (t:Steps' r a b):Steps' s a b:=by
 induction t with
 | one h' => exact .one (h _ _ h')
 | join _ _ i1 i2 => exact .join i1 i2
theorem Steps'.first {r:Nat→Nat→Prop} {a b:Nat} (t:Steps' r a b):r a b∨∃ c,r a c∧Steps' r c b:=by
 induction t with
 | one h => exact .inl h
 | @join a c b t1 t2 i1 i2 =>
   rcases i1 with h | ⟨d,h1,h2⟩
   ·exact .inr ⟨c,h,t2⟩
   ·exact .inr ⟨d,h1,.join h2 t2⟩
end Go.Ab
end
section
set_option linter.unusedVariables false
set_option linter.unusedSimpArgs false
namespace Go.Ab
noncomputable def thawS (F:Funs) (f:Nat) (asx:List AV):Option (List AV):=match callS F f asx g0 with
 | some (.mp b 0,g) => match g.hp b with
   | some (.cells cs false) => if cs.all flat then some cs else none
   | _ => none
 | _ => none
noncomputable def vThaw (F:Funs) (al:Nat→Bool) (id:Nat) (f:AV) (args:List AV) (g:G):Option (AV × G):=vCall (callS F) al id .thaw f args g
theorem o_thaw {F:Funs} {al lo id e g} (f:Opd) (asx:List Opd):opE (callS F) al lo id (.call .thaw f asx) e g = vThaw F al id (f.ev e) (asx.map (·.ev e)) g:=rfl
theorem vis_flat {hp:Nat→Option Blk} {d:Nat} {v:AV} (h:flat v = true):vis hp (d + 1) v = []:=by cases v<;>first | (cases h;done) | simp only[vis]
theorem vThaw_ok {F:Funs} {al:Nat→Bool} {id fid:Nat} {fst caps args bs cs:List AV} {g:G} (h1:frzL (rd g al) depth (fst ++ args ++ caps) = some bs) (h2:thawS F fid bs = some cs) (h3:((fst ++ args ++ caps).flatMap (vis (rd g al) depth)).isEmpty = true):
  vThaw F al id (.fn fid fst caps) args g = some (.mp id 0,⟨upd g.hp id (some (.cells cs false)),g.nx⟩):=by
 unfold thawS at h2
 split at h2
 ·rename_i b g' hc
  split at h2
  ·rename_i cs0 hb
   split at h2
   ·rename_i hf
    cases h2
    have hc':callS F fid bs ⟨fun _ => none,0⟩ = some (.mp b 0,g'):=hc
    have hfz:frzL g'.hp depth cs = some cs:=frzL_flat (d:=8) hf
    have hv:cs.flatMap (vis g'.hp depth) = []:=by
     rw[List.flatMap_eq_nil_iff]
     intro v hv
     exact vis_flat (d:=8) (List.all_eq_true.1 hf v hv)
    unfold vThaw vCall
    simp only[h1,hc',hb,hfz,h3,hv]
    simp
   ·cases h2
  ·cases h2
 ·cases h2
def retT (rs:List ARes) (cs:List AV):Out→Env→G→Prop
 | .ext _,_,_ => False
 | _,e,g => ∃ b,resE rs e g = some (.mp b 0)∧g.hp b = some (.cells cs false)
theorem retT_nrm {rs cs e g}:retT rs cs .nrm e g = (∃ b,resE rs e g = some (.mp b 0)∧g.hp b = some (.cells cs false)):=rfl
theorem retT_ret {rs cs e g}:retT rs cs .ret e g = (∃ b,resE rs e g = some (.mp b 0)∧g.hp b = some (.cells cs false)):=rfl
section
variable {F:Funs}
theorem retT_call {f:Nat} {fn:AFun} {asx cs:List AV} (hF:F f = some fn) (h:W F fn.body (argEnv asx) g0 (retT fn.res cs)):∃ b g,callS F f asx g0 = some (.mp b 0,g)∧g.hp b = some (.cells cs false):=by
 obtain ⟨o,e,g,h1,h2⟩:=h
 rw[callS_eq,hF]
 simp only[h1]
 cases o with
 | ext n => exact h2.elim
 | nrm =>
   obtain ⟨b,h3,h4⟩:=h2
   exact ⟨b,g,by simp only[h3,Option.map_some],h4⟩
 | ret =>
   obtain ⟨b,h3,h4⟩:=h2
   exact ⟨b,g,by simp only[h3,Option.map_some],h4⟩
theorem thaw_of {f:Nat} {fn:AFun} {asx cs:List AV} (hF:F f = some fn) (hf:cs.all flat = true) (h:W F fn.body (argEnv asx) g0 (retT fn.res cs)):thawS F f asx = some cs:=by
 obtain ⟨b,g,h1,h2⟩:=retT_call hF h
 unfold thawS
 rw[h1]
 simp only[h2,hf,if_true]
theorem pure_of_thaw {f:Nat} {fn:AFun} {asx cs:List AV} (hF:F f = some fn) (hf:cs.all flat = true) (h:W F fn.body (argEnv asx) g0 (retT fn.res cs)):pureS F f asx = some (.ptr cs):=by
 obtain ⟨b,g,h1,h2⟩:=retT_call hF h
 unfold pureS
 rw[h1]
 exact frz_d_mp h2 (frzL_flat hf)
end
theorem vThaw_S {F:Funs} {al:Nat→Bool} {id fid:Nat} {args:List AV} {g:G} {bs cs:List AV} (h1:frzL (rd g al) depth args = some bs) (h2:thawS F fid bs = some cs) (h3:(args.flatMap (vis (rd g al) depth)) = []):
  vThaw F al id (.fn fid [] []) args g = some (.mp id 0,⟨upd g.hp id (some (.cells cs false)),g.nx⟩):=
 vThaw_ok (by rw[List.nil_append,List.append_nil];exact h1) h2 (by rw[List.nil_append,List.append_nil,h3];rfl)
end Go.Ab
end
section
set_option linter.unusedVariables false
set_option linter.unusedSimpArgs false
namespace Go.Ab
noncomputable def vRaw (F:Funs) (al:Nat→Bool) (id:Nat) (f:AV) (args:List AV) (g:G):Option (AV × G):=vCall (callS F) al id .raw f args g
theorem o_raw {F:Funs} {al lo id e g} (f:Opd) (asx:List Opd):opE (callS F) al lo id (.call .raw f asx) e g = vRaw F al id (f.ev e) (asx.map (·.ev e)) g:=rfl
theorem vRaw_fn {F:Funs} {al id fid fst caps args g}:vRaw F al id (.fn fid fst caps) args g = callS F fid (fst ++ args ++ caps) g:=rfl
noncomputable def vSee (F:Funs) (al:Nat→Bool) (id:Nat) (f:AV) (args:List AV) (g:G):Option (AV × G):=vCall (callS F) al id .see f args g
theorem o_see {F:Funs} {al lo id e g} (f:Opd) (asx:List Opd):opE (callS F) al lo id (.call .see f asx) e g = vSee F al id (f.ev e) (asx.map (·.ev e)) g:=rfl
theorem vSee_fn {F:Funs} {al id fid fst caps args g}:vSee F al id (.fn fid fst caps) args g = seeR g (callS F fid (fst ++ args ++ caps) g):=rfl
def Stays (g g':G):Prop:=∀ i b,g.hp i = some b→g'.hp i = some b
theorem bindO_see {F:Funs} {d b j dst os e K fid asx g} (P:AV→G→Prop) (h:∃ v g',callS F fid asx g = some (v,g')∧P v g') (hs:∀ v g',P v g'→Stays g g') (hk:∀ v g',P v g'→WR F d b j os (put e dst v) g' K):bindO F d b j dst os e K (seeR g (callS F fid asx g)):=by
 obtain ⟨v,g',h1,h2⟩:=h
 rw[h1,seeR_some (hs v g' h2)]
 exact hk v g' h2
theorem bindO_call {F:Funs} {d b j dst os e K fid asx g} (P:AV→G→Prop) (h:∃ v g',callS F fid asx g = some (v,g')∧P v g') (hk:∀ v g',P v g'→WR F d b j os (put e dst v) g' K):bindO F d b j dst os e K (callS F fid asx g):=by
 obtain ⟨v,g',h1,h2⟩:=h
 rw[h1]
 exact hk v g' h2
def retP (rs:List ARes) (P:AV→G→Prop):Out→Env→G→Prop
 | .ext _,_,_ => False
 | _,e,g => ∃ v,resE rs e g = some v∧P v g
theorem retP_nrm {rs P e g}:retP rs P .nrm e g = (∃ v,resE rs e g = some v∧P v g):=rfl
theorem retP_ret {rs P e g}:retP rs P .ret e g = (∃ v,resE rs e g = some v∧P v g):=rfl
theorem raw_of {F:Funs} {f:Nat} {fn:AFun} {asx:List AV} {g:G} {P:AV→G→Prop} (hF:F f = some fn) (h:W F fn.body (argEnv asx) g (retP fn.res P)):∃ v g',callS F f asx g = some (v,g')∧P v g':=by
 obtain ⟨o,e,g',h1,h2⟩:=h
 rw[callS_eq,hF]
 simp only[h1]
 cases o with
 | ext n => exact h2.elim
 | nrm =>
   obtain ⟨v,h3,h4⟩:=h2
   exact ⟨v,g',by simp only[h3,Option.map_some],h4⟩
 | ret =>
   obtain ⟨v,h3,h4⟩:=h2
   exact ⟨v,g',by simp only[h3,Option.map_some],h4⟩
theorem res_0 (e g):resE [] e g = some (.tup []):=rfl
def mgS (k:ByteArray) (g:G):Option Blk→Option (AV × G)
 | some (.map es) => vMap g (mlook es k)
 | _ => none
theorem o_mget {c:CS} {al:Nat→Bool} {lo id:Nat} {e:Env} {g:G} (m k):opE c al lo id (.mget m k) e g = vMget al (m.ev e) (k.ev e) g:=rfl
theorem vMget_S {al:Nat→Bool} {g:G} (b k):vMget al (.mm b) (.s k) g = mgS k g (selB (al b) (g.hp b)):=by
 simp only[vMget,rd_S]
 cases selB (al b) (g.hp b) with
 | none => rfl
 | some bl => cases bl<;>rfl
theorem mgS_map (k g es):mgS k g (some (.map es)) = vMap g (mlook es k):=rfl
theorem o_mkmap {c:CS} {al:Nat→Bool} {lo id:Nat} {e:Env} {g:G}:opE c al lo id .mkmap e g = some (.mm id,⟨upd g.hp id (some (.map [])),g.nx⟩):=rfl
theorem o_mput {c:CS} {al:Nat→Bool} {lo id:Nat} {e:Env} {g:G} (m k v):opE c al lo id (.mput m k v) e g = vMput al (m.ev e) (k.ev e) (v.ev e) g:=rfl
def mpO (b:Nat) (k:ByteArray) (v:AV) (es:List (AV × AV)) (g:G) (x:Bool):Option AV→Option (AV × G)
 | none => if x then some (.undef,⟨upd g.hp b (some (.map (es ++ [(.s k,v)]))),g.nx⟩) else none
 | some _ => none
def mpS (b:Nat) (k:ByteArray) (v:AV) (g:G) (x:Bool):Option Blk→Option (AV × G)
 | some (.map es) => mpO b k v es g x (mlook es k)
 | _ => none
theorem vMput_S {al:Nat→Bool} {g:G} (b k v):vMput al (.mm b) (.s k) v g = mpS b k v g (one v) (selB (al b) (g.hp b)):=by
 simp only[vMput,rd_S]
 cases selB (al b) (g.hp b) with
 | none => rfl
 | some bl =>
   cases bl with
   | map es => simp only[mpS];cases mlook es k<;>rfl
   | cells _ _ => rfl
   | tok _ => rfl
theorem mpS_map (b k v g x es):mpS b k v g x (some (.map es)) = mpO b k v es g x (mlook es k):=rfl
theorem mpO_none (b k v es g):mpO b k v es g true none = some (.undef,⟨upd g.hp b (some (.map (es ++ [(.s k,v)]))),g.nx⟩):=rfl
theorem frz_d_agg {hp cs ds} (h:frzL hp 8 cs = some ds):frz hp depth (.agg cs) = some (.agg ds):=by
 show frz hp (8 + 1) _ = _
 simp only[frz,h,Option.map_some]
end Go.Ab
end
section
set_option linter.unusedVariables false
set_option linter.unusedSimpArgs false
namespace Go.Ab
structure Ev where
 th:Int
 kd:Int
 md:Int
 lc:Int
 vl:Int
 ex:Bool
structure Gr where
 locs:Int
 evs:List Ev
 rf:List Int
 co:List (List Int)
 rmw:List (Int × Int)
 data:List (Int × Int)
 ctrl:List (Int × Int)
 ctrli:List (Int × Int)
def ev0:Ev:=⟨0,0,0,0,0,false⟩
def evC (e:Ev):List AV:=[.i .i64 e.th,.i .i64 e.kd,.i .i64 e.md,.i .i64 e.lc,.i .i64 e.vl,.b e.ex]
def evsC (l:List Ev):List AV:=l.flatMap evC
def coC (l:List (List Int)):List AV:=l.map fun c => .sl (intsC c) c.length .non
def grC (g:Gr):List AV:=[.i .i64 g.locs,.sl (evsC g.evs) g.evs.length .non,.sl (intsC g.rf) g.rf.length .non,.sl (coC g.co) g.co.length .non,
 .sl (pairsC g.rmw) g.rmw.length .non,.sl (pairsC g.data) g.data.length .non,.sl (pairsC g.ctrl) g.ctrl.length .non,.sl (pairsC g.ctrli) g.ctrli.length .non]
theorem evsC_len (l:List Ev):(evsC l).length = l.length * 6:=by
 induction l with
 | nil => rfl
 | cons p l ih => simp only[evsC,List.flatMap_cons,List.length_append,List.length_cons,evC,List.length_nil] at ih ⊢;omega
theorem ev_part:∀ {l:List Ev} {k:Nat} (h:k < l.length),part ((evsC l).drop (k * 6)) 0 (some 6) = some (.agg (evC (l.getD k ev0)))
 | p :: l,0,_ => by simp[evsC,part,evC]
 | p :: l,k + 1,h => by
   have:=ev_part (l:=l) (k:=k) (by simpa using h)
   simp only[List.getD_cons_succ]
   rw[←this]
   simp[evsC,Nat.succ_mul,evC]
theorem coC_len (l:List (List Int)):(coC l).length = l.length:=by simp[coC]
theorem co_part {l:List (List Int)} {k:Nat} (h:k < l.length):part ((coC l).drop (k * 1)) 0 none = some (.sl (intsC (l.getD k [])) (l.getD k []).length .non):=by
 simp only[part,coC,List.getElem?_drop,Nat.mul_one,Nat.add_zero,List.getElem?_map,List.getElem?_eq_getElem h,Option.map_some,List.getD_eq_getElem?_getD,Option.getD_some]
theorem splice_ev (e:Ev):splice (List.replicate 5 (AV.i .i64 0) ++ [.b false]) 0 (evC e) = evC e:=rfl
theorem part_22 (a b:AV):part [a,b] 0 (some 2) = some (.agg [a,b]):=rfl
theorem evC_len (e:Ev):(evC e).length = 6:=rfl
theorem evC_one (e:Ev):(evC e).all one = true:=rfl
theorem evC_flat (e:Ev):(evC e).all flat = true:=rfl
theorem evC_all (e:Ev):part (evC e) 0 (some 6) = some (.agg (evC e)):=rfl
theorem ev_th (e:Ev):part (evC e) 0 none = some (.i .i64 e.th):=rfl
theorem ev_kd (e:Ev):part (evC e) 1 none = some (.i .i64 e.kd):=rfl
theorem ev_md (e:Ev):part (evC e) 2 none = some (.i .i64 e.md):=rfl
theorem ev_lc (e:Ev):part (evC e) 3 none = some (.i .i64 e.lc):=rfl
theorem ev_vl (e:Ev):part (evC e) 4 none = some (.i .i64 e.vl):=rfl
theorem ev_ex (e:Ev):part (evC e) 5 none = some (.b e.ex):=rfl
theorem grC_len (g:Gr):(grC g).length = 8:=rfl
theorem grC_one (g:Gr):(grC g).all one = true:=rfl
theorem grC_all (g:Gr):part (grC g) 0 (some 8) = some (.agg (grC g)):=rfl
theorem gr_locs (g:Gr):part (grC g) 0 none = some (.i .i64 g.locs):=rfl
theorem gr_evs (g:Gr):part (grC g) 1 none = some (.sl (evsC g.evs) g.evs.length .non):=rfl
theorem gr_rf (g:Gr):part (grC g) 2 none = some (.sl (intsC g.rf) g.rf.length .non):=rfl
theorem gr_co (g:Gr):part (grC g) 3 none = some (.sl (coC g.co) g.co.length .non):=rfl
theorem gr_rmw (g:Gr):part (grC g) 4 none = some (.sl (pairsC g.rmw) g.rmw.length .non):=rfl
theorem gr_data (g:Gr):part (grC g) 5 none = some (.sl (pairsC g.data) g.data.length .non):=rfl
theorem gr_ctrl (g:Gr):part (grC g) 6 none = some (.sl (pairsC g.ctrl) g.ctrl.length .non):=rfl
theorem gr_ctrli (g:Gr):part (grC g) 7 none = some (.sl (pairsC g.ctrli) g.ctrli.length .non):=rfl
theorem frz_gr (hp) (g:Gr):frz hp depth (.agg (grC g)) = some (.agg (grC g)):=by
 refine frz_d_agg ?_
 show frzL hp (7 + 1) _ = _
 simp only[grC,frzL,frz]
theorem frz_ev (hp) (e:Ev):frz hp depth (.agg (evC e)) = some (.agg (evC e)):=frz_d_agg (frzL_flat (d:=7) (evC_flat e))
theorem vis_gr (hp) (g:Gr):vis hp depth (.agg (grC g)) = []:=by
 show vis hp (8 + 1) _ = _
 simp only[vis,grC,List.flatMap_cons,List.flatMap_nil,List.nil_append,List.append_nil]
theorem vis_ev (hp) (e:Ev):vis hp depth (.agg (evC e)) = []:=by
 show vis hp (8 + 1) _ = _
 simp only[vis,evC,List.flatMap_cons,List.flatMap_nil,List.nil_append,List.append_nil]
theorem gl:type_of% (And.intro (And.intro (And.intro (And.intro (And.intro @evC_len @evC_one) (And.intro @evC_flat (And.intro @evC_all @ev_th))) (And.intro (And.intro @ev_kd (And.intro @ev_md @ev_lc)) (And.intro @ev_vl (And.intro @ev_ex @grC_len)))) (And.intro (And.intro (And.intro @grC_one @grC_all) (And.intro @gr_locs (And.intro @gr_evs @gr_rf))) (And.intro (And.intro @gr_co (And.intro @gr_rmw @gr_data)) (And.intro @gr_ctrl (And.intro @gr_ctrli @frz_gr))))) (And.intro (And.intro (And.intro (And.intro @frz_ev @vis_gr) (And.intro @vis_ev (And.intro @splice_ev @evsC_len))) (And.intro (And.intro @coC_len (And.intro @o_raw @vRaw_fn)) (And.intro @o_see (And.intro @vSee_fn @res_0)))) (And.intro (And.intro (And.intro @retP_nrm @retP_ret) (And.intro @o_mget (And.intro @vMget_S @mgS_map))) (And.intro (And.intro @o_mkmap (And.intro @o_mput @vMput_S)) (And.intro @mpS_map (And.intro @mpO_none @part_22)))))):=(And.intro (And.intro (And.intro (And.intro (And.intro @evC_len @evC_one) (And.intro @evC_flat (And.intro @evC_all @ev_th))) (And.intro (And.intro @ev_kd (And.intro @ev_md @ev_lc)) (And.intro @ev_vl (And.intro @ev_ex @grC_len)))) (And.intro (And.intro (And.intro @grC_one @grC_all) (And.intro @gr_locs (And.intro @gr_evs @gr_rf))) (And.intro (And.intro @gr_co (And.intro @gr_rmw @gr_data)) (And.intro @gr_ctrl (And.intro @gr_ctrli @frz_gr))))) (And.intro (And.intro (And.intro (And.intro @frz_ev @vis_gr) (And.intro @vis_ev (And.intro @splice_ev @evsC_len))) (And.intro (And.intro @coC_len (And.intro @o_raw @vRaw_fn)) (And.intro @o_see (And.intro @vSee_fn @res_0)))) (And.intro (And.intro (And.intro @retP_nrm @retP_ret) (And.intro @o_mget (And.intro @vMget_S @mgS_map))) (And.intro (And.intro @o_mkmap (And.intro @o_mput @vMput_S)) (And.intro @mpS_map (And.intro @mpO_none @part_22))))))
end Go.Ab
end
section
set_option linter.unusedVariables false
set_option linter.unusedSimpArgs false
namespace Go.Ab
variable {F:Funs}
theorem sp_of (h81:F 81 = some A_graph_Of) (pr:Pk_rel F) (G:Gr) (l:List (Int × Int)) (t:Tok) (hl:l.length < 9000000000000000000):pureS F 81 [.agg (grC G),.sl (pairsC l) l.length t] = some (.ptr (relC (clamp G.evs.length) (newR (clamp G.evs.length) l))):=by
 refine pure_of h81 ?_
 simp (disch:=omega) only[A_graph_Of,wp,qa,qb,qc,gl,sp_new pr _ l _ hl]
structure EcoSt (X:Gr) (l:List (Int × Int)) (g:G):Prop where
 gr:g.hp 0 = some (.cells (grC X) false)
 put:∃ t,g.hp 2 = some (.cells [.sl (pairsC l) l.length t] false)∧Live g 2 t
 f4:g.hp 4 = some (.cells [.fn 92 [] [.mp 2 0]] false)
 f7:g.hp 7 = some (.cells [.fn 93 [] [.mp 0 0,.mp 4 0]] false)
 m9:g.hp 9 = some (.map [(.s ⟨#[114,102]⟩,.fn 94 [] [.mp 4 0]),(.s ⟨#[99,111]⟩,.fn 95 [] [.mp 7 0]),(.s ⟨#[102,114]⟩,.fn 96 [] [.mp 7 0])])
 nx:9 < g.nx
def Kept (g g':G):Prop:=g.nx≤g'.nx∧∀ i,9 < i→i < g.nx→CM (g.hp i)→g'.hp i = g.hp i
theorem Kept.refl (g:G):Kept g g:=⟨Nat.le_refl _,fun _ _ _ _ => rfl⟩
theorem Kept.trans {g g1 g2:G} (h:Kept g g1) (k:Kept g1 g2):Kept g g2:=⟨Nat.le_trans h.1 k.1,fun i h1 h2 h3 => by
 have e:=h.2 i h1 h2 h3
 rw[←e]
 exact k.2 i h1 (Nat.lt_of_lt_of_le h2 h.1) (by rw[e];exact h3)⟩
theorem EcoSt.same {X:Gr} {l:List (Int × Int)} {g g':G} (h:EcoSt X l g) (k:Kept g g') (h9:∀ i,i≤9→g'.hp i = g.hp i) (ht:∀ i b,g.hp i = some (.tok b)→g'.hp i = g.hp i):EcoSt X l g':=by
 obtain ⟨t,h1,h2⟩:=h.put
 refine ⟨by rw[h9 0 (by omega)];exact h.gr,⟨t,by rw[h9 2 (by omega)];exact h1,?_⟩,by rw[h9 4 (by omega)];exact h.f4,by rw[h9 7 (by omega)];exact h.f7,by rw[h9 9 (by omega)];exact h.m9,Nat.lt_of_lt_of_le h.nx k.1⟩
 rcases h2 with rfl | ⟨τ,rfl,hτ,hlt⟩
 ·exact .inl rfl
 ·exact .inr ⟨τ,rfl,by rw[ht τ _ hτ];exact hτ,Nat.lt_of_lt_of_le hlt k.1⟩
theorem sp_put (h92:F 92 = some A_eco_pairs_1) {X:Gr} {l:List (Int × Int)} {g:G} (S:EcoSt X l g) (hl:l.length < 1099511627776) (a b:Int):
  ∃ v g',callS F 92 [.i .i64 a,.i .i64 b,.mp 2 0] g = some (v,g')∧EcoSt X (l ++ [(a,b)]) g'∧Kept g g':=by
 refine raw_of (P:=fun v g' => EcoSt X (l ++ [(a,b)]) g'∧Kept g g') h92 ?_
 obtain ⟨t,hp,ht⟩:=S.put
 have hnx:=S.nx
 have h0:=S.gr;have h4:=S.f4;have h7:=S.f7;have h9:=S.m9
 rcases ht with rfl | ⟨τ,rfl,hτ,hlt⟩
 ·simp (disch:=omega) only[A_eco_pairs_1,wp,qa,qb,qc,gl,hp,pairsC_len]
  refine ⟨_,rfl,?_,?_⟩
  ·refine ⟨?_,⟨.own (g.nx + 5) 2,?_,?_⟩,?_,?_,?_,by dsimp only;omega⟩
   ·simp (disch:=omega) only[upd_ne];exact h0
   ·simp (disch:=omega) only[upd_same,pairsC_app,pairsC_one,List.length_append];rfl
   ·exact .inr ⟨_,rfl,by simp (disch:=omega) only[upd_same,upd_ne],by dsimp only;omega⟩
   ·simp (disch:=omega) only[upd_ne];exact h4
   ·simp (disch:=omega) only[upd_ne];exact h7
   ·simp (disch:=omega) only[upd_ne];exact h9
  ·refine ⟨by dsimp only;omega,fun i i1 i2 i3 => ?_⟩
   simp (disch:=omega) only[upd_ne]
 ·have n0:τ≠0:=fun h => by rw[h,h0] at hτ;cases hτ
  have n2:τ≠2:=fun h => by rw[h,hp] at hτ;cases hτ
  have n4:τ≠4:=fun h => by rw[h,h4] at hτ;cases hτ
  have n7:τ≠7:=fun h => by rw[h,h7] at hτ;cases hτ
  have n9:τ≠9:=fun h => by rw[h,h9] at hτ;cases hτ
  simp (disch:=omega) only[A_eco_pairs_1,wp,qa,qb,qc,gl,hp,pairsC_len,hτ]
  refine ⟨_,rfl,?_,?_⟩
  ·refine ⟨?_,⟨.own (g.nx + 5) 2,?_,?_⟩,?_,?_,?_,by dsimp only;omega⟩
   ·simp (disch:=omega) only[upd_ne];exact h0
   ·simp (disch:=omega) only[upd_same,pairsC_app,pairsC_one,List.length_append];rfl
   ·exact .inr ⟨_,rfl,by simp (disch:=omega) only[upd_same,upd_ne],by dsimp only;omega⟩
   ·simp (disch:=omega) only[upd_ne];exact h4
   ·simp (disch:=omega) only[upd_ne];exact h7
   ·simp (disch:=omega) only[upd_ne];exact h9
  ·refine ⟨by dsimp only;omega,fun i i1 i2 i3 => ?_⟩
   have:i≠τ:=fun h => by rw[h,hτ] at i3;exact i3
   simp (disch:=omega) only[upd_ne]
end Go.Ab
end
section
set_option linter.unusedVariables false
set_option linter.unusedSimpArgs false
namespace Go.Ab
variable {F:Funs}
def aftS (w:Int) (p:List Int × Bool) (i:Int):List Int × Bool:=(if p.2 then p.1 ++ [i] else p.1,p.2 || i == w)
def aft (w:Int) (c:List Int):List Int × Bool:=c.foldl (aftS w) ([],false)
def behL (a w:Int) (co:List (List Int)):List (Int × Int):=co.flatMap fun c => (aft w c).1.map fun i => (a,i)
theorem aft_take {w:Int} {c:List Int} {k:Nat} (h:k < c.length):aft w (c.take (k + 1)) = aftS w (aft w (c.take k)) (c.getD k 0):=by
 unfold aft
 rw[List.take_add_one,List.foldl_append,List.getElem?_eq_getElem h,List.getD_eq_getElem?_getD,List.getElem?_eq_getElem h]
 rfl
theorem behL_take {a w:Int} {co:List (List Int)} {k:Nat} (h:k < co.length):behL a w (co.take (k + 1)) = behL a w (co.take k) ++ (aft w (co.getD k [])).1.map (fun i => (a,i)):=by
 unfold behL
 rw[List.take_add_one,List.flatMap_append,List.getElem?_eq_getElem h,List.getD_eq_getElem?_getD,List.getElem?_eq_getElem h]
 simp
theorem aft_len (w:Int) (c:List Int):(aft w c).1.length≤c.length:=by
 have key:∀ (c:List Int) (p:List Int × Bool),(c.foldl (aftS w) p).1.length≤p.1.length + c.length:=by
  intro c
  induction c with
  | nil => intro p;simp
  | cons i c ih =>
    intro p
    rw[List.foldl_cons]
    have:=ih (aftS w p i)
    have h2:(aftS w p i).1.length≤p.1.length + 1:=by unfold aftS;split<;>simp
    simp only[List.length_cons];omega
 have:=key c ([],false)
 unfold aft
 simpa using this
theorem behL_len (a w:Int) (co:List (List Int)) {b:Nat} (h:∀ c∈co,c.length≤b):(behL a w co).length≤co.length * b:=by
 induction co with
 | nil => simp[behL]
 | cons c co ih =>
   have h1:=ih fun d hd => h d (List.mem_cons_of_mem _ hd)
   have h2:=aft_len w c
   have h3:=h c (List.mem_cons_self ..)
   unfold behL at h1 ⊢
   rw[List.flatMap_cons,List.length_append,List.length_map,List.length_cons,Nat.succ_mul]
   omega
theorem EcoSt.on {X:Gr} {l:List (Int × Int)} {g:G} (h:EcoSt X l g) {n:Nat} (hn:g.nx≤n):EcoSt X l ⟨g.hp,n⟩:=
 h.same ⟨hn,fun _ _ _ _ => rfl⟩ (fun _ _ => rfl) (fun _ _ _ => rfl)
theorem Kept.on {g g':G} (h:Kept g g') {n:Nat} (hn:g'.nx≤n):Kept g ⟨g'.hp,n⟩:=⟨Nat.le_trans h.1 hn,h.2⟩
theorem Kept.from {g g':G} {n:Nat} (hn:g.nx≤n) (h:Kept ⟨g.hp,n⟩ g'):Kept g g':=⟨Nat.le_trans hn h.1,fun i h1 h2 h3 => h.2 i h1 (Nat.lt_of_lt_of_le h2 hn) h3⟩
theorem sp_behind (h93:F 93 = some A_eco_pairs_2) (h92:F 92 = some A_eco_pairs_1) {X:Gr} {l:List (Int × Int)} {g:G} (S:EcoSt X l g) (hl:l.length < 1000000) (hco:X.co.length≤1000∧∀ c∈X.co,c.length≤1000) (a w:Int):
  ∃ v g',callS F 93 [.i .i64 a,.i .i64 w,.mp 0 0,.mp 4 0] g = some (v,g')∧EcoSt X (l ++ behL a w X.co) g'∧Kept g g':=by
 refine raw_of (P:=fun v g' => EcoSt X (l ++ behL a w X.co) g'∧Kept g g') h93 ?_
 have h0:=S.gr
 have hnx:=S.nx
 simp (disch:=omega) only[A_eco_pairs_2,wp,qa,qb,qc,gl,h0]
 refine W_loop (fun q e g1 => ∃ k,q = X.co.length - k∧k≤X.co.length∧e 0 = .i .i64 a∧e 1 = .i .i64 w∧e 3 = .mp 4 0∧e 12 = .sl (coC X.co) X.co.length .non∧e 13 = .i .i64 X.co.length∧e 14 = .i .i64 k∧EcoSt X (l ++ behL a w (X.co.take k)) g1∧Kept g g1) X.co.length ?_ ?_
 ·refine ⟨0,rfl,Nat.zero_le _,?_⟩
  simp (disch:=omega) only[wp,qa,qb,qc]
  refine ⟨rfl,?_,(Kept.refl g).on (by omega)⟩
  have:l ++ behL a w (List.take 0 X.co) = l:=by simp[behL]
  rw[this]
  exact S.on (by omega)
 ·rintro q e g1 ⟨k,rfl,hk,e0,e1,e3,e12,e13,e14,S1,K1⟩
  by_cases hk':k < X.co.length
  ·have hk1:(k:Int) < X.co.length:=by omega
   have hwk:=succ_wrap (k:=k) (by omega)
   have hcp:=co_part hk'
   have hbt:=behL_take (a:=a) (w:=w) hk'
   have hcl:(X.co.getD k []).length≤1000:=hco.2 _ (by rw[List.getD_eq_getElem?_getD,List.getElem?_eq_getElem hk'];exact List.getElem_mem hk')
   have hbl:(behL a w (X.co.take k)).length≤1000000:=by
    have h1:=behL_len a w (X.co.take k) (b:=1000) fun c hc => hco.2 c (List.mem_of_mem_take hc)
    rw[List.length_take] at h1
    have h2:min k X.co.length * 1000≤1000 * 1000:=Nat.mul_le_mul (by omega) (Nat.le_refl _)
    omega
   generalize X.co.getD k [] = c at hcp hbt hcl
   generalize behL a w (X.co.take k) = B at S1 hbt hbl
   simp (disch:=omega) only[wp,qa,qb,qc,gl,e0,e1,e3,e12,e13,e14,hk1,hcp]
   refine W_loop (fun q e g2 => ∃ j,q = c.length - j∧j≤c.length∧e 0 = .i .i64 a∧e 1 = .i .i64 w∧e 3 = .mp 4 0∧e 12 = .sl (coC X.co) X.co.length .non∧e 13 = .i .i64 X.co.length∧e 14 = .i .i64 k∧e 18 = .sl (intsC c) c.length .non∧e 19 = .i .i64 c.length∧e 20 = .i .i64 j∧e 8 = .b (aft w (c.take j)).2∧EcoSt X (l ++ B ++ (aft w (c.take j)).1.map fun i => (a,i)) g2∧Kept g g2) c.length ?_ ?_
   ·refine ⟨0,rfl,Nat.zero_le _,?_⟩
    simp (disch:=omega) only[wp,qa,qb,qc,e0,e1,e3,e12,e13,e14]
    refine ⟨rfl,rfl,?_,K1.on (by omega)⟩
    have:l ++ B ++ (aft w (List.take 0 c)).1.map (fun i => (a,i)) = l ++ B:=by simp[aft]
    rw[this]
    exact S1.on (by omega)
   ·rintro q e g2 ⟨j,rfl,hj,e0,e1,e3,e12,e13,e14,e18,e19,e20,e8,S2,K2⟩
    by_cases hj':j < c.length
    ·have hj1:(j:Int) < c.length:=by omega
     have hwj:=succ_wrap (k:=j) (by omega)
     have hip:=ints_part hj'
     have hat:=aft_take (w:=w) hj'
     have hal:=aft_len w (c.take j)
     rw[List.length_take] at hal
     generalize c.getD j 0 = i at hip hat
     generalize aft w (c.take j) = p at hat e8 S2 hal
     obtain ⟨acc,s⟩:=p
     simp only at e8 S2 hal
     have hL:(l ++ B ++ acc.map fun i => (a,i)).length < 1099511627776:=by
      rw[List.length_append,List.length_append,List.length_map];omega
     cases s with
     | true =>
       have f4:=S2.f4
       have n2:=S2.nx
       simp (disch:=omega) only[wp,qa,qb,qc,gl,e0,e1,e3,e12,e13,e14,e18,e19,e20,e8,hj1,hip,f4]
       refine bindO_call _ (sp_put h92 (S2.on (n:=_) (by omega)) hL a i) ?_
       rintro v g3 ⟨S3,K3⟩
       simp (disch:=omega) only[wp,qa,qb,qc,gl,e0,e1,e3,e12,e13,e14,e18,e19,e20,e8,hwj]
       have n3:=K3.1
       dsimp only at n3
       refine ⟨c.length - (j + 1),by omega,j + 1,rfl,by omega,rfl,?_,?_,((K2.trans (K3.from (by omega))).on (by first | omega | (dsimp only;omega)))⟩
       ·rw[hat];rfl
       ·rw[hat]
        simp only[aftS,if_true,List.map_append,List.map_cons,List.map_nil]
        rw[←List.append_assoc]
        exact S3.on (by first | omega | (dsimp only;omega))
     | false =>
       simp (disch:=omega) only[wp,qa,qb,qc,gl,e0,e1,e3,e12,e13,e14,e18,e19,e20,e8,hj1,hip,hwj]
       refine ⟨c.length - (j + 1),by omega,j + 1,rfl,by omega,rfl,?_,?_,K2.on (by first | omega | (dsimp only;omega))⟩
       ·rw[hat];simp[aftS]
       ·rw[hat]
        simp only[aftS,Bool.false_eq_true,if_false]
        exact S2.on (by first | omega | (dsimp only;omega))
    ·obtain rfl:j = c.length:=by omega
     have hj1:¬ ((c.length:Int) < c.length):=by omega
     simp (disch:=omega) only[wp,qa,qb,qc,gl,e0,e1,e3,e12,e13,e14,e18,e19,e20,e8,hj1,hwk]
     refine ⟨X.co.length - (k + 1),by omega,k + 1,rfl,by omega,rfl,?_,K2.on (by first | omega | (dsimp only;omega))⟩
     rw[hbt,←List.append_assoc]
     rw[List.take_length] at S2
     exact S2.on (by first | omega | (dsimp only;omega))
  ·obtain rfl:k = X.co.length:=by omega
   have hk1:¬ ((X.co.length:Int) < X.co.length):=by omega
   simp (disch:=omega) only[wp,qa,qb,qc,gl,e0,e1,e3,e12,e13,e14,hk1]
   rw[List.take_length] at S1
   exact ⟨_,rfl,S1.on (by first | omega | (dsimp only;omega)),K1.on (by first | omega | (dsimp only;omega))⟩
end Go.Ab
end
section
set_option linter.unusedVariables false
set_option linter.unusedSimpArgs false
namespace Go.Ab
variable {F:Funs}
theorem EcoSt.grow {X:Gr} {l:List (Int × Int)} {g g':G} (h:EcoSt X l g) (hn:g.nx≤g'.nx) (ho:∀ i,i < g.nx→g'.hp i = g.hp i):EcoSt X l g'∧Kept g g':=by
 have h9:=h.nx
 obtain ⟨t,h1,h2⟩:=h.put
 refine ⟨⟨by rw[ho 0 (by omega)];exact h.gr,⟨t,by rw[ho 2 (by omega)];exact h1,?_⟩,by rw[ho 4 (by omega)];exact h.f4,by rw[ho 7 (by omega)];exact h.f7,by rw[ho 9 (by omega)];exact h.m9,by omega⟩,hn,fun i _ hi _ => ho i hi⟩
 rcases h2 with rfl | ⟨τ,rfl,hτ,hlt⟩
 ·exact .inl rfl
 ·exact .inr ⟨τ,rfl,by rw[ho τ hlt];exact hτ,by omega⟩
def rfS (i w:Int) (e:Ev):List (Int × Int):=if e.kd = 1 then [(w,i)] else []
def coS (co:List (List Int)) (i w:Int) (e:Ev):List (Int × Int):=if e.kd = 2 then behL i i co else []
def frS (co:List (List Int)) (i w:Int) (e:Ev):List (Int × Int):=if e.kd = 1 then behL i w co else []
theorem sp_94 (h94:F 94 = some A_eco_pairs_3) (h92:F 92 = some A_eco_pairs_1) {X:Gr} {l:List (Int × Int)} {g:G} (S:EcoSt X l g) (hl:l.length < 1000000) (i w:Int) (e:Ev):
  ∃ v g',callS F 94 [.i .i64 i,.i .i64 w,.agg (evC e),.mp 4 0] g = some (v,g')∧EcoSt X (l ++ rfS i w e) g'∧Kept g g':=by
 refine raw_of (P:=fun v g' => EcoSt X (l ++ rfS i w e) g'∧Kept g g') h94 ?_
 have hnx:=S.nx
 have f4:=S.f4
 have grow:=fun (n:Nat) (hn:g.nx≤n) => S.grow (g':=⟨upd g.hp g.nx (some (.cells (evC e) false)),n⟩) hn fun i hi => by
  show upd _ _ _ _ = _
  rw[upd_ne _ _ (by omega)]
 by_cases hk:e.kd = 1
 ·have hk1:(e.kd == 1) = true:=by simp[hk]
  simp (disch:=omega) only[A_eco_pairs_3,wp,qa,qb,qc,gl,hk1,f4]
  obtain ⟨S1,K1⟩:=grow (g.nx + 1 + 3 + 4) (by omega)
  refine bindO_call _ (sp_put h92 S1 (by omega) w i) ?_
  rintro v g3 ⟨S3,K3⟩
  simp (disch:=omega) only[wp,qa,qb,qc,gl]
  have:rfS i w e = [(w,i)]:=if_pos hk
  rw[this]
  exact ⟨_,rfl,S3,K1.trans K3⟩
 ·have hk1:(e.kd == 1) = false:=by simp[hk]
  simp (disch:=omega) only[A_eco_pairs_3,wp,qa,qb,qc,gl,hk1,f4]
  have:l ++ rfS i w e = l:=by rw[rfS,if_neg hk];simp
  rw[this]
  exact ⟨_,rfl,(grow _ (by omega)).1,(grow _ (by omega)).2⟩
theorem sp_95 (h95:F 95 = some A_eco_pairs_4) (h93:F 93 = some A_eco_pairs_2) (h92:F 92 = some A_eco_pairs_1) {X:Gr} {l:List (Int × Int)} {g:G} (S:EcoSt X l g) (hl:l.length < 1000000) (hco:X.co.length≤1000∧∀ c∈X.co,c.length≤1000) (i w:Int) (e:Ev):
  ∃ v g',callS F 95 [.i .i64 i,.i .i64 w,.agg (evC e),.mp 7 0] g = some (v,g')∧EcoSt X (l ++ coS X.co i w e) g'∧Kept g g':=by
 refine raw_of (P:=fun v g' => EcoSt X (l ++ coS X.co i w e) g'∧Kept g g') h95 ?_
 have hnx:=S.nx
 have f7:=S.f7
 have grow:=fun (n:Nat) (hn:g.nx≤n) => S.grow (g':=⟨upd g.hp g.nx (some (.cells (evC e) false)),n⟩) hn fun i hi => by
  show upd _ _ _ _ = _
  rw[upd_ne _ _ (by omega)]
 by_cases hk:e.kd = 2
 ·have hk1:(e.kd == 2) = true:=by simp[hk]
  simp (disch:=omega) only[A_eco_pairs_4,wp,qa,qb,qc,gl,hk1,f7]
  obtain ⟨S1,K1⟩:=grow (g.nx + 1 + 3 + 4) (by omega)
  refine bindO_call _ (sp_behind h93 h92 S1 hl hco i i) ?_
  rintro v g3 ⟨S3,K3⟩
  simp (disch:=omega) only[wp,qa,qb,qc,gl]
  have:coS X.co i w e = behL i i X.co:=if_pos hk
  rw[this]
  exact ⟨_,rfl,S3,K1.trans K3⟩
 ·have hk1:(e.kd == 2) = false:=by simp[hk]
  simp (disch:=omega) only[A_eco_pairs_4,wp,qa,qb,qc,gl,hk1,f7]
  have:l ++ coS X.co i w e = l:=by rw[coS,if_neg hk];simp
  rw[this]
  exact ⟨_,rfl,(grow _ (by omega)).1,(grow _ (by omega)).2⟩
theorem sp_96 (h96:F 96 = some A_eco_pairs_5) (h93:F 93 = some A_eco_pairs_2) (h92:F 92 = some A_eco_pairs_1) {X:Gr} {l:List (Int × Int)} {g:G} (S:EcoSt X l g) (hl:l.length < 1000000) (hco:X.co.length≤1000∧∀ c∈X.co,c.length≤1000) (i w:Int) (e:Ev):
  ∃ v g',callS F 96 [.i .i64 i,.i .i64 w,.agg (evC e),.mp 7 0] g = some (v,g')∧EcoSt X (l ++ frS X.co i w e) g'∧Kept g g':=by
 refine raw_of (P:=fun v g' => EcoSt X (l ++ frS X.co i w e) g'∧Kept g g') h96 ?_
 have hnx:=S.nx
 have f7:=S.f7
 have grow:=fun (n:Nat) (hn:g.nx≤n) => S.grow (g':=⟨upd g.hp g.nx (some (.cells (evC e) false)),n⟩) hn fun i hi => by
  show upd _ _ _ _ = _
  rw[upd_ne _ _ (by omega)]
 by_cases hk:e.kd = 1
 ·have hk1:(e.kd == 1) = true:=by simp[hk]
  simp (disch:=omega) only[A_eco_pairs_5,wp,qa,qb,qc,gl,hk1,f7]
  obtain ⟨S1,K1⟩:=grow (g.nx + 1 + 3 + 4) (by omega)
  refine bindO_call _ (sp_behind h93 h92 S1 hl hco i w) ?_
  rintro v g3 ⟨S3,K3⟩
  simp (disch:=omega) only[wp,qa,qb,qc,gl]
  have:frS X.co i w e = behL i w X.co:=if_pos hk
  rw[this]
  exact ⟨_,rfl,S3,K1.trans K3⟩
 ·have hk1:(e.kd == 1) = false:=by simp[hk]
  simp (disch:=omega) only[A_eco_pairs_5,wp,qa,qb,qc,gl,hk1,f7]
  have:l ++ frS X.co i w e = l:=by rw[frS,if_neg hk];simp
  rw[this]
  exact ⟨_,rfl,(grow _ (by omega)).1,(grow _ (by omega)).2⟩
end Go.Ab
end
section
set_option linter.unusedVariables false
set_option linter.unusedSimpArgs false
namespace Go.Ab
variable {F:Funs}
def Few (X:Gr):Prop:=X.evs.length≤60∧X.co.length≤6∧∀ c∈X.co,c.length≤60
def wOf (X:Gr) (i:Nat):Int:=if i < X.rf.length then X.rf.getD i 0 else -1
def pairsE (stp:Int→Int→Ev→List (Int × Int)) (X:Gr) (k:Nat):List (Int × Int):=(List.range k).flatMap fun (i:Nat) => stp (i:Int) (wOf X i) (X.evs.getD i ev0)
theorem pairsE_succ (stp X k):pairsE stp X (k + 1) = pairsE stp X k ++ stp k (wOf X k) (X.evs.getD k ev0):=by simp[pairsE,List.range_succ]
theorem pairsE_len {stp X} (h:∀ i w e,(stp i w e).length≤1000):∀ k,(pairsE stp X k).length≤k * 1000
 | 0 => by simp[pairsE]
 | k + 1 => by
   rw[pairsE_succ,List.length_append,Nat.succ_mul]
   have h1:=pairsE_len (X:=X) h k
   have h2:=h k (wOf X k) (X.evs.getD k ev0)
   omega
theorem sp_pairsE (h80:F 80 = some A_eco_pairs) (h81:F 81 = some A_graph_Of) (pr:Pk_rel F) {X:Gr} (hX:Few X) {s:ByteArray} {fid:Nat} {caps:List AV} {stp:Int→Int→Ev→List (Int × Int)}
  (hm:mlook [(.s ⟨#[114,102]⟩,.fn 94 [] [.mp 4 0]),(.s ⟨#[99,111]⟩,.fn 95 [] [.mp 7 0]),(.s ⟨#[102,114]⟩,.fn 96 [] [.mp 7 0])] s = some (.fn fid [] caps))
  (hlen:∀ i w e,(stp i w e).length≤1000)
  (hstp:∀ (l:List (Int × Int)) (g:G),EcoSt X l g→l.length < 1000000→∀ (i w:Int) (e:Ev),∃ v g',callS F fid ([.i .i64 i,.i .i64 w,.agg (evC e)] ++ caps) g = some (v,g')∧EcoSt X (l ++ stp i w e) g'∧Kept g g'):
  pureS F 80 [.agg (grC X),.s s] = some (.ptr (relC (clamp X.evs.length) (newR (clamp X.evs.length) (pairsE stp X X.evs.length)))):=by
 refine pure_of h80 ?_
 have e1:mlook [(AV.s ⟨#[114,102]⟩,AV.fn 94 [] [.mp 4 0])] ⟨#[99,111]⟩ = none:=by rfl
 have e2:mlook [(AV.s ⟨#[114,102]⟩,AV.fn 94 [] [.mp 4 0]),(AV.s ⟨#[99,111]⟩,AV.fn 95 [] [.mp 7 0])] ⟨#[102,114]⟩ = none:=by rfl
 have e0:mlook [] (⟨#[114,102]⟩:ByteArray) = none:=rfl
 have hev:=hX.1
 simp (disch:=omega) only[A_eco_pairs,wp,qa,qb,qc,gl,e0,e1,e2]
 refine W_loop (fun q e g => ∃ k,q = X.evs.length - k∧k≤X.evs.length∧e 1 = .s s∧e 2 = .mp 0 0∧e 5 = .mp 2 0∧e 8 = .mm 9∧e 20 = .sl (evsC X.evs) X.evs.length .non∧e 21 = .i .i64 X.evs.length∧e 22 = .i .i64 k∧EcoSt X (pairsE stp X k) g) X.evs.length ?_ ?_
 ·refine ⟨0,rfl,Nat.zero_le _,?_⟩
  simp (disch:=omega) only[wp,qa,qb,qc]
  refine ⟨rfl,?_,⟨.rig,?_,.inl rfl⟩,?_,?_,?_,?_⟩
  ·simp (disch:=omega) only[upd_same,upd_ne]
  ·simp (disch:=omega) only[upd_same,upd_ne];rfl
  ·simp (disch:=omega) only[upd_same,upd_ne]
  ·simp (disch:=omega) only[upd_same,upd_ne]
  ·simp (disch:=omega) only[upd_same,upd_ne]
  ·first | omega | (dsimp only;omega)
 ·rintro q e g ⟨k,rfl,hk,e1,e2,e5,e8,e20,e21,e22,S⟩
  have hnx:=S.nx
  have h0:=S.gr
  have h9:=S.m9
  by_cases hk':k < X.evs.length
  ·have hk1:(k:Int) < X.evs.length:=by omega
   have hwk:=succ_wrap (k:=k) (by omega)
   have hp:=ev_part hk'
   have hs:=pairsE_succ stp X k
   have hl:=pairsE_len (X:=X) hlen k
   generalize hE:X.evs.getD k ev0 = ev at hp hs
   have grow:∀ n,g.nx≤n→EcoSt X (pairsE stp X k) ⟨upd (upd g.hp (g.nx + 1 + 3) (some (.cells (List.replicate 5 (AV.i .i64 0) ++ [.b false]) false))) (g.nx + 1 + 3) (some (.cells (evC ev) false)),n⟩:=fun n hn =>
    (S.grow hn fun i hi => by
     show upd _ _ _ _ = _
     rw[upd_ne _ _ (by omega),upd_ne _ _ (by omega)]).1
   by_cases hr:k < X.rf.length
   ·have hr1:(k:Int) < X.rf.length:=by omega
    have hip:=ints_part hr
    have hw:wOf X k = X.rf.getD k 0:=if_pos hr
    rw[hw] at hs
    generalize X.rf.getD k 0 = w at hip hs
    simp (disch:=omega) only[wp,qa,qb,qc,gl,e1,e2,e5,e8,e20,e21,e22,h0,h9,hk1,hp,hr1,hip,hm]
    refine bindO_call _ (hstp _ _ (grow _ (by omega)) (by omega) k w ev) ?_
    rintro v g3 ⟨S3,K3⟩
    simp (disch:=omega) only[wp,qa,qb,qc,gl,e1,e2,e5,e8,e20,e21,e22,hwk]
    refine ⟨X.evs.length - (k + 1),by omega,k + 1,rfl,by omega,rfl,?_⟩
    rw[hs]
    exact S3.on (by first | omega | (dsimp only;omega))
   ·have hr1:¬ (k:Int) < X.rf.length:=by omega
    have hw:wOf X k = -1:=if_neg hr
    rw[hw] at hs
    simp (disch:=omega) only[wp,qa,qb,qc,gl,e1,e2,e5,e8,e20,e21,e22,h0,h9,hk1,hp,hr1,hm]
    refine bindO_call _ (hstp _ _ (grow _ (by omega)) (by omega) k (-1) ev) ?_
    rintro v g3 ⟨S3,K3⟩
    simp (disch:=omega) only[wp,qa,qb,qc,gl,e1,e2,e5,e8,e20,e21,e22,hwk]
    refine ⟨X.evs.length - (k + 1),by omega,k + 1,rfl,by omega,rfl,?_⟩
    rw[hs]
    exact S3.on (by first | omega | (dsimp only;omega))
  ·obtain rfl:k = X.evs.length:=by omega
   have hk1:¬ ((X.evs.length:Int) < X.evs.length):=by omega
   obtain ⟨t,hp,ht⟩:=S.put
   have hl:=pairsE_len (X:=X) hlen X.evs.length
   have hof:=sp_of h81 pr X (pairsE stp X X.evs.length) .non (by omega)
   simp (disch:=omega) only[wp,qa,qb,qc,gl,e1,e2,e5,e8,e20,e21,e22,h0,hk1,hp,hof]
end Go.Ab
end
section
set_option linter.unusedVariables false
set_option linter.unusedSimpArgs false
namespace Go.Ab
variable {F:Funs}
def nOf (X:Gr):Nat:=clamp X.evs.length
def relE (stp:Int→Int→Ev→List (Int × Int)) (X:Gr):Rw:=newR (nOf X) (pairsE stp X X.evs.length)
theorem few_beh {X:Gr} (hX:Few X) (i w:Int):(behL i w X.co).length≤1000:=by
 have h1:=behL_len i w X.co hX.2.2
 have h2:X.co.length * 60≤6 * 60:=Nat.mul_le_mul hX.2.1 (Nat.le_refl _)
 omega
theorem few_co {X:Gr} (hX:Few X):X.co.length≤1000∧∀ c∈X.co,c.length≤1000:=⟨by have:=hX.2.1;omega,fun c hc => by have:=hX.2.2 c hc;omega⟩
theorem sp_Rf (pe:Pk_eco F) (h81:F 81 = some A_graph_Of) (pr:Pk_rel F) {X:Gr} (hX:Few X):pureS F 48 [.agg (grC X)] = some (.ptr (relC (nOf X) (relE rfS X))):=by
 refine pure_of pe.eco_Rf ?_
 have h:=sp_pairsE pe.eco_pairs h81 pr hX (s:=⟨#[114,102]⟩) (fid:=94) (caps:=[.mp 4 0]) (stp:=rfS) (by rfl) (fun i w e => by unfold rfS;split<;>simp) (fun l g S hl i w e => sp_94 pe.eco_pairs_3 pe.eco_pairs_1 S hl i w e)
 simp (disch:=omega) only[A_eco_Rf,wp,qa,qb,qc,gl,h]
 rfl
theorem sp_Co (pe:Pk_eco F) (h81:F 81 = some A_graph_Of) (pr:Pk_rel F) {X:Gr} (hX:Few X):pureS F 49 [.agg (grC X)] = some (.ptr (relC (nOf X) (relE (coS X.co) X))):=by
 refine pure_of pe.eco_Co ?_
 have h:=sp_pairsE pe.eco_pairs h81 pr hX (s:=⟨#[99,111]⟩) (fid:=95) (caps:=[.mp 7 0]) (stp:=coS X.co) (by rfl) (fun i w e => by unfold coS;split;exact few_beh hX i i;simp) (fun l g S hl i w e => sp_95 pe.eco_pairs_4 pe.eco_pairs_2 pe.eco_pairs_1 S hl (few_co hX) i w e)
 simp (disch:=omega) only[A_eco_Co,wp,qa,qb,qc,gl,h]
 rfl
theorem sp_Fr (pe:Pk_eco F) (h81:F 81 = some A_graph_Of) (pr:Pk_rel F) {X:Gr} (hX:Few X):pureS F 50 [.agg (grC X)] = some (.ptr (relC (nOf X) (relE (frS X.co) X))):=by
 refine pure_of pe.eco_Fr ?_
 have h:=sp_pairsE pe.eco_pairs h81 pr hX (s:=⟨#[102,114]⟩) (fid:=96) (caps:=[.mp 7 0]) (stp:=frS X.co) (by rfl) (fun i w e => by unfold frS;split;exact few_beh hX i w;simp) (fun l g S hl i w e => sp_96 pe.eco_pairs_5 pe.eco_pairs_2 pe.eco_pairs_1 S hl (few_co hX) i w e)
 simp (disch:=omega) only[A_eco_Fr,wp,qa,qb,qc,gl,h]
 rfl
def ecoR (X:Gr):Rw:=plusR (nOf X) (orR (orR (relE rfS X) (relE (coS X.co) X)) (relE (frS X.co) X))
theorem nOf_le (X:Gr):nOf X≤40:=clamp_le _
theorem sp_Eco (pe:Pk_eco F) (h81:F 81 = some A_graph_Of) (pr:Pk_rel F) {X:Gr} (hX:Few X):pureS F 42 [.agg (grC X)] = some (.ptr (relC (nOf X) (ecoR X))):=by
 refine pure_of pe.eco_Eco ?_
 have hn:=nOf_le X
 simp (disch:=omega) only[A_eco_Eco,wp,qa,qb,qc,gl,sp_Rf pe h81 pr hX,sp_Co pe h81 pr hX,sp_Fr pe h81 pr hX,sp_or pr,Nat.max_self,sp_plus pr]
 rfl
def okP (so:Ev→Ev→Bool) (X:Gr) (p:Int × Int):Bool:=decide (p.1 < X.evs.length) && decide (p.2 < X.evs.length) && so (X.evs.getD p.1.toNat ev0) (X.evs.getD p.2.toNat ev0)
theorem filter_take {P:Int × Int→Bool} {l:List (Int × Int)} {k:Nat} (h:k < l.length):(l.take (k + 1)).filter P = (l.take k).filter P ++ (if P (l.getD k (0,0)) then [l.getD k (0,0)] else []):=by
 rw[List.take_add_one,List.filter_append,List.getElem?_eq_getElem h,List.getD_eq_getElem?_getD,List.getElem?_eq_getElem h]
 simp only[Option.toList,Option.getD_some,List.filter_cons,List.filter_nil]
theorem sp_someE (pe:Pk_eco F) (h81:F 81 = some A_graph_Of) (pr:Pk_rel F) {X:Gr} {n:Nat} (hn:n≤40) (R:Rw) {fid:Nat} {so:Ev→Ev→Bool} (hso:∀ x y,pureS F fid [.agg (evC x),.agg (evC y)] = some (.b (so x y))):
  pureS F 57 [.agg (grC X),.ptr (relC n R),.fn fid [] []] = some (.ptr (relC (nOf X) (newR (nOf X) ((pairsR n R).filter (okP so X))))):=by
 refine pure_of pe.eco_some ?_
 have hlen:=pairsR_len hn R
 simp (disch:=omega) only[A_eco_some,wp,qa,qb,qc,gl,sp_pairs pr hn]
 generalize hL:pairsR n R = L at hlen
 refine W_loop (fun q e g => ∃ k t,q = L.length - k∧k≤L.length∧e 2 = .fn fid [] []∧e 3 = .mp 0 0∧e 11 = .sl (pairsC L) L.length .non∧e 12 = .i .i64 L.length∧e 13 = .i .i64 k∧e 7 = .sl (pairsC ((L.take k).filter (okP so X))) ((L.take k).filter (okP so X)).length t∧Live g 2 t∧g.hp 0 = some (.cells (grC X) false)∧0 < g.nx) L.length ?_ ?_
 ·refine ⟨0,.rig,rfl,Nat.zero_le _,?_⟩
  simp (disch:=omega) only[wp,qa,qb,qc]
  exact ⟨rfl,rfl,.inl rfl,by first | omega | (dsimp only;omega)⟩
 ·rintro q e g ⟨k,t,rfl,hk,e2,e3,e11,e12,e13,e7,ht,h0,hnx⟩
  by_cases hk':k < L.length
  ·have hk1:(k:Int) < L.length:=by omega
   have hw:=succ_wrap (k:=k) (by omega)
   have hp:=pairs_part hk'
   have hf:=filter_take (P:=okP so X) hk'
   have hfl:((L.take k).filter (okP so X)).length≤1600:=by
    have h1:=List.length_filter_le (okP so X) (L.take k)
    rw[List.length_take] at h1;omega
   have hmem:L.getD k (0,0)∈pairsR n R:=by
    rw[hL,List.getD_eq_getElem?_getD,List.getElem?_eq_getElem hk']
    exact List.getElem_mem hk'
   obtain ⟨m1,m2,m3,m4⟩:=pairsR_mem hmem
   generalize L.getD k (0,0) = p at hp hf m1 m2 m3 m4
   generalize (L.take k).filter (okP so X) = B at e7 hf hfl
   obtain ⟨a,b⟩:=p
   simp only at m1 m2 m3 m4
   have n1:0≠g.nx + 1 + 2:=by omega
   have hno:∀ {x},okP so X (a,b) = x→x = false→(L.take (k + 1)).filter (okP so X) = B:=fun h1 h2 => by rw[hf,h1,h2];simp
   by_cases iA:a < X.evs.length
   ·by_cases iB:b < X.evs.length
    ·have pA:=ev_part (l:=X.evs) (k:=a.toNat) (by omega)
     have pB:=ev_part (l:=X.evs) (k:=b.toNat) (by omega)
     cases hs:so (X.evs.getD a.toNat ev0) (X.evs.getD b.toNat ev0) with
     | true =>
       have hok:okP so X (a,b) = true:=by simp only[okP,hs,decide_eq_true iA,decide_eq_true iB,Bool.and_true]
       rw[if_pos hok] at hf
       rcases ht with rfl | ⟨τ,rfl,hτ,hlt⟩
       ·simp (disch:=omega) only[wp,qa,qb,qc,gl,e2,e3,e11,e12,e13,e7,h0,hk1,hp,iA,iB,pA,pB,hso,hs,pairsC_len,hw]
        refine ⟨L.length - (k + 1),by omega,k + 1,?_⟩
        rw[hf,pairsC_app,pairsC_one,List.length_append]
        exact ⟨_,rfl,by omega,rfl,rfl,.inr ⟨_,rfl,upd_same _ _ _,by first | omega | (dsimp only;omega)⟩,by first | omega | (dsimp only;omega)⟩
       ·have n0:τ≠0:=fun h => by rw[h,h0] at hτ;cases hτ
        simp (disch:=omega) only[wp,qa,qb,qc,gl,e2,e3,e11,e12,e13,e7,h0,hk1,hp,iA,iB,pA,pB,hso,hs,pairsC_len,hw,hτ]
        refine ⟨L.length - (k + 1),by omega,k + 1,?_⟩
        rw[hf,pairsC_app,pairsC_one,List.length_append]
        exact ⟨_,rfl,by omega,rfl,rfl,.inr ⟨_,rfl,upd_same _ _ _,by first | omega | (dsimp only;omega)⟩,by first | omega | (dsimp only;omega)⟩
     | false =>
       have hB:=hno (x:=false) (by simp only[okP,hs,Bool.and_false]) rfl
       simp (disch:=omega) only[wp,qa,qb,qc,gl,e2,e3,e11,e12,e13,e7,h0,hk1,hp,iA,iB,pA,pB,hso,hs,hw]
       refine ⟨L.length - (k + 1),by omega,k + 1,t,rfl,by omega,rfl,?_⟩
       rw[hB]
       refine ⟨rfl,?_,by first | omega | (dsimp only;omega)⟩
       rcases ht with rfl | ⟨τ,rfl,hτ,hlt⟩
       ·exact .inl rfl
       ·exact .inr ⟨τ,rfl,by simp (disch:=omega) only[upd_ne];exact hτ,by first | omega | (dsimp only;omega)⟩
    ·have hB:=hno (x:=false) (by simp[okP,iB]) rfl
     simp (disch:=omega) only[wp,qa,qb,qc,gl,e2,e3,e11,e12,e13,e7,h0,hk1,hp,iA,iB,hw]
     refine ⟨L.length - (k + 1),by omega,k + 1,t,rfl,by omega,rfl,?_⟩
     rw[hB]
     refine ⟨rfl,?_,by first | omega | (dsimp only;omega)⟩
     rcases ht with rfl | ⟨τ,rfl,hτ,hlt⟩
     ·exact .inl rfl
     ·exact .inr ⟨τ,rfl,by simp (disch:=omega) only[upd_ne];exact hτ,by first | omega | (dsimp only;omega)⟩
   ·have hB:=hno (x:=false) (by simp[okP,iA]) rfl
    simp (disch:=omega) only[wp,qa,qb,qc,gl,e2,e3,e11,e12,e13,e7,h0,hk1,hp,iA,hw]
    refine ⟨L.length - (k + 1),by omega,k + 1,t,rfl,by omega,rfl,?_⟩
    rw[hB]
    refine ⟨rfl,?_,by first | omega | (dsimp only;omega)⟩
    rcases ht with rfl | ⟨τ,rfl,hτ,hlt⟩
    ·exact .inl rfl
    ·exact .inr ⟨τ,rfl,by simp (disch:=omega) only[upd_ne];exact hτ,by first | omega | (dsimp only;omega)⟩
  ·obtain rfl:k = L.length:=by omega
   have hk1:¬ ((L.length:Int) < L.length):=by omega
   rw[List.take_length] at e7
   have hfl:(L.filter (okP so X)).length≤1600:=by
    have h1:=List.length_filter_le (okP so X) L
    omega
   have hof:=sp_of h81 pr X (L.filter (okP so X)) .non (by omega)
   simp (disch:=omega) only[wp,qa,qb,qc,gl,e2,e3,e11,e12,e13,e7,h0,hk1,hof]
   rfl
end Go.Ab
end
section
set_option linter.unusedVariables false
set_option linter.unusedSimpArgs false
namespace Go.Ab
variable {F:Funs}
def inner (x y:Ev):Bool:=x.th == y.th
def outer (x y:Ev):Bool:=x.th != y.th
def locP (x y:Ev):Bool:=x.kd != 3 && y.kd != 3 && x.lc == y.lc
theorem sp_58 (h:F 58 = some A_eco_Inner_1) (x y:Ev):pureS F 58 [.agg (evC x),.agg (evC y)] = some (.b (inner x y)):=by
 refine pure_of h ?_
 simp (disch:=omega) only[A_eco_Inner_1,wp,qa,qb,qc,gl]
 rfl
theorem sp_59 (h:F 59 = some A_eco_Outer_1) (x y:Ev):pureS F 59 [.agg (evC x),.agg (evC y)] = some (.b (outer x y)):=by
 refine pure_of h ?_
 simp (disch:=omega) only[A_eco_Outer_1,wp,qa,qb,qc,gl]
 rfl
theorem sp_61 (h:F 61 = some A_eco_Loc_1) (x y:Ev):pureS F 61 [.agg (evC x),.agg (evC y)] = some (.b (locP x y)):=by
 refine pure_of h ?_
 unfold locP
 cases h1:(x.kd != 3) with
 | true =>
   cases h2:(y.kd != 3) with
   | true => simp (disch:=omega) only[A_eco_Loc_1,wp,qa,qb,qc,gl,h1,h2]
   | false => simp (disch:=omega) only[A_eco_Loc_1,wp,qa,qb,qc,gl,h1,h2]
 | false => simp (disch:=omega) only[A_eco_Loc_1,wp,qa,qb,qc,gl,h1]
def partR (so:Ev→Ev→Bool) (X:Gr) (n:Nat) (R:Rw):Rw:=newR (nOf X) ((pairsR n R).filter (okP so X))
theorem sp_Inner (pe:Pk_eco F) (h81:F 81 = some A_graph_Of) (pr:Pk_rel F) {X:Gr} {n:Nat} (hn:n≤40) (R:Rw):pureS F 39 [.agg (grC X),.ptr (relC n R)] = some (.ptr (relC (nOf X) (partR inner X n R))):=by
 refine pure_of pe.eco_Inner ?_
 have h:=sp_someE pe h81 pr (X:=X) hn R (sp_58 pe.eco_Inner_1)
 simp (disch:=omega) only[A_eco_Inner,wp,qa,qb,qc,gl,h]
 rfl
theorem sp_Outer (pe:Pk_eco F) (h81:F 81 = some A_graph_Of) (pr:Pk_rel F) {X:Gr} {n:Nat} (hn:n≤40) (R:Rw):pureS F 40 [.agg (grC X),.ptr (relC n R)] = some (.ptr (relC (nOf X) (partR outer X n R))):=by
 refine pure_of pe.eco_Outer ?_
 have h:=sp_someE pe h81 pr (X:=X) hn R (sp_59 pe.eco_Outer_1)
 simp (disch:=omega) only[A_eco_Outer,wp,qa,qb,qc,gl,h]
 rfl
end Go.Ab
end
section
set_option linter.unusedVariables false
set_option linter.unusedSimpArgs false
namespace Go.Ab
variable {F:Funs}
def poB (a b:Nat) (x y:Ev):Bool:=((x.th == 0) && (y.th != 0)) || ((x.th == y.th) && ((x.th != 0) && decide (a < b)))
def poReg:ACode:=match A_graph_Po.body with
 | .seq _ (.seq _ (.seq (.seq _ (.blk _ (.loop (.seq _ (.seq _ (.seq (.blk _ (.seq _ (.seq _ (.blk _ (.loop (.seq _ (.seq _ (.seq (.blk _ (.seq _ (.seq r _))) _)))))))) _)))))) _)) => r
 | _ => .skip
theorem po_reg {e:Env} {g:G} {a b i j:Nat} {x y:Ev} (h5:e 5 = .mp i 0) (h7:e 7 = .mp j 0) (h4:e 4 = .i .i64 a) (h6:e 6 = .i .i64 b) (hi:g.hp i = some (.cells (evC x) false)) (hj:g.hp j = some (.cells (evC y) false)):
  W F poReg e g (midQ fun e' g' => e' 48 = .b (poB a b x y)∧(∀ t,t < 24→e' t = e t)∧g' = ⟨g.hp,g.nx + 25⟩):=by
 have fin:∀ {e':Env},(∀ t,t < 24→e' t = e t)→True:=fun _ => trivial
 unfold poB
 cases c1:(x.th == 0)<;>cases c2:(y.th != 0)<;>cases c3:(x.th == y.th)<;>cases c4:(x.th != 0)<;>cases c5:decide ((a:Int) < b)<;>
  (have c5':decide (a < b) = decide ((a:Int) < b):=by rw[decide_eq_decide];omega)<;>
  rw[c5] at c5'<;>
  simp (disch:=omega) only[poReg,A_graph_Po,wp,qa,qb,qc,gl,h5,h7,h4,h6,hi,hj,c1,c2,c3,c4,c5,c5']<;>
  (intro t ht;simp (disch:=omega) only[upd_ne])
def A_graph_Po':AFun:={ res:=[.t 2],body:=(.seq (.reg false [{ dst:=some 1,op:=.box (.t 0) },
 { dst:=some 2,op:=.mv (.c (.nilp)) }])
 (.seq (.reg false [{ dst:=some 3,op:=.mv (.c (.sl [] 0 .rig)) }])
 (.seq (.seq (.reg false [{ dst:=some 8,op:=.fa 1 (.t 1) },
  { dst:=some 9,op:=.ld none (.t 8) },
  { dst:=some 10,op:=.len (.t 9) },
  { dst:=some 11,op:=.mv (.c (.i .i64 0)) }])
 (.blk 0 (.loop (.seq (.reg false [{ dst:=some 12,op:=.bin .lss (.t 11) (.t 10) }])
 (.seq (.cond (.t 12) .skip
 (.ext 0))
 (.seq (.blk 1 (.seq (.reg false [{ dst:=some 13,op:=.mv (.t 11) },
  { dst:=some 14,op:=.ia 6 (.t 9) (.t 11) },
  { dst:=some 15,op:=.ld (some 6) (.t 14) },
  { dst:=some 5,op:=.new (List.replicate 5 (.i .i64 0) ++ [.b false]) },
  { dst:=some 4,op:=.mv (.t 13) },
  { dst:=none,op:=.st 6 (.t 5) (.t 15) }])
 (.seq (.reg false [{ dst:=some 16,op:=.fa 1 (.t 1) },
  { dst:=some 17,op:=.ld none (.t 16) },
  { dst:=some 18,op:=.len (.t 17) },
  { dst:=some 19,op:=.mv (.c (.i .i64 0)) }])
 (.blk 2 (.loop (.seq (.reg false [{ dst:=some 20,op:=.bin .lss (.t 19) (.t 18) }])
 (.seq (.cond (.t 20) .skip
 (.ext 2))
 (.seq (.blk 3 (.seq (.reg false [{ dst:=some 21,op:=.mv (.t 19) },
  { dst:=some 22,op:=.ia 6 (.t 17) (.t 19) },
  { dst:=some 23,op:=.ld (some 6) (.t 22) },
  { dst:=some 7,op:=.new (List.replicate 5 (.i .i64 0) ++ [.b false]) },
  { dst:=some 6,op:=.mv (.t 21) },
  { dst:=none,op:=.st 6 (.t 7) (.t 23) }])
 (.seq poReg
 (.cond (.t 48) (.reg false [{ dst:=some 49,op:=.mv (.t 3) },
  { dst:=some 50,op:=.mv (.t 4) },
  { dst:=some 51,op:=.mv (.t 6) },
  { dst:=some 52,op:=.build ([.i .i64 0,.i .i64 0]) [(0,1,.t 50),(1,1,.t 51)] },
  { dst:=some 53,op:=.bsl true 1 ([.i .i64 0,.i .i64 0]) [(0,2,.t 52)] },
  { dst:=some 54,op:=.app 2 16 (.t 49) (.t 53) },
  { dst:=some 3,op:=.mv (.t 54) }])
 .skip))))
 (.reg false [{ dst:=some 55,op:=.bin .add (.t 19) (.c (.i .i64 1)) },
  { dst:=some 19,op:=.mv (.t 55) }])))))))))
 (.reg false [{ dst:=some 56,op:=.bin .add (.t 11) (.c (.i .i64 1)) },
  { dst:=some 11,op:=.mv (.t 56) }])))))))
 (.seq (.reg false [{ dst:=some 57,op:=.ld (some 8) (.t 1) },
  { dst:=some 58,op:=.mv (.t 3) },
  { dst:=some 59,op:=.call .pure (.c (.fn 81 [] [])) [.t 57,.t 58] },
  { dst:=some 2,op:=.mv (.t 59) }])
 .ret)))) }
theorem po_eq:A_graph_Po = A_graph_Po':=rfl
def poRow (X:Gr) (k j:Nat):List (Int × Int):=((List.range j).filter fun (b:Nat) => poB k b (X.evs.getD k ev0) (X.evs.getD b ev0)).map fun (b:Nat) => ((k:Int),(b:Int))
def poK (X:Gr) (k:Nat):List (Int × Int):=(List.range k).flatMap fun a => poRow X a X.evs.length
def poL (X:Gr) (k j:Nat):List (Int × Int):=poK X k ++ poRow X k j
theorem poK_succ (X k):poK X (k + 1) = poL X k X.evs.length:=by simp[poK,poL,List.range_succ]
theorem poL_0 (X k):poL X k 0 = poK X k:=by simp[poL,poRow]
theorem poL_succ (X k j):poL X k (j + 1) = if poB k j (X.evs.getD k ev0) (X.evs.getD j ev0) then poL X k j ++ [((k:Int),(j:Int))] else poL X k j:=by
 unfold poL poRow
 rw[List.range_succ,List.filter_append,List.filter_cons]
 split<;>simp
theorem sp_Po (h60:F 60 = some A_graph_Po) (h81:F 81 = some A_graph_Of) (pr:Pk_rel F) {X:Gr} (hX:X.evs.length≤1000):pureS F 60 [.agg (grC X)] = some (.ptr (relC (nOf X) (newR (nOf X) (poK X X.evs.length)))):=by
 rw[po_eq] at h60
 refine pure_of h60 ?_
 simp (disch:=omega) only[A_graph_Po',wp,qa,qb,qc,gl]
 refine W_loop (fun q e g => ∃ k t,q = X.evs.length - k∧k≤X.evs.length∧e 1 = .mp 0 0∧e 9 = .sl (evsC X.evs) X.evs.length .non∧e 10 = .i .i64 X.evs.length∧e 11 = .i .i64 k∧e 3 = .sl (pairsC (poK X k)) (poK X k).length t∧Live g 2 t∧(poK X k).length≤1000 * k∧g.hp 0 = some (.cells (grC X) false)∧0 < g.nx) X.evs.length ?_ ?_
 ·refine ⟨0,.rig,rfl,Nat.zero_le _,?_⟩
  simp (disch:=omega) only[wp,qa,qb,qc]
  exact ⟨rfl,rfl,.inl rfl,Nat.zero_le _,by first | omega | (dsimp only;omega)⟩
 ·rintro q e g ⟨k,t,rfl,hk,e1,e9,e10,e11,e3,ht,hl,h0,hnx⟩
  by_cases hk':k < X.evs.length
  ·have hk1:(k:Int) < X.evs.length:=by omega
   have hwk:=succ_wrap (k:=k) (by omega)
   have hpk:=ev_part hk'
   have n1:0≠g.nx + 1 + 3:=by omega
   simp (disch:=omega) only[wp,qa,qb,qc,gl,e1,e9,e10,e11,e3,h0,hk1,hpk]
   refine W_loop (fun q e g2 => ∃ j t,q = X.evs.length - j∧j≤X.evs.length∧e 1 = .mp 0 0∧e 9 = .sl (evsC X.evs) X.evs.length .non∧e 10 = .i .i64 X.evs.length∧e 11 = .i .i64 k∧e 4 = .i .i64 k∧e 5 = .mp (g.nx + 1 + 3) 0∧e 17 = .sl (evsC X.evs) X.evs.length .non∧e 18 = .i .i64 X.evs.length∧e 19 = .i .i64 j∧e 3 = .sl (pairsC (poL X k j)) (poL X k j).length t∧Live g2 2 t∧(poL X k j).length≤1000 * k + j∧g2.hp 0 = some (.cells (grC X) false)∧g2.hp (g.nx + 1 + 3) = some (.cells (evC (X.evs.getD k ev0)) false)∧g.nx + 1 + 3 < g2.nx) X.evs.length ?_ ?_
   ·refine ⟨0,t,rfl,Nat.zero_le _,?_⟩
    simp (disch:=omega) only[wp,qa,qb,qc,e1,e9,e10,e11,e3,h0,poL_0]
    refine ⟨rfl,?_,by first | omega | (dsimp only;omega),by first | omega | (dsimp only;omega)⟩
    rcases ht with rfl | ⟨τ,rfl,hτ,hlt⟩
    ·exact .inl rfl
    ·exact .inr ⟨τ,rfl,by simp (disch:=omega) only[upd_ne];exact hτ,by first | omega | (dsimp only;omega)⟩
   ·rintro q e g2 ⟨j,t,rfl,hj,e1,e9,e10,e11,e4,e5,e17,e18,e19,e3,ht,hl,h0,hc,hn2⟩
    by_cases hj':j < X.evs.length
    ·have hj1:(j:Int) < X.evs.length:=by omega
     have hwj:=succ_wrap (k:=j) (by omega)
     have hpj:=ev_part hj'
     have hLs:=poL_succ X k j
     simp (disch:=omega) only[wp,qa,qb,qc,gl,e1,e9,e10,e11,e4,e5,e17,e18,e19,e3,hj1,hpj]
     have m1:g.nx + 1 + 3≠g2.nx + 1 + 3:=by omega
     refine W_mono (po_reg (a:=k) (b:=j) (i:=g.nx + 1 + 3) (j:=g2.nx + 1 + 3) (x:=X.evs.getD k ev0) (y:=X.evs.getD j ev0) (by simp (disch:=omega) only[upd_ne,e5]) (by simp (disch:=omega) only[upd_ne,upd_same]) (by simp (disch:=omega) only[upd_ne,e4]) (by simp (disch:=omega) only[upd_ne,upd_same]) (by simp (disch:=omega) only[upd_ne];exact hc) (by simp (disch:=omega) only[upd_same])) ?_
     intro o e' g' hm
     cases o with
     | ext n => exact hm.elim
     | ret => exact hm.elim
     | nrm =>
       obtain ⟨f48,hfr,rfl⟩:=hm
       have f1:=hfr 1 (by omega)
       have f3:=hfr 3 (by omega)
       have f4:=hfr 4 (by omega)
       have f5:=hfr 5 (by omega)
       have f6:=hfr 6 (by omega)
       have f9:=hfr 9 (by omega)
       have f10:=hfr 10 (by omega)
       have f11:=hfr 11 (by omega)
       have f17:=hfr 17 (by omega)
       have f18:=hfr 18 (by omega)
       have f19:=hfr 19 (by omega)
       simp (disch:=omega) only[upd_ne,upd_same,e1,e3,e4,e5,e9,e10,e11,e17,e18,e19] at f1 f3 f4 f5 f6 f9 f10 f11 f17 f18 f19
       clear hfr
       cases hB:poB k j (X.evs.getD k ev0) (X.evs.getD j ev0) with
       | true =>
         rw[hB] at f48 hLs
         rw[if_pos rfl] at hLs
         rcases ht with rfl | ⟨τ,rfl,hτ,hlt⟩
         ·simp (disch:=omega) only[wp,qa,qb,qc,gl,f1,f3,f4,f5,f6,f9,f10,f11,f17,f18,f19,f48,pairsC_len,hwj]
          refine ⟨X.evs.length - (j + 1),by omega,j + 1,?_⟩
          rw[hLs,pairsC_app,pairsC_one,List.length_append]
          exact ⟨_,rfl,by omega,rfl,rfl,.inr ⟨_,rfl,upd_same _ _ _,by first | omega | (dsimp only;omega)⟩,by simp;omega,h0,hc,by first | omega | (dsimp only;omega)⟩
         ·have n0:τ≠0:=fun h => by rw[h,h0] at hτ;cases hτ
          have nc:τ≠g.nx + 1 + 3:=fun h => by rw[h,hc] at hτ;cases hτ
          simp (disch:=omega) only[wp,qa,qb,qc,gl,f1,f3,f4,f5,f6,f9,f10,f11,f17,f18,f19,f48,pairsC_len,hwj,hτ]
          refine ⟨X.evs.length - (j + 1),by omega,j + 1,?_⟩
          rw[hLs,pairsC_app,pairsC_one,List.length_append]
          exact ⟨_,rfl,by omega,rfl,rfl,.inr ⟨_,rfl,upd_same _ _ _,by first | omega | (dsimp only;omega)⟩,by simp;omega,h0,hc,by first | omega | (dsimp only;omega)⟩
       | false =>
         rw[hB] at f48 hLs
         rw[if_neg (by simp)] at hLs
         simp (disch:=omega) only[wp,qa,qb,qc,gl,f1,f3,f4,f5,f6,f9,f10,f11,f17,f18,f19,f48,hwj]
         refine ⟨X.evs.length - (j + 1),by omega,j + 1,t,rfl,by omega,rfl,?_⟩
         rw[hLs]
         refine ⟨rfl,?_,by omega,by first | exact h0 | (simp (disch:=omega) only[upd_ne];exact h0),by first | exact hc | (simp (disch:=omega) only[upd_ne];exact hc),by first | omega | (dsimp only;omega)⟩
         rcases ht with rfl | ⟨τ,rfl,hτ,hlt⟩
         ·exact .inl rfl
         ·exact .inr ⟨τ,rfl,by simp (disch:=omega) only[upd_ne];exact hτ,by first | omega | (dsimp only;omega)⟩
    ·obtain rfl:j = X.evs.length:=by omega
     have hj1:¬ ((X.evs.length:Int) < X.evs.length):=by omega
     rw[←poK_succ] at e3 hl
     simp (disch:=omega) only[wp,qa,qb,qc,gl,e1,e9,e10,e11,e4,e5,e17,e18,e19,e3,hj1,hwk]
     refine ⟨X.evs.length - (k + 1),by omega,k + 1,t,rfl,by omega,rfl,rfl,?_,by omega,h0,by first | omega | (dsimp only;omega)⟩
     rcases ht with rfl | ⟨τ,rfl,hτ,hlt⟩
     ·exact .inl rfl
     ·exact .inr ⟨τ,rfl,hτ,by first | omega | (dsimp only;omega)⟩
  ·obtain rfl:k = X.evs.length:=by omega
   have hk1:¬ ((X.evs.length:Int) < X.evs.length):=by omega
   have hof:=sp_of h81 pr X (poK X X.evs.length) .non (by omega)
   simp (disch:=omega) only[wp,qa,qb,qc,gl,e1,e9,e10,e11,e3,h0,hk1,hof]
   rfl
def poR (X:Gr):Rw:=newR (nOf X) (poK X X.evs.length)
theorem sp_Loc (pe:Pk_eco F) (h60:F 60 = some A_graph_Po) (h81:F 81 = some A_graph_Of) (pr:Pk_rel F) {X:Gr} (hX:X.evs.length≤1000):pureS F 41 [.agg (grC X)] = some (.ptr (relC (nOf X) (partR locP X (nOf X) (poR X)))):=by
 refine pure_of pe.eco_Loc ?_
 have h1:=sp_Po h60 h81 pr hX
 have h:=sp_someE pe h81 pr (X:=X) (nOf_le X) (poR X) (sp_61 pe.eco_Loc_1)
 unfold poR at h
 simp (disch:=omega) only[A_eco_Loc,wp,qa,qb,qc,gl,h1,h]
 rfl
end Go.Ab
end
section
set_option linter.unusedVariables false
set_option linter.unusedSimpArgs false
namespace Go.Ab
variable {F:Funs}
def resC (agg:Option Nat) (g:G):AV→Option AV
 | .mp b off => match g.hp b with
   | some (.cells cs _) => part cs off agg
   | _ => none
 | _ => none
theorem res_cell (n agg e g):resE [.cell n agg] e g = resC agg g (e n):=by
 simp only[resE,resAll,resOne,resC]
 cases e n<;>try rfl
 rename_i b off
 simp only
 cases g.hp b with
 | none => rfl
 | some bl =>
   cases bl with
   | cells cs ro => simp only;cases part cs off agg<;>rfl
   | map _ => rfl
   | tok _ => rfl
end Go.Ab
end
section
set_option linter.unusedVariables false
set_option linter.unusedSimpArgs false
namespace Go.Ab
variable {F:Funs}
theorem q_nat {x y:Int} (hx:0≤x) (hm:x≤9223372036854775807) (hy:0 < y):abin .quo (.i .i64 x) (.i .i64 y) = some (.i .i64 (x / y)):=by
 rw[b_quo (by omega),Int.tdiv_eq_ediv_of_nonneg hx]
 have h1:=Int.ediv_nonneg hx (by omega:0≤y)
 have h2:=Int.ediv_le_self y hx
 rw[i64_wrap (by omega) (by omega)]
theorem r_nat {x y:Int} (hx:0≤x) (hy:0 < y):abin .rem (.i .i64 x) (.i .i64 y) = some (.i .i64 (x % y)):=by
 rw[b_rem (by omega),Int.tmod_eq_emod_of_nonneg hx]
theorem o_idx {c:CS} {al:Nat→Bool} {lo id:Nat} {e:Env} {g:G} (len esz agg x i):opE c al lo id (.idx len esz agg x i) e g = vIdx len esz agg (x.ev e) (i.ev e) g:=rfl
theorem part_ag2 (a b:AV):part [a,b] 0 (some 2) = some (.agg [a,b]):=rfl
theorem part_ag7 (a b c d e f x:AV):part [a,b,c,d,e,f,x] 0 (some 7) = some (.agg [a,b,c,d,e,f,x]):=rfl
theorem frz_ag2 (hp:Nat→Option Blk) (x y:Int):frz hp depth (.agg [.i .i64 x,.i .i64 y]) = some (.agg [.i .i64 x,.i .i64 y]):=by
 refine frz_d_agg ?_
 show frzL _ (7 + 1) _ = _
 simp only[frzL,frz]
theorem frz_ag7 (hp:Nat→Option Blk) (a b c d e f:Int) (cs:List AV) (n:Nat) (t:Tok):frz hp depth (.agg [.i .i64 a,.i .i64 b,.i .i64 c,.i .i64 d,.i .i64 e,.sl cs n t,.i .i64 f]) = some (.agg [.i .i64 a,.i .i64 b,.i .i64 c,.i .i64 d,.i .i64 e,.sl cs n .non,.i .i64 f]):=by
 refine frz_d_agg ?_
 show frzL _ (7 + 1) _ = _
 simp only[frzL,frz]
def tkC (e:List (Int × Int)):List AV:=e.flatMap fun p => [.i .i64 p.1,.i .i64 p.2]
def exV (e:List (Int × Int)):AV:=.sl (tkC e) e.length .non
structure Ins where
 kd:Int
 md:Int
 md2:Int
 rg:Int
 lc:Int
 ex:List (Int × Int)
 n:Int
def insC (x:Ins):List AV:=[.i .i64 x.kd,.i .i64 x.md,.i .i64 x.md2,.i .i64 x.rg,.i .i64 x.lc,exV x.ex,.i .i64 x.n]
def exM (a b m:Int):List (Int × Int):=
 if m≤2 then [(1,b)] else if m≤5 then [(2,a)] else if m = 6 then [(2,a),(2,a),(3,4)] else if m = 7 then [(2,a),(1,b),(3,5)] else if m = 8 then [(2,a),(1,b),(3,6)] else [(1,b),(1,1),(3,3)]
def exN (v:Int):List (Int × Int):=exM (place v 1073741824 / 10 % 3) (place v 1073741824 / 30 % 3) (place v 1073741824 % 10)
theorem sp_num (h:F 108 = some A_xlaw00_num) (v:Int):pureS F 108 [.i .i64 v] = some (.agg [.i .i64 1,.i .i64 v]):=by
 refine pure_of h ?_
 simp (disch:=omega) only[A_xlaw00_num,wp,qa,qb,qc,res_cell,resC,part_ag2,frz_ag2]
theorem sp_reg (h:F 123 = some A_xlaw00_reg) (v:Int):pureS F 123 [.i .i64 v] = some (.agg [.i .i64 2,.i .i64 v]):=by
 refine pure_of h ?_
 simp (disch:=omega) only[A_xlaw00_reg,wp,qa,qb,qc,res_cell,resC,part_ag2,frz_ag2]
theorem sp_op (h:F 124 = some A_xlaw00_op) (v:Int):pureS F 124 [.i .i64 v] = some (.agg [.i .i64 3,.i .i64 v]):=by
 refine pure_of h ?_
 simp (disch:=omega) only[A_xlaw00_op,wp,qa,qb,qc,res_cell,resC,part_ag2,frz_ag2]
structure ProgF (F:Funs):Prop where
 place:F 10 = some A_xlaw00_Place
 num:F 108 = some A_xlaw00_num
 reg:F 123 = some A_xlaw00_reg
 op:F 124 = some A_xlaw00_op
 expr:F 107 = some A_xlaw00_Expr
 instr:F 97 = some A_xlaw00_Instr
theorem sp_expr (S:ProgF F) (v:Int):pureS F 107 [.i .i64 v] = some (exV (exN v)):=by
 refine pure_of S.expr ?_
 have hp:=sp_place S.place (v:=v) (n:=1073741824) (by omega) (by omega)
 obtain ⟨p0,p1⟩:=place_lt (v:=v) (n:=1073741824) (by omega)
 unfold exN
 generalize place v 1073741824 = k at hp p0 p1
 have q1:=q_nat (x:=k) (y:=10) p0 (by omega) (by omega)
 have r1:=r_nat (x:=k / 10) (y:=3) (by omega) (by omega)
 have q2:=q_nat (x:=k) (y:=30) p0 (by omega) (by omega)
 have r2:=r_nat (x:=k / 30) (y:=3) (by omega) (by omega)
 have r3:=r_nat (x:=k) (y:=10) p0 (by omega)
 have hm:0≤k % 10∧k % 10 < 10:=by omega
 generalize k % 10 = m at r3 hm
 generalize k / 10 % 3 = a at r1
 generalize k / 30 % 3 = b at r2
 have n1:=sp_num S.num b
 have n2:=sp_reg S.reg a
 have n3:=sp_num S.num 1
 have n4:=sp_op S.op
 have r4:∀ x:AV,List.replicate 4 x = [x,x,x,x]:=fun _ => rfl
 have r6:∀ x:AV,List.replicate 6 x = [x,x,x,x,x,x]:=fun _ => rfl
 have hc:m = 0∨m = 1∨m = 2∨m = 3∨m = 4∨m = 5∨m = 6∨m = 7∨m = 8∨m = 9:=by omega
 rcases hc with rfl | rfl | rfl | rfl | rfl | rfl | rfl | rfl | rfl | rfl
 all_goals
  simp (disch:=omega) only[A_xlaw00_Expr,wp,qa,qb,qc,hp,q1,r1,q2,r2,r3,n1,n2,n3,n4,r4,r6,part_ag2,Int.reduceBEq,splice,List.take_succ_cons,List.take_zero,List.drop_succ_cons,List.drop_zero]
  try rfl
def acqM (w:Int):Int:=if w / 7 % 3 = 2 then 1 else 0
def relM (w:Int):Int:=if w / 11 % 3 = 2 then 2 else 0
def insT (t w left:Int):Ins:=
 if t < 6 then ⟨1,acqM w,0,w % 3,w / 3 % 2,[],0⟩
 else if t < 12 then ⟨2,relM w,0,0,w / 3 % 2,exN (w / 12),0⟩
 else if t < 15 then ⟨3,1 + w / 5 % 4,0,0,0,[],0⟩
 else if t < 16 then ⟨4,acqM w,relM w,w % 3,w / 3 % 2,[(1,w / 17 % 2)],0⟩
 else if t < 18 then ⟨5,0,0,w % 3,0,exN (w / 12),0⟩
 else ⟨6,0,0,0,0,exN (w / 12),w / 19 % (left + 1)⟩
def insN (v left:Int):Ins:=insT (place v 1099511627776 % 20) (place v 1099511627776 / 20) left
theorem pick3 {g:G} {a z:Int} (h0:0≤z) (h1:z < 3):vIdx 3 1 none (.agg [.i .i64 0,.i .i64 0,.i .i64 a]) (.i .i64 z) g = some (.i .i64 (if z = 2 then a else 0),g):=by
 have hc:z = 0∨z = 1∨z = 2:=by omega
 rcases hc with rfl | rfl | rfl<;>rfl
theorem sp_instr (S:ProgF F) {v left:Int} (h0:0≤left) (h1:left≤1000):pureS F 97 [.i .i64 v,.i .i64 2,.i .i64 left] = some (.agg (insC (insN v left))):=by
 refine pure_of S.instr ?_
 have hp:=sp_place S.place (v:=v) (n:=1099511627776) (by omega) (by omega)
 obtain ⟨p0,p1⟩:=place_lt (v:=v) (n:=1099511627776) (by omega)
 unfold insN
 generalize place v 1099511627776 = k at hp p0 p1
 have q1:=q_nat (x:=k) (y:=20) p0 (by omega) (by omega)
 have r0:=r_nat (x:=k) (y:=20) p0 (by omega)
 have w0:0≤k / 20∧k / 20 < 1099511627776:=by omega
 have t0:0≤k % 20∧k % 20 < 20:=by omega
 generalize k / 20 = w at q1 w0
 generalize k % 20 = t at r0 t0
 have r1:=r_nat (x:=w) (y:=3) w0.1 (by omega)
 have q2:=q_nat (x:=w) (y:=3) w0.1 (by omega) (by omega)
 have r2:=r_nat (x:=w / 3) (y:=2) (by omega) (by omega)
 have q3:=q_nat (x:=w) (y:=12) w0.1 (by omega) (by omega)
 have q4:=q_nat (x:=w) (y:=7) w0.1 (by omega) (by omega)
 have r4:=r_nat (x:=w / 7) (y:=3) (by omega) (by omega)
 have q5:=q_nat (x:=w) (y:=11) w0.1 (by omega) (by omega)
 have r5:=r_nat (x:=w / 11) (y:=3) (by omega) (by omega)
 have q6:=q_nat (x:=w) (y:=5) w0.1 (by omega) (by omega)
 have r6:=r_nat (x:=w / 5) (y:=4) (by omega) (by omega)
 have q7:=q_nat (x:=w) (y:=17) w0.1 (by omega) (by omega)
 have r7:=r_nat (x:=w / 17) (y:=2) (by omega) (by omega)
 have q8:=q_nat (x:=w) (y:=19) w0.1 (by omega) (by omega)
 have w1:IntKind.i64.wrap (left + 1) = left + 1:=i64_wrap (by omega) (by omega)
 have r8:=r_nat (x:=w / 19) (y:=left + 1) (by omega) (by omega)
 have w2:IntKind.i64.wrap (1 + w / 5 % 4) = 1 + w / 5 % 4:=i64_wrap (by omega) (by omega)
 have he:=sp_expr S (w / 12)
 have hn:=sp_num S.num (w / 17 % 2)
 have i1:∀ g,vIdx 3 1 none (.agg [.i .i64 0,.i .i64 0,.i .i64 1]) (.i .i64 (w / 7 % 3)) g = some (.i .i64 (acqM w),g):=fun g => pick3 (by omega) (by omega)
 have i2:∀ g,vIdx 3 1 none (.agg [.i .i64 0,.i .i64 0,.i .i64 2]) (.i .i64 (w / 11 % 3)) g = some (.i .i64 (relM w),g):=fun g => pick3 (by omega) (by omega)
 have l5:∀ x:AV,List.replicate 5 x = [x,x,x,x,x]:=fun _ => rfl
 have s7:∀ a b c d e f x1 x2 x3 x4 x5 x6 x7 y:AV,splice [a,b,c,d,e,f,y] 0 [x1,x2,x3,x4,x5,x6,x7] = [x1,x2,x3,x4,x5,x6,x7]:=fun _ _ _ _ _ _ _ _ _ _ _ _ _ _ => rfl
 unfold exV at he
 by_cases c1:t < 6
 ·simp (disch:=omega) only[A_xlaw00_Instr,wp,qa,qb,qc,res_cell,resC,hp,q1,r0,r1,q2,r2,q3,he,o_idx,q4,r4,i1,q5,r5,i2,l5,s7,c1,part_ag7,frz_ag7]
  unfold insT;rw[if_pos c1];rfl
 by_cases c2:t < 12
 ·simp (disch:=omega) only[A_xlaw00_Instr,wp,qa,qb,qc,res_cell,resC,hp,q1,r0,r1,q2,r2,q3,he,o_idx,q4,r4,i1,q5,r5,i2,l5,s7,c1,c2,part_ag7,frz_ag7]
  unfold insT;rw[if_neg c1,if_pos c2];rfl
 by_cases c3:t < 15
 ·simp (disch:=omega) only[A_xlaw00_Instr,wp,qa,qb,qc,res_cell,resC,hp,q1,r0,r1,q2,r2,q3,he,o_idx,q4,r4,i1,q5,r5,i2,q6,r6,w2,l5,s7,c1,c2,c3,part_ag7,frz_ag7]
  unfold insT;rw[if_neg c1,if_neg c2,if_pos c3];rfl
 by_cases c4:t < 16
 ·simp (disch:=omega) only[A_xlaw00_Instr,wp,qa,qb,qc,res_cell,resC,hp,q1,r0,r1,q2,r2,q3,he,o_idx,q4,r4,i1,q5,r5,i2,q7,r7,hn,l5,s7,c1,c2,c3,c4,part_ag7,frz_ag7]
  unfold insT;rw[if_neg c1,if_neg c2,if_neg c3,if_pos c4];rfl
 by_cases c5:t < 18
 ·simp (disch:=omega) only[A_xlaw00_Instr,wp,qa,qb,qc,res_cell,resC,hp,q1,r0,r1,q2,r2,q3,he,o_idx,q4,r4,i1,q5,r5,i2,l5,s7,c1,c2,c3,c4,c5,part_ag7,frz_ag7]
  unfold insT;rw[if_neg c1,if_neg c2,if_neg c3,if_neg c4,if_pos c5];rfl
 ·simp (disch:=omega) only[A_xlaw00_Instr,wp,qa,qb,qc,res_cell,resC,hp,q1,r0,r1,q2,r2,q3,he,o_idx,q4,r4,i1,q5,r5,i2,q8,w1,r8,l5,s7,c1,c2,c3,c4,c5,part_ag7,frz_ag7]
  unfold insT;rw[if_neg c1,if_neg c2,if_neg c3,if_neg c4,if_neg c5];rfl
end Go.Ab
end
section
set_option linter.unusedVariables false
set_option linter.unusedSimpArgs false
namespace Go.Ab
variable {F:Funs}
def insLC (l:List Ins):List AV:=l.flatMap insC
theorem insC_len (x:Ins):(insC x).length = 7:=rfl
theorem insLC_len (l:List Ins):(insLC l).length = l.length * 7:=by
 induction l with
 | nil => rfl
 | cons x l ih => simp only[insLC,List.flatMap_cons,List.length_append,List.length_cons,insC_len] at ih ⊢;omega
theorem insLC_snoc (l:List Ins) (x:Ins):insLC (l ++ [x]) = insLC l ++ insC x:=by
 simp only[insLC,List.flatMap_append,List.flatMap_cons,List.flatMap_nil,List.append_nil]
def fence0:Ins:=⟨3,4,0,0,0,[],0⟩
def skips (l:List Ins):Nat:=l.countP fun x => x.kd == 6
theorem skips_snoc (l:List Ins) (x:Ins):skips (l ++ [x]) = skips l + (if x.kd = 6 then 1 else 0):=by
 unfold skips
 rw[List.countP_append]
 congr 1
 by_cases h:x.kd = 6<;>simp[List.countP_cons,h]
structure PreOk (l:List Int) (T t n:Nat) (pre:List Ins):Prop where
 ins:∀ k,k < pre.length→(∃ v,pre.getD k fence0 = insN v ((n - 1 - k:Nat):Int))∨pre.getD k fence0 = fence0
structure ThrOk (l:List Int) (T t most:Nat) (th:List Ins):Prop where
 most:th.length≤most
 at_:∀ k,k < th.length→t + k * T < l.length
 pre:PreOk l T t th.length th
 sk:skips th≤2
theorem PreOk.snoc {l T t n pre} (h:PreOk l T t n pre) {x:Ins} (hx:(∃ v,x = insN v ((n - 1 - pre.length:Nat):Int))∨x = fence0):PreOk l T t n (pre ++ [x]):=by
 refine ⟨fun k hk => ?_⟩
 rw[List.length_append,List.length_singleton] at hk
 by_cases h1:k < pre.length
 ·have:=h.ins k h1
  rwa [List.getD_eq_getElem?_getD,List.getElem?_append_left h1,←List.getD_eq_getElem?_getD]
 ·obtain rfl:k = pre.length:=by omega
  rw[List.getD_eq_getElem?_getD,List.getElem?_append_right (Nat.le_refl _)]
  simpa using hx
theorem o_mksl {c:CS} {al:Nat→Bool} {lo id:Nat} {e:Env} {g:G} (z esz b n m):opE c al lo id (.mksl z esz b n m) e g = vMksl id z esz b (n.ev e) (m.ev e) g:=rfl
theorem vMksl_ms {id:Nat} {z:List AV} {b n:Nat} {g:G} (h1:1≤n) (h2:n≤1000) (hb:b≤1000) (hz:z.length = 1):vMksl id z 1 b (.i .i64 (n:Int)) (.i .i64 (n:Int)) g = some (.ms id 0 n,⟨upd g.hp id (some (.cells (List.replicate n z).flatten false)),g.nx⟩):=by
 have h3:(b:Int) * (n:Int)≤1000 * 1000:=Int.mul_le_mul (by omega) (by omega) (by omega) (by omega)
 simp only[vMksl]
 rw[if_pos ⟨by omega,by omega,by simp only[lim64];omega,by omega⟩,if_neg (by omega),if_pos ⟨trivial,hz⟩,Int.toNat_natCast]
theorem blk_end {c:ACode} {id:Nat} {e:Env} {g:G} {Q:Out→Env→G→Prop} (M:Env→G→Prop) (h1:W F c e g (blkQ id (midQ M))) (h2:∀ e g,M e g→Q .nrm e g):W F c e g (blkQ id Q):=by
 refine W_mono h1 fun o e g h => ?_
 cases o with
 | nrm => exact h2 e g h
 | ret => exact h.elim
 | ext n =>
   have h:if n = id then midQ M .nrm e g else midQ M (.ext n) e g:=h
   show if n = id then Q .nrm e g else Q (.ext n) e g
   split at h
   ·rename_i hn;rw[if_pos hn];exact h2 e g h
   ·exact h.elim
theorem int_at {l:List Int} {k:Nat} (h:k < l.length):part ((intsC l).drop (k * 1)) 0 none = some (.i .i64 (l.getD k 0)):=ints_part h
structure PgSt (B:Nat) (hp0:Nat→Option Blk) (l:List Int) (T most t:Nat) (cs:List AV) (e:Env) (g:G):Prop where
 e0:e 0 = .sl (intsC l) l.length .non
 e1:e 1 = .i .i64 (T:Nat)
 e2:e 2 = .i .i64 (most:Nat)
 e6:e 6 = .mp B 0
 e7:e 7 = .mp (B + 4) 0
 e8:e 8 = .i .i64 (t:Nat)
 h0:g.hp B = some (.cells [.i .i64 0,.sl [] 0 .rig] false)
 h4:g.hp (B + 4) = some (.cells [.i .i64 2,.ms (B + 2) 0 T] false)
 h2:g.hp (B + 2) = some (.cells cs false)
 nx:B + 4 < g.nx
 len:cs.length = T
 fr:∀ i,i < B→g.hp i = hp0 i
def CsOk (l:List Int) (T t most:Nat) (cs:List AV):Prop:=∀ j,j < T→if j < t then ∃ th tok,cs[j]? = some (.sl (insLC th) th.length tok)∧ThrOk l T j most th else cs[j]? = some (.sl [] 0 .rig)
def retV (rs:List ARes) (P:AV→Prop):Out→Env→G→Prop:=fun o e g => ∃ v,retQ rs v o e g∧P v
theorem pureV_of {f:Nat} {fn:AFun} {asx:List AV} {P:AV→Prop} (hF:F f = some fn) (h:W F fn.body (argEnv asx) g0 (retV fn.res P)):∃ v,pureS F f asx = some v∧P v:=by
 obtain ⟨o,e,g,h1,v,h2,hp⟩:=h
 exact ⟨v,pure_of hF ⟨o,e,g,h1,h2⟩,hp⟩
theorem pg_count {B:Nat} {hp0:Nat→Option Blk} {l:List Int} {T most t:Nat} {cs:List AV} {Q:Env→G→Prop} (hT:1≤T) (hT8:T≤8) (hm:most≤16) (hl:(l.length:Int)≤9223372036854775807) (ht:t < T) {e:Env} {g:G} (S:PgSt B hp0 l T most t cs e g) (e9:e 9 = .i .i64 0) (e10:e 10 = .i .i64 0) (e11:e 11 = .i .i64 (t:Nat)) (c:ACode)
  (hc:c = (.seq (.seq (.reg false [{ dst:=some 23,op:=.mv (.t 11) },
 { dst:=some 24,op:=.mv (.t 0) },
 { dst:=some 25,op:=.len (.t 24) },
 { dst:=some 26,op:=.bin .lss (.t 23) (.t 25) },
 { dst:=some 27,op:=.mv (.t 26) },
 { dst:=some 28,op:=.mv (.t 9),grd:=some (27,true) },
 { dst:=some 29,op:=.mv (.t 2),grd:=some (27,true) },
 { dst:=some 30,op:=.bin .lss (.t 28) (.t 29),grd:=some (27,true) },
 { dst:=some 31,op:=.pick (.t 27) (.t 30) (.c (.b false)) }])
 (.cond (.t 31) .skip
 (.ext 2)))
 (.seq (.blk 3 (.reg false [{ dst:=some 35,op:=.mv (.t 9) },
  { dst:=some 36,op:=.bin .add (.t 35) (.c (.i .i64 1)) },
  { dst:=some 9,op:=.mv (.t 36) }]))
 (.reg false [{ dst:=some 32,op:=.mv (.t 11) },
  { dst:=some 33,op:=.mv (.t 1) },
  { dst:=some 34,op:=.bin .add (.t 32) (.t 33) },
  { dst:=some 11,op:=.mv (.t 34) }]))))
    (hQ:∀ e g,(∃ n:Nat,PgSt B hp0 l T most t cs e g∧e 9 = .i .i64 (n:Nat)∧e 10 = .i .i64 0∧n≤most∧∀ k,k < n→t + k * T < l.length)→Q e g):W F (.loop c) e g (blkQ 2 (midQ Q)):=by
  refine W_loop (fun q e g => ∃ n:Nat,q = most - n∧n≤most∧PgSt B hp0 l T most t cs e g∧e 9 = .i .i64 (n:Nat)∧e 10 = .i .i64 0∧e 11 = .i .i64 ((t + n * T:Nat):Int)∧∀ k,k < n→t + k * T < l.length) most ⟨0,rfl,Nat.zero_le _,S,e9,e10,by rw[e11];simp,fun k hk => by omega⟩ ?_
  rintro q e g ⟨n,rfl,hn,S,e9,e10,e11,hall⟩
  obtain ⟨e0,e1,e2,e6,e7,e8,h0,h4,h2,hnx,hlen,hfr⟩:=S
  subst hc
  by_cases h1:t + n * T < l.length
  ·have hnT:n * T≤16 * 8:=Nat.mul_le_mul (by omega) hT8
   have h1':((t + n * T:Nat):Int) < l.length:=by omega
   by_cases h2':n < most
   ·have h3:(n:Int) < most:=by omega
    have hw1:=succ_wrap (k:=n) (by omega)
    have hw2:IntKind.i64.wrap (((t + n * T:Nat):Int) + ((T:Nat):Int)) = ((t + (n + 1) * T:Nat):Int):=by
     have hz:t + (n + 1) * T = t + n * T + T:=by rw[Nat.succ_mul];omega
     rw[i64_wrap (by omega) (by omega),hz];omega
    simp (disch:=omega) only[wp,qa,qb,qc,gl,e0,e1,e2,e9,e11,h1',h3,hw1,hw2]
    refine ⟨most - (n + 1),by omega,n + 1,rfl,by omega,⟨?_,?_,?_,?_,?_,?_,h0,h4,h2,by first | omega | (dsimp only;omega),hlen,hfr⟩,rfl,?_,rfl,fun k hk => ?_⟩
    ·simp (disch:=omega) only[wp,qa,qb,qc,e0]
    ·simp (disch:=omega) only[wp,qa,qb,qc,e1]
    ·simp (disch:=omega) only[wp,qa,qb,qc,e2]
    ·simp (disch:=omega) only[wp,qa,qb,qc,e6]
    ·simp (disch:=omega) only[wp,qa,qb,qc,e7]
    ·simp (disch:=omega) only[wp,qa,qb,qc,e8]
    ·simp (disch:=omega) only[wp,qa,qb,qc,e10]
    ·by_cases hk':k = n
     ·subst hk';exact h1
     ·exact hall k (by omega)
   ·have h3:¬ (n:Int) < most:=by omega
    simp (disch:=omega) only[wp,qa,qb,qc,gl,e0,e1,e2,e9,e11,h1',h3]
    refine hQ _ _ ⟨n,⟨?_,?_,?_,?_,?_,?_,h0,h4,h2,by first | omega | (dsimp only;omega),hlen,hfr⟩,?_,?_,hn,hall⟩
    all_goals simp (disch:=omega) only[wp,qa,qb,qc,e0,e1,e2,e6,e7,e8,e9,e10]
  ·have h1':¬ ((t + n * T:Nat):Int) < l.length:=by omega
   simp (disch:=omega) only[wp,qa,qb,qc,gl,e0,e1,e2,e9,e11,h1']
   refine hQ _ _ ⟨n,⟨?_,?_,?_,?_,?_,?_,h0,h4,h2,by first | omega | (dsimp only;omega),hlen,hfr⟩,?_,?_,hn,hall⟩
   all_goals simp (disch:=omega) only[wp,qa,qb,qc,e0,e1,e2,e6,e7,e8,e9,e10]
end Go.Ab
end
section
set_option linter.unusedVariables false
set_option linter.unusedSimpArgs false
namespace Go.Ab
variable {F:Funs}
def pgC:ACode:=(.seq (.seq (.reg false [{ dst:=some 37,op:=.mv (.t 12) },
 { dst:=some 38,op:=.mv (.t 9) },
 { dst:=some 39,op:=.bin .lss (.t 37) (.t 38) }])
 (.cond (.t 39) .skip
 (.ext 4)))
 (.seq (.blk 5 (.seq (.reg true [{ dst:=some 42,op:=.mv (.t 0) },
  { dst:=some 43,op:=.mv (.t 8) },
  { dst:=some 44,op:=.mv (.t 12) },
  { dst:=some 45,op:=.mv (.t 1) },
  { dst:=some 46,op:=.bin .mul (.t 44) (.t 45) },
  { dst:=some 47,op:=.bin .add (.t 43) (.t 46) },
  { dst:=some 48,op:=.ia 1 (.t 42) (.t 47) },
  { dst:=some 49,op:=.ld none (.t 48),pre:=[] },
  { dst:=some 50,op:=.fa 0 (.t 7) },
  { dst:=some 51,op:=.ld none (.t 50),pre:=[] },
  { dst:=some 52,op:=.mv (.t 9) },
  { dst:=some 53,op:=.bin .sub (.t 52) (.c (.i .i64 1)) },
  { dst:=some 54,op:=.mv (.t 12) },
  { dst:=some 55,op:=.bin .sub (.t 53) (.t 54) },
  { dst:=some 56,op:=.call .pure (.c (.fn 97 [] [])) [.t 49,.t 51,.t 55],pre:=[] },
  { dst:=some 13,op:=.new (List.replicate 5 (.i .i64 0) ++ [.sl [] 0 .rig,.i .i64 0]) },
  { dst:=none,op:=.stL 7 (.t 13) (.t 56),pre:=[15] }])
 (.seq (.seq (.reg false [{ dst:=some 57,op:=.fa 0 (.t 13) },
  { dst:=some 58,op:=.ld none (.t 57) },
  { dst:=some 59,op:=.bin .eql (.t 58) (.c (.i .i64 6)) }])
 (.cond (.t 59) (.seq (.reg false [{ dst:=some 60,op:=.mv (.t 10) },
  { dst:=some 61,op:=.bin .add (.t 60) (.c (.i .i64 1)) },
  { dst:=some 10,op:=.mv (.t 61) }])
 (.seq (.reg false [{ dst:=some 62,op:=.mv (.t 10) },
  { dst:=some 63,op:=.bin .gtr (.t 62) (.c (.i .i64 2)) }])
 (.cond (.t 63) (.reg false [{ dst:=some 64,op:=.build (List.replicate 5 (.i .i64 0) ++ [.sl [] 0 .rig,.i .i64 0]) [(0,1,.c (.i .i64 3)),(1,1,.c (.i .i64 4))] },
  { dst:=none,op:=.st 7 (.t 13) (.t 64) }])
 .skip)))
 .skip))
 (.reg true [{ dst:=some 65,op:=.fa 1 (.t 7) },
  { dst:=some 66,op:=.ld none (.t 65),pre:=[] },
  { dst:=some 67,op:=.mv (.t 8) },
  { dst:=some 68,op:=.fa 1 (.t 7) },
  { dst:=some 69,op:=.ld none (.t 68),pre:=[] },
  { dst:=some 70,op:=.mv (.t 8) },
  { dst:=some 71,op:=.ia 1 (.t 69) (.t 70) },
  { dst:=some 72,op:=.ld none (.t 71),pre:=[] },
  { dst:=some 73,op:=.ld (some 7) (.t 13),pre:=[] },
  { dst:=some 74,op:=.bsl true 1 (List.replicate 5 (.i .i64 0) ++ [.sl [] 0 .rig,.i .i64 0]) [(0,7,.t 73)],pre:=[] },
  { dst:=some 75,op:=.app 7 72 (.t 72) (.t 74),pre:=[] },
  { dst:=some 76,op:=.ia 1 (.t 66) (.t 67) },
  { dst:=none,op:=.st 1 (.t 76) (.t 75),pre:=[10] }]))))
 (.reg false [{ dst:=some 40,op:=.mv (.t 12) },
  { dst:=some 41,op:=.bin .add (.t 40) (.c (.i .i64 1)) },
  { dst:=some 12,op:=.mv (.t 41) }])))
def insCt (x:Ins) (tk:Tok):List AV:=[.i .i64 x.kd,.i .i64 x.md,.i .i64 x.md2,.i .i64 x.rg,.i .i64 x.lc,.sl (tkC x.ex) x.ex.length tk,.i .i64 x.n]
theorem min_a {s:Nat} (h:¬ s + 1 > 2):min s 2 + 1 = min (s + 1) 2:=by omega
theorem min_b {s:Nat} (h:s + 1 > 2):min s 2 + 0 = min (s + 1) 2:=by omega
structure PiSt (B:Nat) (hp0:Nat→Option Blk) (l:List Int) (T most t n:Nat) (cs:List AV) (k:Nat) (pre:List Ins) (tok:Tok) (e:Env) (g:G):Prop where
 st:PgSt B hp0 l T most t (cs.set t (.sl (insLC pre) k tok)) e g
 e9:e 9 = .i .i64 (n:Nat)
 e12:e 12 = .i .i64 (k:Nat)
 pl:pre.length = k
 tk:(tok = .rig∧k = 0)∨∃ τ,tok = .own τ 7∧g.hp τ = some (.tok true)∧B + 4 < τ∧τ < g.nx
 pre:PreOk l T t n pre
theorem pg_thread (S:ProgF F) {B:Nat} {hp0:Nat→Option Blk} {l:List Int} {T most t n:Nat} {cs:List AV} {Q:Env→G→Prop} (hT:1≤T) (hT8:T≤8) (hm:most≤16) (hl:(l.length:Int)≤9223372036854775807) (ht:t < T) (hn:n≤most) (hall:∀ k,k < n→t + k * T < l.length) (hcl:cs.length = T) {e:Env} {g:G} (I:PiSt B hp0 l T most t n cs 0 [] .rig e g) (e10:e 10 = .i .i64 0)
  (hQ:∀ e g,(∃ th tok,th.length = n∧PgSt B hp0 l T most t (cs.set t (.sl (insLC th) n tok)) e g∧ThrOk l T t most th)→Q e g):W F (.loop pgC) e g (blkQ 4 (midQ Q)):=by
 have l5:∀ x:AV,List.replicate 5 x = [x,x,x,x,x]:=fun _ => rfl
 have s7:∀ a b c d e f x1 x2 x3 x4 x5 x6 x7 y:AV,splice [a,b,c,d,e,f,y] 0 [x1,x2,x3,x4,x5,x6,x7] = [x1,x2,x3,x4,x5,x6,x7]:=fun _ _ _ _ _ _ _ _ _ _ _ _ _ _ => rfl
 refine W_loop (fun q e g => ∃ (k:Nat) (pre:List Ins) (tok:Tok) (s:Nat),q = n - k∧k≤n∧PiSt B hp0 l T most t n cs k pre tok e g∧e 10 = .i .i64 (s:Nat)∧skips pre = min s 2∧s≤k) n ⟨0,[],.rig,0,rfl,Nat.zero_le _,I,e10,rfl,Nat.le_refl _⟩ ?_
 rintro q e g ⟨k,pre,tok,s,rfl,hkn,I,e10,hsk,hs⟩
 obtain ⟨⟨e0,e1,e2,e6,e7,e8,h0,h4,h2,hnx,hlen,hfr⟩,e9,e12,hpl,htk,hpre⟩:=I
 by_cases h1:k < n
 ·have h1':(k:Int) < n:=by omega
  have hlt:=hall k h1
  have hw1:IntKind.i64.wrap (((k:Nat):Int) * ((T:Nat):Int)) = ((k * T:Nat):Int):=by
   have:k * T≤16 * 8:=Nat.mul_le_mul (by omega) hT8
   rw[←Int.natCast_mul,i64_wrap (by omega) (by omega)]
  have hw2:IntKind.i64.wrap (((t:Nat):Int) + ((k * T:Nat):Int)) = ((t + k * T:Nat):Int):=by
   rw[i64_wrap (by omega) (by omega)];omega
  have hw3:IntKind.i64.wrap (((n:Nat):Int) - 1) = ((n - 1:Nat):Int):=by rw[i64_wrap (by omega) (by omega)];omega
  have hw4:IntKind.i64.wrap (((n - 1:Nat):Int) - ((k:Nat):Int)) = ((n - 1 - k:Nat):Int):=by rw[i64_wrap (by omega) (by omega)];omega
  have hi0:(0:Int)≤((t + k * T:Nat):Int):=by omega
  have hi1:((t + k * T:Nat):Int) < ((l.length:Nat):Int):=by omega
  have hp:=int_at (l:=l) hlt
  have hI:=sp_instr S (v:=l.getD (t + k * T) 0) (left:=((n - 1 - k:Nat):Int)) (by omega) (by omega)
  generalize hx:insN (l.getD (t + k * T) 0) ((n - 1 - k:Nat):Int) = x at hI
  unfold pgC
  simp (disch:=omega) only[wp,qa,qb,qc,gl,e0,e1,e2,e7,e8,e9,e12,h1',hw1,hw2,hw3,hw4,hi0,hi1,hp,hI,h4,insC,exV,l5,s7]
  refine sel_cut (fun e g => ∃ (x':Ins) (s' b:Nat) (tk:Tok),PgSt B hp0 l T most t (cs.set t (.sl (insLC pre) k tok)) e g∧e 9 = .i .i64 (n:Nat)∧e 12 = .i .i64 (k:Nat)∧e 10 = .i .i64 (s':Nat)∧e 13 = .mp b 0∧g.hp b = some (.cells (insCt x' tk) false)∧((tok = .rig∧k = 0)∨∃ τ,tok = .own τ 7∧g.hp τ = some (.tok true)∧B + 4 < τ∧τ < g.nx)∧((∃ v,x' = insN v ((n - 1 - k:Nat):Int))∨x' = fence0)∧skips (pre ++ [x']) = min s' 2∧s'≤k + 1∧B + 4 < b∧b < g.nx) ?_ ?_
  ·have hm3:∀ (x':Ins) (s' b:Nat) (tk:Tok) (e:Env) (g:G),PgSt B hp0 l T most t (cs.set t (.sl (insLC pre) k tok)) e g→e 9 = .i .i64 (n:Nat)→e 12 = .i .i64 (k:Nat)→e 10 = .i .i64 (s':Nat)→e 13 = .mp b 0→g.hp b = some (.cells (insCt x' tk) false)→((tok = .rig∧k = 0)∨∃ τ,tok = .own τ 7∧g.hp τ = some (.tok true)∧B + 4 < τ∧τ < g.nx)→((∃ v,x' = insN v ((n - 1 - k:Nat):Int))∨x' = fence0)→skips (pre ++ [x']) = min s' 2→s'≤k + 1→B + 4 < b→b < g.nx→∃ (x':Ins) (s' b:Nat) (tk:Tok),PgSt B hp0 l T most t (cs.set t (.sl (insLC pre) k tok)) e g∧e 9 = .i .i64 (n:Nat)∧e 12 = .i .i64 (k:Nat)∧e 10 = .i .i64 (s':Nat)∧e 13 = .mp b 0∧g.hp b = some (.cells (insCt x' tk) false)∧((tok = .rig∧k = 0)∨∃ τ,tok = .own τ 7∧g.hp τ = some (.tok true)∧B + 4 < τ∧τ < g.nx)∧((∃ v,x' = insN v ((n - 1 - k:Nat):Int))∨x' = fence0)∧skips (pre ++ [x']) = min s' 2∧s'≤k + 1∧B + 4 < b∧b < g.nx:=
    fun x' s' b tk e g a1 a2 a3 a4 a5 a6 a7 a8 a9 a10 a11 a12 => ⟨x',s',b,tk,a1,a2,a3,a4,a5,a6,a7,a8,a9,a10,a11,a12⟩
   cases h6:(x.kd == 6)
   ·have h6':¬ x.kd = 6:=by simpa using h6
    simp (disch:=omega) only[wp,qa,qb,qc,gl]
    refine hm3 x s (g.nx + 3 + 15) .non _ _ ⟨?_,?_,?_,?_,?_,?_,?_,?_,?_,by first | omega | (dsimp only;omega),hlen,fun i hi => ?_⟩ ?_ ?_ ?_ ?_ ?_ ?_ (.inl ⟨_,hx.symm⟩) (by rw[skips_snoc,if_neg h6',hsk];rfl) (by omega) ?_ ?_
    all_goals first
     | omega
     | (dsimp only;omega)
     | (simp (disch:=omega) only[wp,qa,qb,qc,e0,e1,e2,e6,e7,e8,e9,e10,e12,h0,h4,h2,insCt,fence0,tkC];done)
     | (simp (disch:=omega) only[wp,qa,qb,qc,insCt];done)
     | (simp (disch:=omega) only[wp,qa,qb,qc,hfr i hi];done)
     | (rcases htk with ⟨a,b⟩ | ⟨τ,a,hτ,a1,a2⟩
        ·exact .inl ⟨a,b⟩
        ·exact .inr ⟨τ,a,by simp (disch:=omega) only[wp,qa,qb,qc,hτ],a1,by first | omega | (dsimp only;omega)⟩)
   ·have h6':x.kd = 6:=by simpa using h6
    have hws:IntKind.i64.wrap ((s:Nat) + 1) = ((s + 1:Nat):Int):=succ_wrap (by omega)
    by_cases hs2:s + 1 > 2
    ·have hs2':(2:Int) < ((s + 1:Nat):Int):=by omega
     simp (disch:=omega) only[wp,qa,qb,qc,gl,e10,hws,hs2',l5,s7]
     refine hm3 fence0 (s + 1) (g.nx + 3 + 15) .rig _ _ ⟨?_,?_,?_,?_,?_,?_,?_,?_,?_,by first | omega | (dsimp only;omega),hlen,fun i hi => ?_⟩ ?_ ?_ ?_ ?_ ?_ ?_ (.inr rfl) (by rw[skips_snoc,if_neg (by decide),hsk];exact min_b hs2) (by omega) ?_ ?_
     all_goals first
     | omega
     | (dsimp only;omega)
     | (simp (disch:=omega) only[wp,qa,qb,qc,e0,e1,e2,e6,e7,e8,e9,e10,e12,h0,h4,h2,insCt,fence0,tkC];done)
     | (simp (disch:=omega) only[wp,qa,qb,qc,insCt];done)
     | (simp (disch:=omega) only[wp,qa,qb,qc,hfr i hi];done)
     | (rcases htk with ⟨a,b⟩ | ⟨τ,a,hτ,a1,a2⟩
        ·exact .inl ⟨a,b⟩
        ·exact .inr ⟨τ,a,by simp (disch:=omega) only[wp,qa,qb,qc,hτ],a1,by first | omega | (dsimp only;omega)⟩)
    ·have hs2':¬ (2:Int) < ((s + 1:Nat):Int):=by omega
     simp (disch:=omega) only[wp,qa,qb,qc,gl,e10,hws,hs2']
     refine hm3 x (s + 1) (g.nx + 3 + 15) .non _ _ ⟨?_,?_,?_,?_,?_,?_,?_,?_,?_,by first | omega | (dsimp only;omega),hlen,fun i hi => ?_⟩ ?_ ?_ ?_ ?_ ?_ ?_ (.inl ⟨_,hx.symm⟩) (by rw[skips_snoc,if_pos h6',hsk];exact min_a hs2) (by omega) ?_ ?_
     all_goals first
     | omega
     | (dsimp only;omega)
     | (simp (disch:=omega) only[wp,qa,qb,qc,e0,e1,e2,e6,e7,e8,e9,e10,e12,h0,h4,h2,insCt,fence0,tkC];done)
     | (simp (disch:=omega) only[wp,qa,qb,qc,insCt];done)
     | (simp (disch:=omega) only[wp,qa,qb,qc,hfr i hi];done)
     | (rcases htk with ⟨a,b⟩ | ⟨τ,a,hτ,a1,a2⟩
        ·exact .inl ⟨a,b⟩
        ·exact .inr ⟨τ,a,by simp (disch:=omega) only[wp,qa,qb,qc,hτ],a1,by first | omega | (dsimp only;omega)⟩)
  ·rintro e g ⟨x',s',b,tk,⟨e0,e1,e2,e6,e7,e8,h0,h4,h2,hnx,hlen,hfr⟩,e9,e12,e10,e13,hb,htk,hx',hsk',hs',hb4,hbn⟩
   have hti0:(0:Int)≤((t:Nat):Int):=by omega
   have hti1:((t:Nat):Int) < ((T:Nat):Int):=by omega
   have hpt:part (cs.set t (.sl (insLC pre) k tok)) (t * 1) none = some (.sl (insLC pre) k tok):=by
    simp only[part,Nat.mul_one]
    rw[List.getElem?_set_self (by omega)]
   have hil:=insLC_len pre
   have hwk:=succ_wrap (k:=k) (by omega)
   rcases htk with ⟨rfl,rfl⟩ | ⟨τ,rfl,hτ,hτ4,hτn⟩
   ·simp (disch:=omega) only[wp,qa,qb,qc,gl,e1,e7,e8,e12,e13,h4,h2,hb,hti0,hti1,hpt,insCt,insC,exV,part_ag7,s7,hil,List.length_set,hwk]
    refine ⟨n - (0 + 1),by omega,0 + 1,pre ++ [x'],.own (g.nx + 10) 7,s',rfl,by omega,⟨⟨?_,?_,?_,?_,?_,?_,?_,?_,?_,by first | omega | (dsimp only;omega),by rw[List.length_set];omega,fun i hi => ?_⟩,?_,?_,by rw[List.length_append,List.length_singleton];omega,.inr ⟨_,rfl,by simp (disch:=omega) only[wp,qa,qb,qc],by omega,by first | omega | (dsimp only;omega)⟩,hpre.snoc (by rw[hpl];exact hx')⟩,?_,hsk',by omega⟩
    all_goals first
     | (simp (disch:=omega) only[wp,qa,qb,qc,e0,e1,e2,e6,e7,e8,e9,e10,e12,h0,h4,h2,insLC_snoc,List.set_set,Nat.mul_one,insC,exV];done)
     | (simp (disch:=omega) only[wp,qa,qb,qc,hfr i hi];done)
   ·simp (disch:=omega) only[wp,qa,qb,qc,gl,e1,e7,e8,e12,e13,h4,h2,hb,hτ,hti0,hti1,hpt,insCt,insC,exV,part_ag7,s7,hil,List.length_set,hwk]
    refine ⟨n - (k + 1),by omega,k + 1,pre ++ [x'],.own (g.nx + 10) 7,s',rfl,by omega,⟨⟨?_,?_,?_,?_,?_,?_,?_,?_,?_,by first | omega | (dsimp only;omega),by rw[List.length_set];omega,fun i hi => ?_⟩,?_,?_,by rw[List.length_append,List.length_singleton];omega,.inr ⟨_,rfl,by simp (disch:=omega) only[wp,qa,qb,qc],by omega,by first | omega | (dsimp only;omega)⟩,hpre.snoc (by rw[hpl];exact hx')⟩,?_,hsk',by omega⟩
    all_goals first
     | (simp (disch:=omega) only[wp,qa,qb,qc,e0,e1,e2,e6,e7,e8,e9,e10,e12,h0,h4,h2,insLC_snoc,List.set_set,Nat.mul_one,insC,exV];done)
     | (simp (disch:=omega) only[wp,qa,qb,qc,hfr i hi];done)
 ·have h1':¬ (k:Int) < n:=by omega
  obtain rfl:k = n:=by omega
  unfold pgC
  simp (disch:=omega) only[wp,qa,qb,qc,gl,e9,e12,h1']
  refine hQ _ _ ⟨pre,tok,hpl,⟨?_,?_,?_,?_,?_,?_,h0,h4,h2,by first | omega | (dsimp only;omega),hlen,hfr⟩,⟨by omega,fun j hj => hall j (by omega),by rw[hpl];exact hpre,by omega⟩⟩
  all_goals simp (disch:=omega) only[wp,qa,qb,qc,e0,e1,e2,e6,e7,e8]
end Go.Ab
end
