/- What ImmNumbers rests on, part 6: lemmas, no claim of its own. -/
import Derived.Test.YthafjhelijmpcaaGreatPImmNumbers5
set_option maxRecDepth 100000
set_option maxHeartbeats 16000000
open Nat renaming reduceAdd → qa, reduceMul → qb, reduceSub → qc
section
namespace Go.Ab
def A_xref19_Parts:AFun:={ res:=[.cell 2 (some 4)],body:=(.seq (.reg false [qo 1 (.box (.t 0)),qo 2 (.new (List.replicate 4 (.nilp)))])
 (.seq (.reg false [qo 12 (.ld (some 8) (.t 1)),qo 13 (.call .pure (.c (.fn 222 [] [])) [.t 12]),qm 3 13])
 (.seq (.reg false [qo 14 (.ld (some 8) (.t 1)),qo 15 (.fa 5 (.t 1)),qo 16 (.ld none (.t 15)),qo 17 (.call .pure (.c (.fn 223 [] [])) [.t 14,.t 16]),qm 4 17])
 (.seq (.reg true [qo 18 (.ld (some 8) (.t 1)),qo 19 (.fa 6 (.t 1)),qo 20 (.ld none (.t 19)),qo 21 (.call .pure (.c (.fn 223 [] [])) [.t 18,.t 20]),qm 22 3,qo 23 (.call .pure (.c (.fn 32 [] [])) [.t 21,.t 22]),qo 24 (.ld (some 8) (.t 1)),qo 25 (.fa 7 (.t 1)),qo 26 (.ld none (.t 25)),qo 27 (.call .pure (.c (.fn 223 [] [])) [.t 24,.t 26]),qm 28 3,qo 29 (.call .pure (.c (.fn 32 [] [])) [.t 27,.t 28]),qm 5 23,qm 6 29])
 (.seq (.reg true [qo 30 (.ld (some 8) (.t 1)),qo 31 (.ld (some 8) (.t 1)),qo 32 (.call .pure (.c (.fn 69 [] [])) [.t 31]),qo 33 (.call .pure (.c (.fn 74 [] [])) [.t 30,.t 32]),qm 7 33])
 (.seq (.reg false [qo 34 (.fa 1 (.t 1)),qo 35 (.ld none (.t 34)),qo 36 (.len (.t 35)),qo 37 (.call .pure (.c (.fn 27 [] [])) [.t 36,.c (.sl [] 0 .rig)]),qm 8 37])
 (.seq (.reg true [qm 38 4,qo 39 (.ld (some 8) (.t 1)),qo 40 (.call .pure (.c (.fn 174 [] [])) [.t 39]),qo 41 (.call .pure (.c (.fn 29 [] [])) [.t 38,.t 40]),qm 42 7,qo 43 (.call .pure (.c (.fn 29 [] [])) [.t 41,.t 42]),qm 44 8,qm 45 6,qo 46 (.ld (some 8) (.t 1)),qo 47 (.call .pure (.c (.fn 175 [] [])) [.t 46]),qo 48 (.call .pure (.c (.fn 29 [] [])) [.t 45,.t 47]),qm 49 4,qo 50 (.ld (some 8) (.t 1)),qo 51 (.call .pure (.c (.fn 224 [] [])) [.t 50]),qo 52 (.call .pure (.c (.fn 29 [] [])) [.t 49,.t 51]),qm 53 5,qo 54 (.call .pure (.c (.fn 29 [] [])) [.t 52,.t 53]),qo 55 (.build (List.replicate 4 (.nilp)) [(0,1,.t 43),(1,1,.t 44),(2,1,.t 48),(3,1,.t 54)]),qo 9 (.new (List.replicate 4 (.nilp))),qnp (.stL 4 (.t 9) (.t 55)) [18]])
 (.seq (.reg false [qo 56 (.ld (some 4) (.t 9)),qo 10 (.new (List.replicate 4 (.nilp))),qn (.st 4 (.t 10) (.t 56))])
 (.blk 0 (.loop (.blk 1 (.seq (.reg true [qo 57 (.fa 0 (.t 9)),qo 58 (.ld none (.t 57)),qo 59 (.fa 2 (.t 10)),qo 60 (.ld none (.t 59)),qo 61 (.call .pure (.c (.fn 29 [] [])) [.t 58,.t 60]),qo 62 (.fa 1 (.t 10)),qo 63 (.ld none (.t 62)),qo 64 (.fa 2 (.t 10)),qo 65 (.ld none (.t 64)),qo 66 (.call .pure (.c (.fn 32 [] [])) [.t 63,.t 65]),qo 67 (.call .pure (.c (.fn 29 [] [])) [.t 61,.t 66]),qo 68 (.fa 0 (.t 10)),qo 69 (.ld none (.t 68)),qo 70 (.fa 0 (.t 10)),qo 71 (.ld none (.t 70)),qo 72 (.call .pure (.c (.fn 32 [] [])) [.t 69,.t 71]),qo 73 (.call .pure (.c (.fn 29 [] [])) [.t 67,.t 72]),qo 74 (.fa 0 (.t 10)),qo 75 (.ld none (.t 74)),qo 76 (.fa 3 (.t 10)),qo 77 (.ld none (.t 76)),qo 78 (.call .pure (.c (.fn 29 [] [])) [.t 75,.t 77]),qo 79 (.fa 1 (.t 10)),qo 80 (.ld none (.t 79)),qo 81 (.fa 3 (.t 10)),qo 82 (.ld none (.t 81)),qo 83 (.call .pure (.c (.fn 32 [] [])) [.t 80,.t 82]),qo 84 (.call .pure (.c (.fn 29 [] [])) [.t 78,.t 83]),qo 85 (.fa 0 (.t 10)),qo 86 (.ld none (.t 85)),qo 87 (.fa 1 (.t 10)),qo 88 (.ld none (.t 87)),qo 89 (.call .pure (.c (.fn 32 [] [])) [.t 86,.t 88]),qo 90 (.call .pure (.c (.fn 29 [] [])) [.t 84,.t 89]),qo 91 (.fa 2 (.t 9)),qo 92 (.ld none (.t 91)),qo 93 (.fa 2 (.t 10)),qo 94 (.ld none (.t 93)),qo 95 (.fa 0 (.t 10)),qo 96 (.ld none (.t 95)),qo 97 (.call .pure (.c (.fn 32 [] [])) [.t 94,.t 96]),qo 98 (.call .pure (.c (.fn 29 [] [])) [.t 92,.t 97]),qo 99 (.fa 3 (.t 10)),qo 100 (.ld none (.t 99)),qo 101 (.fa 2 (.t 10)),qo 102 (.ld none (.t 101)),qo 103 (.call .pure (.c (.fn 32 [] [])) [.t 100,.t 102]),qo 104 (.call .pure (.c (.fn 29 [] [])) [.t 98,.t 103]),qo 105 (.fa 3 (.t 9)),qo 106 (.ld none (.t 105)),qo 107 (.fa 2 (.t 10)),qo 108 (.ld none (.t 107)),qo 109 (.call .pure (.c (.fn 29 [] [])) [.t 106,.t 108]),qo 110 (.fa 2 (.t 10)),qo 111 (.ld none (.t 110)),qo 112 (.fa 1 (.t 10)),qo 113 (.ld none (.t 112)),qo 114 (.call .pure (.c (.fn 32 [] [])) [.t 111,.t 113]),qo 115 (.call .pure (.c (.fn 29 [] [])) [.t 109,.t 114]),qo 116 (.fa 3 (.t 10)),qo 117 (.ld none (.t 116)),qo 118 (.fa 3 (.t 10)),qo 119 (.ld none (.t 118)),qo 120 (.call .pure (.c (.fn 32 [] [])) [.t 117,.t 119]),qo 121 (.call .pure (.c (.fn 29 [] [])) [.t 115,.t 120]),qo 122 (.build (List.replicate 4 (.nilp)) [(0,1,.t 73),(1,1,.t 90),(2,1,.t 104),(3,1,.t 121)]),qo 11 (.new (List.replicate 4 (.nilp))),qnp (.stL 4 (.t 11) (.t 122)) [66]])
 (.seq (.reg true [qo 123 (.fa 0 (.t 11)),qo 124 (.ld none (.t 123)),qo 125 (.fa 0 (.t 10)),qo 126 (.ld none (.t 125)),qo 127 (.call .pure (.c (.fn 29 [] [])) [.t 124,.t 126]),qo 128 (.fa 1 (.t 11)),qo 129 (.ld none (.t 128)),qo 130 (.fa 1 (.t 10)),qo 131 (.ld none (.t 130)),qo 132 (.call .pure (.c (.fn 29 [] [])) [.t 129,.t 131]),qo 133 (.fa 2 (.t 11)),qo 134 (.ld none (.t 133)),qo 135 (.fa 2 (.t 10)),qo 136 (.ld none (.t 135)),qo 137 (.call .pure (.c (.fn 29 [] [])) [.t 134,.t 136]),qo 138 (.fa 3 (.t 11)),qo 139 (.ld none (.t 138)),qo 140 (.fa 3 (.t 10)),qo 141 (.ld none (.t 140)),qo 142 (.call .pure (.c (.fn 29 [] [])) [.t 139,.t 141]),qo 143 (.build (List.replicate 4 (.nilp)) [(0,1,.t 127),(1,1,.t 132),(2,1,.t 137),(3,1,.t 142)]),qn (.st 4 (.t 11) (.t 143))])
 (.seq (.seq (.reg false [qo 144 (.fa 0 (.t 11)),qo 145 (.ld none (.t 144)),qo 146 (.fa 0 (.t 10)),qo 147 (.ld none (.t 146)),qo 148 (.call .pure (.c (.fn 36 [] [])) [.t 145,.t 147]),qm 149 148,qg 150 (.fa 1 (.t 11)) 149 true,qg 151 (.ld none (.t 150)) 149 true,qg 152 (.fa 1 (.t 10)) 149 true,qg 153 (.ld none (.t 152)) 149 true,qg 154 (.call .pure (.c (.fn 36 [] [])) [.t 151,.t 153]) 149 true,qo 155 (.pick (.t 149) (.t 154) (.c (.b false))),qm 156 155,qg 157 (.fa 2 (.t 11)) 156 true,qg 158 (.ld none (.t 157)) 156 true,qg 159 (.fa 2 (.t 10)) 156 true,qg 160 (.ld none (.t 159)) 156 true,qg 161 (.call .pure (.c (.fn 36 [] [])) [.t 158,.t 160]) 156 true,qo 162 (.pick (.t 156) (.t 161) (.c (.b false))),qm 163 162,qg 164 (.fa 3 (.t 11)) 163 true,qg 165 (.ld none (.t 164)) 163 true,qg 166 (.fa 3 (.t 10)) 163 true,qg 167 (.ld none (.t 166)) 163 true,qg 168 (.call .pure (.c (.fn 36 [] [])) [.t 165,.t 167]) 163 true,qo 169 (.pick (.t 163) (.t 168) (.c (.b false)))])
 (.cond (.t 169) (.seq (.reg false [qo 170 (.ld (some 4) (.t 11)),qn (.st 4 (.t 2) (.t 170))])
 .ret)
 .skip))
 (.reg false [qo 171 (.ld (some 4) (.t 11)),qn (.st 4 (.t 10) (.t 171))]))))))))))))))) }
def A_xref19_Ppo:AFun:={ res:=[.t 2],body:=(.seq (.reg false [qo 1 (.box (.t 0)),qo 2 (.mv (.c (.nilp)))])
 (.seq (.reg false [qo 6 (.ld (some 8) (.t 1)),qo 7 (.call .pure (.c (.fn 171 [] [])) [.t 6]),qo 3 (.new (List.replicate 4 (.nilp))),qn (.st 4 (.t 3) (.t 7))])
 (.seq (.reg true [qo 8 (.ld (some 8) (.t 1)),qo 9 (.call .pure (.c (.fn 225 [] [])) [.t 8,.c (.i .i64 1),.c (.i .i64 0),.c (.i .i64 4)]),qo 10 (.ld (some 8) (.t 1)),qo 11 (.call .pure (.c (.fn 225 [] [])) [.t 10,.c (.i .i64 2),.c (.i .i64 0),.c (.i .i64 4)]),qm 4 9,qm 5 11])
 (.seq (.reg true [qm 12 4,qo 13 (.fa 0 (.t 3)),qo 14 (.ld none (.t 13)),qo 15 (.call .pure (.c (.fn 32 [] [])) [.t 12,.t 14]),qm 16 4,qo 17 (.call .pure (.c (.fn 32 [] [])) [.t 15,.t 16]),qm 18 4,qo 19 (.fa 1 (.t 3)),qo 20 (.ld none (.t 19)),qo 21 (.call .pure (.c (.fn 32 [] [])) [.t 18,.t 20]),qm 22 5,qo 23 (.call .pure (.c (.fn 32 [] [])) [.t 21,.t 22]),qo 24 (.call .pure (.c (.fn 29 [] [])) [.t 17,.t 23]),qm 2 24])
 .ret)))) }
def A_xref19_Rdw:AFun:={ res:=[.t 2],body:=(.seq (.reg false [qo 1 (.box (.t 0)),qo 2 (.mv (.c (.nilp)))])
 (.seq (.reg true [qo 3 (.ld (some 8) (.t 1)),qo 4 (.call .pure (.c (.fn 224 [] [])) [.t 3]),qo 5 (.ld (some 8) (.t 1)),qo 6 (.call .pure (.c (.fn 226 [] [])) [.t 5]),qo 7 (.ld (some 8) (.t 1)),qo 8 (.call .pure (.c (.fn 227 [] [])) [.t 7]),qo 9 (.call .pure (.c (.fn 32 [] [])) [.t 6,.t 8]),qo 10 (.call .pure (.c (.fn 30 [] [])) [.t 4,.t 9]),qm 2 10])
 .ret)) }
def A_xref19_Detour:AFun:={ res:=[.t 2],body:=(.seq (.reg false [qo 1 (.box (.t 0)),qo 2 (.mv (.c (.nilp)))])
 (.seq (.reg true [qo 3 (.ld (some 8) (.t 1)),qo 4 (.call .pure (.c (.fn 224 [] [])) [.t 3]),qo 5 (.ld (some 8) (.t 1)),qo 6 (.call .pure (.c (.fn 228 [] [])) [.t 5]),qo 7 (.ld (some 8) (.t 1)),qo 8 (.call .pure (.c (.fn 227 [] [])) [.t 7]),qo 9 (.call .pure (.c (.fn 32 [] [])) [.t 6,.t 8]),qo 10 (.call .pure (.c (.fn 30 [] [])) [.t 4,.t 9]),qm 2 10])
 .ret)) }
def A_xref19_M:AFun:={ res:=[.t 2],body:=(.seq (.reg false [qo 1 (.box (.t 0)),qo 2 (.mv (.c (.nilp)))])
 (.seq (.reg true [qo 3 (.ld (some 8) (.t 1)),qo 4 (.call .pure (.c (.fn 225 [] [])) [.t 3,.c (.i .i64 1),.c (.i .i64 0),.c (.i .i64 4)]),qo 5 (.ld (some 8) (.t 1)),qo 6 (.call .pure (.c (.fn 225 [] [])) [.t 5,.c (.i .i64 2),.c (.i .i64 0),.c (.i .i64 4)]),qo 7 (.call .pure (.c (.fn 29 [] [])) [.t 4,.t 6]),qm 2 7])
 .ret)) }
def A_xref19_Ploc:AFun:={ res:=[.t 2],body:=(.seq (.reg false [qo 1 (.box (.t 0)),qo 2 (.mv (.c (.nilp)))])
 (.seq (.reg true [qo 3 (.ld (some 8) (.t 1)),qo 4 (.ld (some 8) (.t 1)),qo 5 (.call .pure (.c (.fn 73 [] [])) [.t 4]),qo 6 (.call .pure (.c (.fn 247 [] [])) [.t 3,.t 5]),qm 2 6])
 .ret)) }
def A_xref19_fre:AFun:={ res:=[.t 2],body:=(.seq (.reg false [qo 1 (.box (.t 0)),qo 2 (.mv (.c (.nilp)))])
 (.seq (.reg true [qo 3 (.ld (some 8) (.t 1)),qo 4 (.ld (some 8) (.t 1)),qo 5 (.call .pure (.c (.fn 71 [] [])) [.t 4]),qo 6 (.call .pure (.c (.fn 75 [] [])) [.t 3,.t 5]),qm 2 6])
 .ret)) }
def A_xref19_rfe:AFun:={ res:=[.t 2],body:=(.seq (.reg false [qo 1 (.box (.t 0)),qo 2 (.mv (.c (.nilp)))])
 (.seq (.reg true [qo 3 (.ld (some 8) (.t 1)),qo 4 (.ld (some 8) (.t 1)),qo 5 (.call .pure (.c (.fn 69 [] [])) [.t 4]),qo 6 (.call .pure (.c (.fn 75 [] [])) [.t 3,.t 5]),qm 2 6])
 .ret)) }
def A_xref19_coe:AFun:={ res:=[.t 2],body:=(.seq (.reg false [qo 1 (.box (.t 0)),qo 2 (.mv (.c (.nilp)))])
 (.seq (.reg true [qo 3 (.ld (some 8) (.t 1)),qo 4 (.ld (some 8) (.t 1)),qo 5 (.call .pure (.c (.fn 70 [] [])) [.t 4]),qo 6 (.call .pure (.c (.fn 75 [] [])) [.t 3,.t 5]),qm 2 6])
 .ret)) }
def A_xref19_Mine:AFun:={ res:=[.t 4],body:=(.seq (.reg false [qo 2 (.box (.t 0)),qo 4 (.mv (.c (.nilp)))])
 (.seq (.reg false [qm 8 1,qo 9 (.nilck (.t 8)),qo 10 (.fa 0 (.t 9)),qo 11 (.ld none (.t 10)),qo 12 (.call .thaw (.c (.fn 27 [] [])) [.t 11,.c (.sl [] 0 .rig)]),qm 5 12])
 (.seq (.seq (.reg false [qo 6 (.mv (.c (.i .i64 0)))])
 (.blk 0 (.loop (.seq (.seq (.reg false [qm 13 6,qm 14 1,qo 15 (.nilck (.t 14)),qo 16 (.fa 0 (.t 15)),qo 17 (.ld none (.t 16)),qo 18 (.bin .lss (.t 13) (.t 17))])
 (.cond (.t 18) .skip
 (.ext 0)))
 (.seq (.blk 1 (.seq (.reg false [qo 7 (.mv (.c (.i .i64 0)))])
 (.blk 2 (.loop (.seq (.seq (.reg false [qm 21 7,qm 22 1,qo 23 (.nilck (.t 22)),qo 24 (.fa 0 (.t 23)),qo 25 (.ld none (.t 24)),qo 26 (.bin .lss (.t 21) (.t 25))])
 (.cond (.t 26) .skip
 (.ext 2)))
 (.seq (.blk 3 (.reg true [qm 29 5,qm 30 6,qm 31 7,qm 32 1,qm 33 6,qm 34 7,qo 35 (.nilck (.t 32)),qo 36 (.fa 1 (.t 35)),qo 37 (.iaa 40 40 (.t 36) (.t 33)),qo 38 (.iaa 40 1 (.t 37) (.t 34)),qo 39 (.ld none (.t 38)),qm 40 39,qg 41 (.fa 1 (.t 2)) 40 true,qg 42 (.ld none (.t 41)) 40 true,qg 43 (.mv (.t 6)) 40 true,qg 44 (.ia 6 (.t 42) (.t 43)) 40 true,qg 45 (.fa 0 (.t 44)) 40 true,qg 46 (.ld none (.t 45)) 40 true,qg 47 (.bin .gtr (.t 46) (.c (.i .i64 0))) 40 true,qo 48 (.pick (.t 40) (.t 47) (.c (.b false))),qm 49 48,qg 50 (.fa 1 (.t 2)) 49 true,qg 51 (.ld none (.t 50)) 49 true,qg 52 (.mv (.t 6)) 49 true,qg 53 (.ia 6 (.t 51) (.t 52)) 49 true,qg 54 (.fa 0 (.t 53)) 49 true,qg 55 (.ld none (.t 54)) 49 true,qg 56 (.fa 1 (.t 2)) 49 true,qg 57 (.ld none (.t 56)) 49 true,qg 58 (.mv (.t 7)) 49 true,qg 59 (.ia 6 (.t 57) (.t 58)) 49 true,qg 60 (.fa 0 (.t 59)) 49 true,qg 61 (.ld none (.t 60)) 49 true,qg 62 (.bin .eql (.t 55) (.t 61)) 49 true,qo 63 (.pick (.t 49) (.t 62) (.c (.b false))),qo 64 (.nilck (.t 29)),qo 65 (.fa 1 (.t 64)),qo 66 (.iaa 40 40 (.t 65) (.t 30)),qo 67 (.iaa 40 1 (.t 66) (.t 31)),qn (.st 1 (.t 67) (.t 63))]))
 (.reg false [qm 27 7,qo 28 (.bin .add (.t 27) (.c (.i .i64 1))),qm 7 28])))))))
 (.reg false [qm 19 6,qo 20 (.bin .add (.t 19) (.c (.i .i64 1))),qm 6 20]))))))
 (.seq (.reg false [qm 68 5,qm 4 68])
 .ret)))) }
structure Pk_xref19 (F:Funs):Prop where
 xref19_Parts:F 171 = some A_xref19_Parts
 xref19_Ppo:F 173 = some A_xref19_Ppo
 xref19_Rdw:F 174 = some A_xref19_Rdw
 xref19_Detour:F 175 = some A_xref19_Detour
 xref19_M:F 222 = some A_xref19_M
 xref19_Ploc:F 224 = some A_xref19_Ploc
 xref19_fre:F 226 = some A_xref19_fre
 xref19_rfe:F 227 = some A_xref19_rfe
 xref19_coe:F 228 = some A_xref19_coe
 xref19_Mine:F 247 = some A_xref19_Mine
end Go.Ab
end
section
set_option linter.unusedVariables false
set_option linter.unusedSimpArgs false
namespace Go.Ab
variable {F:Funs}
theorem RefF.co (S:RefF F) {X:Gr} (hX:FewG X) (h:GraphOk X):pureS F 70 [.agg (grC X)] = some (.ptr (matC X.evs.length (anyM (coX X X.co.length)))):=
 sp_mCo S.p9.xref09_Co S.px.xref01_New (X:=X) h.n40 (by have:=hX.co;omega) (fun j hj => by
  have hm:X.co.getD j []∈X.co:=by
   rw[List.getD_eq_getElem?_getD,List.getElem?_eq_getElem hj];exact List.getElem_mem hj
  have:=hX.cos _ hm
  have n40:=h.n40
  exact ⟨by omega,fun i hi => by have:=h.cor j hj i hi;omega⟩)
theorem RefF.fr (S:RefF F) {X:Gr} (hX:FewG X) (h:GraphOk X):pureS F 71 [.agg (grC X)] = some (.ptr (matC X.evs.length (frM X.evs.length (anyM (rfL X X.rf.length)) (anyM (coX X X.co.length))))):=
 sp_mFr S.p9.xref09_Fr S.px.xref01_New S.px.xref01_R_Then S.px.xref01_R_Back h.n40 (S.rf h) (S.co hX h)
section
variable {X:Gr} (h:GraphOk X)
include h
end
section
variable {X:Gr} (h:GraphOk X)
include h
end
section
variable (S:RefF F) (p:Pk_xref19 F) {X:Gr} (hX:FewG X) (h:GraphOk X)
include S p hX h
end
end Go.Ab
end
section
set_option linter.unusedVariables false
set_option linter.unusedSimpArgs false
namespace Go.Ab
variable {F:Funs}
theorem lck_miss {g:G} {v:AV} {i:Nat} {b:Blk} (h:g.hp i = some b) (hv:(vis g.hp depth v).contains i = false):(lckG g v).hp i = some b:=by
 unfold lckG lock
 simp only[hv]
 exact h
theorem vis_mpf {hp:Nat→Option Blk} {id off:Nat} {cs:List AV} (h:hp id = some (.cells cs false)) (hf:cs.all flat = true):vis hp depth (.mp id off) = [id]:=by
 show vis hp (8 + 1) _ = _
 have h0:∀ l:List AV,l.all flat = true→l.flatMap (vis hp 8) = []:=by
  intro l hl
  rw[List.flatMap_eq_nil_iff]
  intro v hv
  exact vis_flat (d:=7) (List.all_eq_true.1 hl v hv)
 generalize (8:Nat) = m at h0
 simp only[vis,h]
 rw[h0 _ (by rw[List.all_eq_true] at hf ⊢;exact fun v hv => hf v (List.mem_of_mem_drop hv))]
 rfl
def r11 (X:Gr):Mx:=opM (fun x y => x || y) (newM X.evs.length X.data) (newM X.evs.length X.ctrl) X.evs.length
def deps11 (X:Gr):Mx:=opM (fun x y => x || y) (r11 X) (thM (kindK X oEx X.evs.length) (mpoM X) X.evs.length X.evs.length) X.evs.length
theorem m11_deps (h256:F 256 = some A_xref11_Deps) (S:RefF F) {X:Gr} (h:GraphOk X) (hd:X.data.length≤1000) (hc:X.ctrl.length≤1000):pureS F 256 [.agg (grC X)] = some (.ptr (matC X.evs.length (deps11 X))):=by
 refine pure_of h256 ?_
 have hn:=h.n40
 have fin0:deps11 X = opM (fun x y => x || y) (r11 X) (thM (kindK X oEx X.evs.length) (mpoM X) X.evs.length X.evs.length) X.evs.length:=rfl
 have r11d:r11 X = opM (fun x y => x || y) (newM X.evs.length X.data) (newM X.evs.length X.ctrl) X.evs.length:=rfl
 simp (disch:=omega) only[A_xref11_Deps,wp,qa,qb,qc,gl,ml,S.ofL h,S.or h,thaw27 S.px.xref01_New]
 rw[←r11d]
 generalize r11 X = R0 at fin0
 refine W_loop (fun q e g => ∃ a:Nat,q = X.evs.length - a∧a≤X.evs.length∧e 1 = .mp 0 0∧e 3 = .ptr (matC X.evs.length R0)∧e 4 = .mp 15 0∧e 5 = .i .i64 a∧g.hp 0 = some (.cells (grC X) false)∧g.hp 15 = some (.cells (matC X.evs.length (kindK X oEx a)) false)∧15 < g.nx) X.evs.length ?_ ?_
 ·refine ⟨0,rfl,Nat.zero_le _,?_⟩
  simp (disch:=omega) only[wp,qa,qb,qc]
  exact ⟨rfl,by rw[kindK_0],by first | omega | (dsimp only;omega)⟩
 ·rintro q e g ⟨a,rfl,ha,e1,e3,e4,e5,hg,hm,hnx⟩
  by_cases ha':a < X.evs.length
  ·have ha1:(a:Int) < X.evs.length:=by omega
   have hwa:=succ_wrap (k:=a) (by omega)
   have kA:=ev_kd_at ha'
   have xA:=ev_ex_at ha'
   have dA:(List.drop (a * 6) (evsC X.evs)).length = X.evs.length * 6 - a * 6:=by rw[List.length_drop,evsC_len]
   have hs:=kindK_succ X oEx a
   have hset:=fun x => matC_set (n:=X.evs.length) (M:=kindK X oEx a) (a:=a) (b:=a) (x:=x) (by omega)
   have hq:oEx (X.evs.getD a ev0) = ((X.evs.getD a ev0).kd == 1 && (X.evs.getD a ev0).ex):=rfl
   rw[hq] at hs
   generalize (X.evs.getD a ev0).kd = kd at kA hs
   generalize (X.evs.getD a ev0).ex = ex at xA hs
   have fin:∀ x,x = (kd == 1 && ex)→X.evs.length - (a + 1) < X.evs.length - a∧upd2 (kindK X oEx a) a a x = kindK X oEx (a + 1):=fun x hx => ⟨by omega,by rw[hx,hs]⟩
   cases c0:(kd == 1)
   case false =>
    simp (disch:=omega) only[wp,qa,qb,qc,gl,ml,e1,e3,e4,e5,hg,hm,ha1,kA,xA,dA,c0,hset,hwa]
    obtain ⟨f1,f2⟩:=fin false (by rw[c0];rfl)
    exact ⟨_,f1,a + 1,rfl,by omega,rfl,by rw[f2],by first | omega | (dsimp only;omega)⟩
   simp (disch:=omega) only[wp,qa,qb,qc,gl,ml,e1,e3,e4,e5,hg,hm,ha1,kA,xA,dA,c0,hset,hwa]
   obtain ⟨f1,f2⟩:=fin ex (by rw[c0];rfl)
   exact ⟨_,f1,a + 1,rfl,by omega,rfl,by rw[f2],by first | omega | (dsimp only;omega)⟩
  ·obtain rfl:a = X.evs.length:=by omega
   have ha1:¬ ((X.evs.length:Int) < X.evs.length):=by omega
   simp (disch:=omega) only[wp,qa,qb,qc,gl,ml,e1,e3,e4,e5,hg,hm,ha1]
   refine W_immM (fun e g => e 1 = .mp 0 0∧e 3 = .ptr (matC X.evs.length R0)∧e 4 = .mp 15 0∧g.hp 0 = some (.cells (grC X) false)∧g.hp 15 = some (.cells (matC X.evs.length (kindK X oEx X.evs.length)) false)∧15 < g.nx) ?_ ?_
   ·simp (disch:=omega) only[wp,qa,qb,qc,gl,e1,e3,e4,e5,hg,hm]
    exact (by first | omega | (dsimp only;omega))
   ·rintro e g ⟨e1,e3,e4,hg,hm,hnx⟩
    have hfz:frz g.hp depth (e 4) = some (.ptr (matC X.evs.length (kindK X oEx X.evs.length))):=by
     rw[e4]
     exact frz_d_mp hm (frzL_flat (matC_flat _ _))
    have hg':(lckG g (e 4)).hp 0 = some (.cells (grC X) false):=by
     rw[e4]
     exact lck_miss hg (by rw[vis_mpf hm (matC_flat _ _)];rfl)
    rw[W_imm hfz]
    generalize lckG g (e 4) = g' at hg'
    simp (disch:=omega) only[wp,qa,qb,qc,gl,ml,e1,e3,hg',S.po h,S.then h,S.or h,fin0]
theorem EqN.z {n:Nat} (hn:n≤40) {A:Mx} {R:Rw} (h:EqN n A R):EqN n A (orR (newR n []) R):=
 ⟨wf_or (wf_new hn _) h.1,fun a b ha hb' => by
  have hz:=(EqN.new hn []).2 a b ha hb'
  rw[h.2 a b ha hb',hb_or,←hz]
  simp[newM]⟩
theorem q_m1 (k f:Int) (e:Ev):(e.kd == k && e.md == f) = kindQ k f f e:=by
 unfold kindQ
 congr 1
 rw[Bool.eq_iff_iff]
 simp
 omega
section
variable {X:Gr} (h:GraphOk X)
include h
theorem eq_oR:EqN X.evs.length (kindK X (kindQ 1 0 1) X.evs.length) (setR X oR):=kq h fun e hk => by
 unfold oR kindQ
 rw[Bool.eq_iff_iff]
 simp
 omega
theorem eq_oW:EqN X.evs.length (kindK X (kindQ 2 0 2) X.evs.length) (setR X oW):=kq h fun e hk => by
 unfold oW kindQ
 rw[Bool.eq_iff_iff]
 simp
 omega
theorem eq_oF:EqN X.evs.length (kindK X (kindQ 3 1 4) X.evs.length) (setR X oF):=kq h fun e hk => by
 unfold oF kindQ
 rw[Bool.eq_iff_iff]
 simp
 omega
theorem eq_oRel:EqN X.evs.length (kindK X (kindQ 2 2 2) X.evs.length) (setR X oRel):=kq h fun e _ => q_m1 2 2 e
theorem eq_oAcq:EqN X.evs.length (kindK X (kindQ 1 1 1) X.evs.length) (setR X oAcq):=kq h fun e _ => q_m1 1 1 e
theorem eq_oSc:EqN X.evs.length (kindK X (kindQ 3 4 4) X.evs.length) (setR X oSc):=kq h fun e _ => q_m1 3 4 e
theorem eq_oEx:EqN X.evs.length (kindK X oEx X.evs.length) (setR X oEx):=EqN.set h fun i hi => rfl
theorem eq_deps:EqN X.evs.length (deps11 X) (depsR X):=by
 unfold depsR
 rw[h.nOf]
 exact (((EqN.new h.n40 X.data).z h.n40).or (EqN.new h.n40 X.ctrl)).or ((eq_oEx h).then (eq_po h))
end
section
variable (S:RefF F) (p:Pk_xref11 F) (p10:Pk_xref10 F) {X:Gr} (hX:FewG X) (h:GraphOk X)
include S p p10 hX h
omit S p p10 h in
theorem FewG.l1:X.data.length≤1000∧X.ctrl.length≤1000∧X.rmw.length≤1000:=by
 have h1:=hX.data
 have h2:=hX.ctrl
 have h3:=hX.rmw
 omega
omit hX in
theorem m11_bob:MIs F 255 X (bobR X):=by
 unfold bobR bobL locR
 rw[h.nOf]
 have e1:=(eq_po h).then (eq_oRel h)
 have e2:=(eq_oAcq h).then (eq_po h)
 have e3:=(eq_po h).then (eq_oF h)
 have e4:=(eq_oF h).then (eq_po h)
 have e5:=((eq_oRel h).then (eq_loc h)).then (eq_oW h)
 refine ⟨_,pure_of p.xref11_Bob ?_,((((e1.z h.n40).or e2).or e3).or e4).or e5⟩
 simp (disch:=omega) only[A_xref11_Bob,wp,qa,qb,qc,gl,S.po h,S.k h,mWrel S p10 h,mRacq S p10 h,mW S p10 h,S.loc h,S.then h,S.or h]
omit p10 in
theorem m11_depsI:MIs F 256 X (depsR X):=by
 obtain ⟨l1,l2,l3⟩:=FewG.l1 hX
 exact ⟨_,m11_deps p.xref11_Deps S h l1 l2,eq_deps h⟩
theorem m11_ppo:MIs F 257 X (oppoR X):=by
 obtain ⟨A,hA,eA⟩:=m11_depsI S p hX h
 unfold oppoR rfR
 rw[h.nOf]
 have e1:=((eq_oR h).then ((eA.or (eq_inner h (eq_rf h))).plus)).then (eq_oW h)
 refine ⟨_,pure_of p.xref11_Ppo ?_,e1⟩
 simp (disch:=omega) only[A_xref11_Ppo,wp,qa,qb,qc,gl,S.k h,S.rf h,S.inner h,hA,S.or h,S.plus h,S.then h,mW S p10 h]
omit p10 in
theorem m11_detour:MIs F 258 X (odetR X):=by
 unfold odetR rfR
 rw[h.nOf]
 have e1:=((eq_outer h (eq_co h)).then (eq_outer h (eq_rf h))).and (eq_po h)
 refine ⟨_,pure_of p.xref11_Detour ?_,e1⟩
 simp (disch:=omega) only[A_xref11_Detour,wp,qa,qb,qc,gl,S.co hX h,S.rf h,S.outer h,S.then h,S.po h,S.and h]
theorem m11_psc (h83:F 83 = some A_xref09_Com) (h72:F 72 = some A_xref09_Eco):MIs F 259 X (pscR X):=by
 obtain ⟨l1,l2,l3⟩:=FewG.l1 hX
 obtain ⟨A,hA,eA⟩:=mHb S p10 h l3
 have he:=sp_mEco h72 S.px.xref01_New S.px.xref01_R_Plus h.n40 (sp_mCom h83 S.px.xref01_New S.px.xref01_R_Or h.n40 (S.rf h) (S.co hX h) (S.fr hX h))
 unfold pscR
 rw[h.nOf]
 have e1:=(((((eq_oSc h).then eA).then (eq_eco h)).then eA).then (eq_oSc h))
 refine ⟨_,pure_of p.xref11_Psc ?_,e1⟩
 simp (disch:=omega) only[A_xref11_Psc,wp,qa,qb,qc,gl,S.k h,hA,he,S.then h]
theorem m11_ar (h83:F 83 = some A_xref09_Com) (h72:F 72 = some A_xref09_Eco):MIs F 260 X (arR X):=by
 obtain ⟨A,hA,eA⟩:=m11_bob S p p10 h
 obtain ⟨B,hB,eB⟩:=m11_ppo S p p10 hX h
 obtain ⟨C,hC,eC⟩:=m11_detour S p hX h
 obtain ⟨D,hD,eD⟩:=m11_psc S p p10 hX h h83 h72
 unfold arR rfR
 rw[h.nOf]
 have e1:=(((((eq_outer h (eq_rf h)).z h.n40).or eA).or eB).or eC).or eD
 refine ⟨_,pure_of p.xref11_Ar ?_,e1⟩
 simp (disch:=omega) only[A_xref11_Ar,wp,qa,qb,qc,gl,S.rf h,S.outer h,hA,hB,hC,hD,S.or h]
end
end Go.Ab
end
section
set_option linter.unusedVariables false
set_option linter.unusedSimpArgs false
namespace Go.Ab
variable {F:Funs}
theorem z10:((1:Int) == 0) = false:=rfl
theorem z12:((1:Int) == 2) = false:=rfl
theorem z20:((2:Int) == 0) = false:=rfl
theorem z21:((2:Int) == 1) = false:=rfl
theorem z31:((3:Int) == 1) = false:=rfl
theorem z32:((3:Int) == 2) = false:=rfl
theorem st_event (h63:F 63 = some A_xref06_event) {X:Gr} {i:Nat} (hi:i < X.evs.length) (hl:1≤X.locs) (hn:X.evs.length≤100) (ok:EvOk X.locs i (X.evs.getD (i - 1) ev0) (X.evs.getD i ev0)):pureS F 63 [.agg (grC X),.i .i64 i] = some (.b true):=by
 refine pure_of h63 ?_
 have hp:=ev_part hi
 have hq:=ev_th_at (l:=X.evs) (k:=i - 1) (by omega)
 have hdl:(List.drop ((i - 1) * 6) (evsC X.evs)).length = X.evs.length * 6 - (i - 1) * 6:=by rw[List.length_drop,evsC_len]
 generalize X.evs.getD i ev0 = ev at hp ok
 generalize X.evs.getD (i - 1) ev0 = pv at hq ok
 obtain ⟨th,kd,md,lc,vl,ex⟩:=ev
 obtain ⟨k1,k2⟩:=ok
 dsimp only at k1 k2
 have s6:∀ b1 b2 b3 b4 b5 b6 c1 c2 c3 c4 c5 c6:AV,splice [b1,b2,b3,b4,b5,b6] 0 [c1,c2,c3,c4,c5,c6] = [c1,c2,c3,c4,c5,c6]:=fun _ _ _ _ _ _ _ _ _ _ _ _ => rfl
 by_cases hlt:(i:Int) < X.locs
 ·obtain ⟨rfl,rfl,rfl,rfl,rfl,rfl⟩:=k1 hlt
  simp (disch:=omega) only[A_xref06_event,wp,qa,qb,qc,gl,hp,hlt]
 ·obtain ⟨t1,t2,t3,k3⟩:=k2 hlt
  have hi0:0 < i:=by omega
  have hw1:IntKind.i64.wrap ((i:Int) - 1) = ((i - 1:Nat):Int):=by rw[i64_wrap (by omega) (by omega)];omega
  have hi0':(0:Int) < i:=by omega
  rcases k3 with ⟨rfl,l1,l2,rfl | rfl⟩ | ⟨rfl,l1,l2,rfl | rfl⟩ | ⟨rfl,m1,m2,rfl,rfl,rfl⟩
  all_goals
   have n1:¬ th < 1:=by omega
   have n2:¬ 4 < th:=by omega
   have n3:¬ th < pv.th:=by omega
   have n4:(0:Int)≤0:=by omega
   have n5:(0:Int) < X.locs:=by omega
   simp (disch:=omega) only[A_xref06_event,wp,qa,qb,qc,gl,hp,hlt,hi0',hw1,hq,hdl,n1,n2,n3,n4,n5,z10,z12,z20,z21,z31,z32, *]
theorem st_rf (h64:F 64 = some A_xref06_rf) {X:Gr} {i:Nat} (hi:i < X.evs.length) (hr:i < X.rf.length) (ok:RfOk X i):pureS F 64 [.agg (grC X),.i .i64 i] = some (.b true):=by
 refine pure_of h64 ?_
 have hp:=ev_part hi
 have hq:=ints_part hr
 have hx:=fun h => ev_part (l:=X.evs) (k:=(X.rf.getD i 0).toNat) h
 obtain ⟨ok1,ok2⟩:=ok
 generalize X.evs.getD i ev0 = ev at hp ok1 ok2
 generalize X.rf.getD i 0 = w at hq hx ok1 ok2
 generalize X.evs.getD w.toNat ev0 = xv at hx ok2
 obtain ⟨th,kd,md,lc,vl,ex⟩:=ev
 obtain ⟨th',kd',md',lc',vl',ex'⟩:=xv
 dsimp only at ok1 ok2
 have s6:∀ b1 b2 b3 b4 b5 b6 c1 c2 c3 c4 c5 c6:AV,splice [b1,b2,b3,b4,b5,b6] 0 [c1,c2,c3,c4,c5,c6] = [c1,c2,c3,c4,c5,c6]:=fun _ _ _ _ _ _ _ _ _ _ _ _ => rfl
 cases c1:(kd != 1)
 case true =>
  obtain rfl:=ok1 (by simpa using c1)
  simp (disch:=omega) only[A_xref06_rf,wp,qa,qb,qc,gl,hp,hq,c1]
 have hk:kd = 1:=by simpa using c1
 obtain ⟨w0,w1,rfl,rfl,rfl⟩:=ok2 hk
 have hx:=hx (by omega)
 have n0:¬ w < 0:=by omega
 have n1:¬ (X.evs.length:Int)≤w:=by omega
 simp (disch:=omega) only[A_xref06_rf,wp,qa,qb,qc,gl,hp,hq,c1,hx,n0,n1]
theorem st_rising (h82:F 82 = some A_xref06_rising) (l:List (Int × Int)) (t:Tok) (hl:l.length≤1000) (ok:Rising l):pureS F 82 [.sl (pairsC l) l.length t] = some (.b true):=by
 refine pure_of h82 ?_
 simp (disch:=omega) only[A_xref06_rising,wp,qa,qb,qc,gl]
 refine W_loop (fun q e g => ∃ k:Nat,q = l.length - k∧k≤l.length∧e 0 = .sl (pairsC l) l.length t∧e 3 = .i .i64 ((k + 1:Nat):Int)) l.length ?_ ?_
 ·refine ⟨0,rfl,Nat.zero_le _,?_⟩
  simp (disch:=omega) only[wp,qa,qb,qc]
  exact rfl
 ·rintro q e g ⟨k,rfl,hk,e0,e3⟩
  by_cases hk':k + 1 < l.length
  ·have hk1:((k + 1:Nat):Int) < l.length:=by omega
   have hk0:(k:Int) < l.length:=by omega
   have hwk:=succ_wrap (k:=k + 1) (by omega)
   have hw1:IntKind.i64.wrap (((k + 1:Nat):Int) - 1) = (k:Int):=by rw[i64_wrap (by omega) (by omega)];omega
   have a0:=pairs_a (l:=l) (k:=k) (by omega)
   have b0:=pairs_b (l:=l) (k:=k) (by omega)
   have a1:=pairs_a hk'
   have b1:=pairs_b hk'
   have d0:(List.drop (k * 2) (pairsC l)).length = l.length * 2 - k * 2:=by rw[List.length_drop,pairsC_len]
   have d1:(List.drop ((k + 1) * 2) (pairsC l)).length = l.length * 2 - (k + 1) * 2:=by rw[List.length_drop,pairsC_len]
   have st:=ok k hk'
   generalize l.getD k (0,0) = p at a0 b0 st
   generalize l.getD (k + 1) (0,0) = q at a1 b1 st
   rcases st with st | ⟨st,st2⟩
   ·have c2:(q.1 == p.1) = false:=by simp;omega
    have n1:¬ q.1 < p.1:=by omega
    simp (disch:=omega) only[wp,qa,qb,qc,gl,e0,e3,hk1,hk0,hw1,a0,a1,b0,b1,d0,d1,n1,c2,hwk]
    exact ⟨l.length - (k + 1),by omega,k + 1,rfl,by omega,rfl⟩
   ·have c2:(q.1 == p.1) = true:=by simp;omega
    have n1:¬ q.1 < p.1:=by omega
    have n2:¬ q.2≤p.2:=by omega
    simp (disch:=omega) only[wp,qa,qb,qc,gl,e0,e3,hk1,hk0,hw1,a0,a1,b0,b1,d0,d1,n1,n2,c2,hwk]
    exact ⟨l.length - (k + 1),by omega,k + 1,rfl,by omega,rfl⟩
  ·have hk1:¬ (((k + 1:Nat):Int) < l.length):=by omega
   simp (disch:=omega) only[wp,qa,qb,qc,gl,e0,e3,hk1]
theorem st_deps (h67:F 67 = some A_xref06_deps) (h82:F 82 = some A_xref06_rising) (X:Gr) (l:List (Int × Int)) (t:Tok) (hl:l.length≤1000) (ok:DepsOk X l):pureS F 67 [.agg (grC X),.sl (pairsC l) l.length t] = some (.b true):=by
 refine pure_of h67 ?_
 obtain ⟨ok1,ok2⟩:=ok
 have hr:=st_rising h82 l .non hl ok2
 simp (disch:=omega) only[A_xref06_deps,wp,qa,qb,qc,gl]
 refine W_loop (fun q e g => ∃ k:Nat,q = l.length - k∧k≤l.length∧e 1 = .sl (pairsC l) l.length t∧e 2 = .mp 0 0∧e 5 = .i .i64 k∧g.hp 0 = some (.cells (grC X) false)∧0 < g.nx) l.length ?_ ?_
 ·refine ⟨0,rfl,Nat.zero_le _,?_⟩
  simp (disch:=omega) only[wp,qa,qb,qc]
  exact ⟨rfl,by first | omega | (dsimp only;omega)⟩
 ·rintro q e g ⟨k,rfl,hk,e1,e2,e5,hg,hnx⟩
  by_cases hk':k < l.length
  ·have hk1:(k:Int) < l.length:=by omega
   have hwk:=succ_wrap (k:=k) (by omega)
   have a0:=pairs_a hk'
   have b0:=pairs_b hk'
   have d0:(List.drop (k * 2) (pairsC l)).length = l.length * 2 - k * 2:=by rw[List.length_drop,pairsC_len]
   obtain ⟨c1,c2,c3,c4,c5⟩:=ok1 k hk'
   generalize l.getD k (0,0) = p at a0 b0 c1 c2 c3 c4 c5
   obtain ⟨a,b⟩:=p
   simp only at a0 b0 c1 c2 c3 c4 c5
   have ka:=ev_kd_at (l:=X.evs) (k:=a.toNat) (by omega)
   have ta:=ev_th_at (l:=X.evs) (k:=a.toNat) (by omega)
   have tb:=ev_th_at (l:=X.evs) (k:=b.toNat) (by omega)
   have da:(List.drop (a.toNat * 6) (evsC X.evs)).length = X.evs.length * 6 - a.toNat * 6:=by rw[List.length_drop,evsC_len]
   have db:(List.drop (b.toNat * 6) (evsC X.evs)).length = X.evs.length * 6 - b.toNat * 6:=by rw[List.length_drop,evsC_len]
   have c4:((X.evs.getD a.toNat ev0).kd != 1) = false:=by rw[c4];rfl
   have c5:((X.evs.getD a.toNat ev0).th != (X.evs.getD b.toNat ev0).th) = false:=by rw[c5,bne_self_eq_false]
   have n1:¬ a < 0:=by omega
   have n2:¬ b≤a:=by omega
   have n3:¬ (X.evs.length:Int)≤b:=by omega
   simp (disch:=omega) only[wp,qa,qb,qc,gl,e1,e2,e5,hg,hk1,a0,b0,d0,n1,n2,n3,ka,ta,tb,da,db,c4,c5,hwk]
   exact ⟨l.length - (k + 1),by omega,k + 1,rfl,by omega,rfl,by first | omega | (dsimp only;omega)⟩
  ·obtain rfl:k = l.length:=by omega
   have hk1:¬ ((l.length:Int) < l.length):=by omega
   simp (disch:=omega) only[wp,qa,qb,qc,gl,e1,e2,e5,hg,hk1,hr]
theorem st_rmw (h66:F 66 = some A_xref06_rmw) (h82:F 82 = some A_xref06_rising) {X:Gr} (hn:X.evs.length≤40) (hl:X.rmw.length≤1000) (ok:RmwOk X):pureS F 66 [.agg (grC X)] = some (.b true):=by
 refine pure_of h66 ?_
 have hr:=st_rising h82 X.rmw .non hl ok.rise
 have s6:∀ b1 b2 b3 b4 b5 b6 c1 c2 c3 c4 c5 c6:AV,splice [b1,b2,b3,b4,b5,b6] 0 [c1,c2,c3,c4,c5,c6] = [c1,c2,c3,c4,c5,c6]:=fun _ _ _ _ _ _ _ _ _ _ _ _ => rfl
 simp (disch:=omega) only[A_xref06_rmw,wp,qa,qb,qc,gl,cnt_zero]
 refine blk_cut (fun e g => e 1 = .mp 0 0∧e 3 = .mp 2 0∧g.hp 0 = some (.cells (grC X) false)∧g.hp 2 = some (.cells (cntC (inC X.rmw)) false)∧2 < g.nx) ?_ ?_
 ·refine W_loop (fun q e g => ∃ k:Nat,q = X.rmw.length - k∧k≤X.rmw.length∧e 1 = .mp 0 0∧e 3 = .mp 2 0∧e 4 = .i .i64 k∧g.hp 0 = some (.cells (grC X) false)∧g.hp 2 = some (.cells (cntC (inC (X.rmw.take k))) false)∧2 < g.nx) X.rmw.length ?_ ?_
  ·refine ⟨0,rfl,Nat.zero_le _,?_⟩
   simp (disch:=omega) only[wp,qa,qb,qc]
   exact ⟨rfl,by rfl,by first | omega | (dsimp only;omega)⟩
  ·rintro q e g ⟨k,rfl,hk,e1,e3,e4,hg,hc,hnx⟩
   by_cases hk':k < X.rmw.length
   ·have hk1:(k:Int) < X.rmw.length:=by omega
    have hwk:=succ_wrap (k:=k) (by omega)
    have a0:=pairs_a hk'
    have b0:=pairs_b hk'
    have d0:(List.drop (k * 2) (pairsC X.rmw)).length = X.rmw.length * 2 - k * 2:=by rw[List.length_drop,pairsC_len]
    have hin:=inC_take hk'
    have hinl:∀ i,inC (X.rmw.take k) i≤1000:=fun i => by
     have:=inC_le (X.rmw.take k) i
     rw[List.length_take] at this;omega
    obtain ⟨c1,c2,hba,c4,c5,c6,c7,c8,c9⟩:=ok.pairs k hk'
    generalize X.rmw.getD k (0,0) = p at a0 b0 hin c1 c2 hba c4 c5 c6 c7 c8 c9
    generalize inC (X.rmw.take k) = f at hc hin hinl
    obtain ⟨a,b⟩:=p
    simp only at a0 b0 c1 c2 hba c4 c5 c6 c7 c8 c9
    have hws:IntKind.i64.wrap ((X.evs.length:Int) - 1) = (X.evs.length:Int) - 1:=by rw[i64_wrap (by omega) (by omega)]
    have hwa:IntKind.i64.wrap (a + 1) = a + 1:=by rw[i64_wrap (by omega) (by omega)]
    have c3:(b != a + 1) = false:=by simp[hba]
    have pa:=ev_part (l:=X.evs) (k:=a.toNat) (by omega)
    have pb:=ev_part (l:=X.evs) (k:=b.toNat) (by omega)
    have hal:a < X.evs.length:=by omega
    have hbl:b < X.evs.length:=by omega
    generalize X.evs.getD a.toNat ev0 = u at pa c4 c5 c6 c7 c8 c9
    generalize X.evs.getD b.toNat ev0 = v at pb c4 c5 c6 c7 c8 c9
    obtain ⟨th,kd,md,lc,vl,ex⟩:=u
    obtain ⟨th',kd',md',lc',vl',ex'⟩:=v
    simp only at c4 c5 c6 c7 c8 c9
    subst c4 c5 c6 c7 c8 c9
    have p1:¬ a < 0:=by omega
    have p2:¬ (X.evs.length:Int) - 1≤a:=by omega
    have n1:(th != th) = false:=by simp
    have n2:(lc != lc) = false:=by simp
    have n3:((1:Int) != 1) = false:=rfl
    have n4:((2:Int) != 2) = false:=rfl
    have ra:=cnt_at (f:=f) (a:=a.toNat) (by omega)
    have hf1:=succ_wrap (k:=f a.toNat) (by have:=hinl a.toNat;omega)
    have sa:=cnt_set (f:=f) (a:=a.toNat) (n:=f a.toNat + 1) (by omega)
    have rb:=cnt_at (f:=upd f a.toNat (f a.toNat + 1)) (a:=b.toNat) (by omega)
    rw[upd_ne _ _ (by omega)] at rb
    have hf2:=succ_wrap (k:=f b.toNat) (by have:=hinl b.toNat;omega)
    have sb:=cnt_set (f:=upd f a.toNat (f a.toNat + 1)) (a:=b.toNat) (n:=f b.toNat + 1) (by omega)
    have hfin:upd (upd f a.toNat (f a.toNat + 1)) b.toNat (f b.toNat + 1) = inC (X.rmw.take (k + 1)):=by
     funext i
     rw[hin i]
     unfold upd inB
     by_cases i1:i = b.toNat
     ·have:(b == (i:Int)) = true:=by simp;omega
      rw[if_pos i1,this,Bool.or_true,if_pos rfl,i1]
     ·rw[if_neg i1]
      have n1:(b == (i:Int)) = false:=by simp;omega
      by_cases i2:i = a.toNat
      ·have:(a == (i:Int)) = true:=by simp;omega
       rw[if_pos i2,this,Bool.true_or,if_pos rfl,i2]
      ·have n2:(a == (i:Int)) = false:=by simp;omega
       rw[if_neg i2,n1,n2];rfl
    simp (disch:=omega) only[wp,qa,qb,qc,gl,e1,e3,e4,hg,hc,hk1,a0,b0,d0,p1,p2,hws,hwa,c3,pa,pb,s6,n1,n2,n3,n4,cntC_len,ra,hf1,sa,rb,hf2,sb,hfin,hwk]
    exact ⟨X.rmw.length - (k + 1),by omega,k + 1,rfl,by omega,rfl,rfl,by first | omega | (dsimp only;omega)⟩
   ·obtain rfl:k = X.rmw.length:=by omega
    have hk1:¬ ((X.rmw.length:Int) < X.rmw.length):=by omega
    rw[List.take_length] at hc
    simp (disch:=omega) only[wp,qa,qb,qc,gl,e1,e3,e4,hg,hc,hk1]
    exact (by first | omega | (dsimp only;omega))
 ·rintro e g ⟨e1,e3,hg,hc,hnx⟩
  have hev:=ok.once
  generalize inC X.rmw = f at hc hev
  simp (disch:=omega) only[wp,qa,qb,qc,e1,e3]
  refine W_loop (fun q e g => ∃ k:Nat,q = X.evs.length - k∧k≤X.evs.length∧e 1 = .mp 0 0∧e 3 = .mp 2 0∧e 9 = .i .i64 k∧g.hp 0 = some (.cells (grC X) false)∧g.hp 2 = some (.cells (cntC f) false)∧2 < g.nx) X.evs.length ?_ ?_
  ·refine ⟨0,rfl,Nat.zero_le _,?_⟩
   simp (disch:=omega) only[wp,qa,qb,qc,e1,e3]
   exact ⟨rfl,hg,hc,by first | omega | (dsimp only;omega)⟩
  ·rintro q e g ⟨k,rfl,hk,e1,e3,e9,hg,hc,hnx⟩
   by_cases hk':k < X.evs.length
   ·have hk1:(k:Int) < X.evs.length:=by omega
    have hk40:(k:Int) < 40:=by omega
    have hwk:=succ_wrap (k:=k) (by omega)
    have rk:=cnt_at (f:=f) (a:=k) (by omega)
    have hex:=ev_ex_at hk'
    have hdl:(List.drop (k * 6) (evsC X.evs)).length = X.evs.length * 6 - k * 6:=by rw[List.length_drop,evsC_len]
    obtain ⟨c1,c2⟩:=hev k hk'
    generalize (X.evs.getD k ev0).ex = ex at hex c2
    have c2:(ex == ((f k:Int) == 1)) = true:=by rw[c2];simp
    have p1:¬ 1 < (f k:Int):=by omega
    simp (disch:=omega) only[wp,qa,qb,qc,gl,e1,e3,e9,hg,hc,hk1,rk,p1,hex,hdl,c2,hwk]
    exact ⟨X.evs.length - (k + 1),by omega,k + 1,rfl,by omega,rfl,by first | omega | (dsimp only;omega)⟩
   ·obtain rfl:k = X.evs.length:=by omega
    have hk1:¬ ((X.evs.length:Int) < X.evs.length):=by omega
    simp (disch:=omega) only[wp,qa,qb,qc,gl,e1,e3,e9,hg,hc,hk1,hr]
theorem st_co (h65:F 65 = some A_xref06_co) {X:Gr} {loc:Nat} (hl:loc < X.co.length) (hn:X.evs.length≤100) (hc:(X.co.getD loc []).length≤100) (ok:CoOk X loc):pureS F 65 [.agg (grC X),.i .i64 loc] = some (.b true):=by
 refine pure_of h65 ?_
 have hp:=co_part hl
 obtain ⟨ok1,ok2,ok3,ok4,ok5⟩:=ok
 generalize X.co.getD loc [] = l at hp hc ok1 ok2 ok3 ok4 ok5
 simp (disch:=omega) only[A_xref06_co,wp,qa,qb,qc,gl,hp]
 refine blk_cut (fun e g => e 1 = .i .i64 loc∧e 2 = .mp 0 0∧e 5 = .sl (intsC l) l.length .non∧e 6 = .i .i64 (cntW X loc X.evs.length:Nat)∧g.hp 0 = some (.cells (grC X) false)∧0 < g.nx) ?_ ?_
 ·refine W_loop (fun q e g => ∃ k:Nat,q = X.evs.length - k∧k≤X.evs.length∧e 1 = .i .i64 loc∧e 2 = .mp 0 0∧e 5 = .sl (intsC l) l.length .non∧e 6 = .i .i64 (cntW X loc k:Nat)∧e 7 = .i .i64 k∧g.hp 0 = some (.cells (grC X) false)∧0 < g.nx) X.evs.length ?_ ?_
  ·refine ⟨0,rfl,Nat.zero_le _,?_⟩
   simp (disch:=omega) only[wp,qa,qb,qc]
   exact ⟨rfl,rfl,by first | omega | (dsimp only;omega)⟩
  ·rintro q e g ⟨k,rfl,hk,e1,e2,e5,e6,e7,hg,hnx⟩
   by_cases hk':k < X.evs.length
   ·have hk1:(k:Int) < X.evs.length:=by omega
    have hwk:=succ_wrap (k:=k) (by omega)
    have hkd:=ev_kd_at hk'
    have hlc:=ev_lc_at hk'
    have hdl:(List.drop (k * 6) (evsC X.evs)).length = X.evs.length * 6 - k * 6:=by rw[List.length_drop,evsC_len]
    have hs:=cntW_succ (loc:=loc) hk'
    have hle:=cntW_le X loc k
    unfold isWr at hs
    generalize cntW X loc k = c at e6 hs hle
    have hwc:=succ_wrap (k:=c) (by omega)
    generalize X.evs.getD k ev0 = ev at hkd hlc hs
    cases c1:(ev.kd == 2)
    case false =>
     rw[c1] at hs
     simp (disch:=omega) only[wp,qa,qb,qc,gl,e1,e2,e5,e6,e7,hg,hk1,hkd,hlc,hdl,c1,hwk]
     refine ⟨X.evs.length - (k + 1),by omega,k + 1,rfl,by omega,by rw[hs];rfl,rfl,by first | omega | (dsimp only;omega)⟩
    cases c2:(ev.lc == (loc:Int))
    case false =>
     rw[c1,c2] at hs
     simp (disch:=omega) only[wp,qa,qb,qc,gl,e1,e2,e5,e6,e7,hg,hk1,hkd,hlc,hdl,c1,c2,hwk]
     refine ⟨X.evs.length - (k + 1),by omega,k + 1,rfl,by omega,by rw[hs];rfl,rfl,by first | omega | (dsimp only;omega)⟩
    rw[c1,c2] at hs
    simp (disch:=omega) only[wp,qa,qb,qc,gl,e1,e2,e5,e6,e7,hg,hk1,hkd,hlc,hdl,c1,c2,hwk,hwc]
    refine ⟨X.evs.length - (k + 1),by omega,k + 1,rfl,by omega,by rw[hs];rfl,rfl,by first | omega | (dsimp only;omega)⟩
   ·obtain rfl:k = X.evs.length:=by omega
    have hk1:¬ ((X.evs.length:Int) < X.evs.length):=by omega
    simp (disch:=omega) only[wp,qa,qb,qc,gl,e1,e2,e5,e6,e7,hg,hk1]
    first | omega | (dsimp only;omega)
 ·rintro e g ⟨e1,e2,e5,e6,hg,hnx⟩
  simp (disch:=omega) only[wp,qa,qb,qc,e1,e2,e5,e6]
  have hcl:=cntW_le X loc X.evs.length
  rw[←ok3] at e6
  refine W_loop (fun q e g => ∃ i:Nat,q = l.length - i∧i≤l.length∧e 1 = .i .i64 loc∧e 2 = .mp 0 0∧e 5 = .sl (intsC l) l.length .non∧e 6 = .i .i64 (l.length:Nat)∧e 8 = .i .i64 i∧g.hp 0 = some (.cells (grC X) false)∧0 < g.nx) l.length ?_ ?_
  ·refine ⟨0,rfl,Nat.zero_le _,?_⟩
   simp (disch:=omega) only[wp,qa,qb,qc,e1,e2,e5,e6]
   exact ⟨rfl,hg,by first | omega | (dsimp only;omega)⟩
  ·rintro q e g ⟨i,rfl,hi,e1,e2,e5,e6,e8,hg,hnx⟩
   by_cases hi':i < l.length
   ·have hi1:(i:Int) < l.length:=by omega
    have hwi:=succ_wrap (k:=i) (by omega)
    have hip:=ints_part hi'
    obtain ⟨b1,b2,c1,c2⟩:=ok1 i hi'
    have hkd:=ev_kd_at (l:=X.evs) (k:=(l.getD i 0).toNat) (by omega)
    have hlc:=ev_lc_at (l:=X.evs) (k:=(l.getD i 0).toNat) (by omega)
    have hdl:(List.drop ((l.getD i 0).toNat * 6) (evsC X.evs)).length = X.evs.length * 6 - (l.getD i 0).toNat * 6:=by rw[List.length_drop,evsC_len]
    have c1:((X.evs.getD (l.getD i 0).toNat ev0).kd != 2) = false:=by rw[c1];rfl
    have c2:((X.evs.getD (l.getD i 0).toNat ev0).lc != (loc:Int)) = false:=by rw[c2,bne_self_eq_false]
    have n1:¬ l.getD i 0 < 0:=by omega
    have n2:¬ (X.evs.length:Int)≤l.getD i 0:=by omega
    simp (disch:=omega) only[wp,qa,qb,qc,gl,e1,e2,e5,e6,e8,hg,hi1,hip,n1,n2,hkd,hlc,hdl,c1,c2]
    refine W_loop (fun q e g => ∃ k:Nat,q = i - k∧k≤i∧e 1 = .i .i64 loc∧e 2 = .mp 0 0∧e 5 = .sl (intsC l) l.length .non∧e 6 = .i .i64 (l.length:Nat)∧e 8 = .i .i64 i∧e 9 = .i .i64 k∧g.hp 0 = some (.cells (grC X) false)∧0 < g.nx) i ?_ ?_
    ·refine ⟨0,rfl,Nat.zero_le _,?_⟩
     simp (disch:=omega) only[wp,qa,qb,qc,e1,e2,e5,e6,e8]
     exact ⟨rfl,hg,by first | omega | (dsimp only;omega)⟩
    ·rintro q e g ⟨k,rfl,hk,e1,e2,e5,e6,e8,e9,hg,hnx⟩
     by_cases hk':k < i
     ·have hk1:(k:Int) < i:=by omega
      have hkl:(k:Int) < l.length:=by omega
      have hwk:=succ_wrap (k:=k) (by omega)
      have hkp:=ints_part (l:=l) (k:=k) (by omega)
      have c3:(l.getD k 0 == l.getD i 0) = false:=by simpa using ok2 i hi' k hk'
      simp (disch:=omega) only[wp,qa,qb,qc,gl,e1,e2,e5,e6,e8,e9,hg,hk1,hkl,hi1,hip,hkp,c3,hwk]
      exact ⟨i - (k + 1),by omega,k + 1,rfl,by omega,rfl,by first | omega | (dsimp only;omega)⟩
     ·obtain rfl:k = i:=by omega
      have hk1:¬ ((k:Int) < k):=by omega
      simp (disch:=omega) only[wp,qa,qb,qc,gl,e1,e2,e5,e6,e8,e9,hg,hk1,hwi]
      exact ⟨l.length - (k + 1),by omega,k + 1,rfl,by omega,rfl,by first | omega | (dsimp only;omega)⟩
   ·obtain rfl:i = l.length:=by omega
    have hi1:¬ ((l.length:Int) < l.length):=by omega
    have hip:=ints_part (l:=l) (k:=0) ok4
    have c9:(l.getD 0 0 == (loc:Int)) = true:=by simpa using ok5
    rw[Nat.zero_mul,List.drop_zero] at hip
    have hpos:(0:Int) < l.length:=by omega
    simp (disch:=omega) only[wp,qa,qb,qc,gl,e1,e2,e5,e6,e8,hg,hi1,hip,hpos,c9]
theorem st_check (h45:F 45 = some A_xref06_Check) (h63:F 63 = some A_xref06_event) (h64:F 64 = some A_xref06_rf) (h65:F 65 = some A_xref06_co) (h66:F 66 = some A_xref06_rmw) (h67:F 67 = some A_xref06_deps) (h82:F 82 = some A_xref06_rising) {X:Gr} (hX:FewG X) (ok:GraphOk X):pureS F 45 [.agg (grC X)] = some (.b true):=by
 refine pure_of h45 ?_
 obtain ⟨l1,l4,nl,n40,hrl,hcl,hev,hrf,hco,hrm,hda,hct,hci⟩:=ok
 have c5:((X.rf.length:Int) != (X.evs.length:Int)) = false:=by simp[hrl]
 have c6:((X.co.length:Int) != X.locs) = false:=by simp[hcl]
 have r1:=st_rmw h66 h82 (X:=X) (by omega) (by have:=hX.rmw;omega) hrm
 have r2:=st_deps h67 h82 X X.data .non (by have:=hX.data;omega) hda
 have r3:=st_deps h67 h82 X X.ctrl .non (by have:=hX.ctrl;omega) hct
 have r4:=st_deps h67 h82 X X.ctrli .non (by have:=hX.ctrli;omega) hci
 have q1:¬ X.locs < 1:=by omega
 have q2:¬ 4 < X.locs:=by omega
 have q3:¬ (X.evs.length:Int) < X.locs:=by omega
 have q4:¬ 40 < (X.evs.length:Int):=by omega
 simp (disch:=omega) only[A_xref06_Check,wp,qa,qb,qc,gl,q1,q2,q3,q4,c5,c6]
 refine blk_cut (fun e g => e 1 = .mp 0 0∧g.hp 0 = some (.cells (grC X) false)∧0 < g.nx) ?_ ?_
 ·refine W_loop (fun q e g => ∃ k:Nat,q = X.evs.length - k∧k≤X.evs.length∧e 1 = .mp 0 0∧e 3 = .i .i64 X.evs.length∧e 4 = .i .i64 k∧g.hp 0 = some (.cells (grC X) false)∧0 < g.nx) X.evs.length ?_ ?_
  ·refine ⟨0,rfl,Nat.zero_le _,?_⟩
   simp (disch:=omega) only[wp,qa,qb,qc]
   exact ⟨rfl,by first | omega | (dsimp only;omega)⟩
  ·rintro q e g ⟨k,rfl,hk,e1,e3,e4,hg,hnx⟩
   by_cases hk':k < X.evs.length
   ·have hk1:(k:Int) < X.evs.length:=by omega
    have hwk:=succ_wrap (k:=k) (by omega)
    have h1:=st_event h63 hk' (by omega) (by omega) (hev k hk')
    have h2:=st_rf h64 hk' (by omega) (hrf k hk')
    simp (disch:=omega) only[wp,qa,qb,qc,gl,e1,e3,e4,hg,hk1,h1,h2,hwk]
    exact ⟨X.evs.length - (k + 1),by omega,k + 1,rfl,by omega,rfl,by first | omega | (dsimp only;omega)⟩
   ·obtain rfl:k = X.evs.length:=by omega
    have hk1:¬ ((X.evs.length:Int) < X.evs.length):=by omega
    simp (disch:=omega) only[wp,qa,qb,qc,gl,e1,e3,e4,hg,hk1]
    exact (by first | omega | (dsimp only;omega))
 ·rintro e g ⟨e1,hg,hnx⟩
  simp (disch:=omega) only[wp,qa,qb,qc,e1]
  refine blk_cut (fun e g => e 1 = .mp 0 0∧g.hp 0 = some (.cells (grC X) false)∧0 < g.nx) ?_ ?_
  ·refine W_loop (fun q e g => ∃ k:Nat,q = X.co.length - k∧k≤X.co.length∧e 1 = .mp 0 0∧e 5 = .i .i64 k∧g.hp 0 = some (.cells (grC X) false)∧0 < g.nx) X.co.length ?_ ?_
   ·refine ⟨0,rfl,Nat.zero_le _,?_⟩
    simp (disch:=omega) only[wp,qa,qb,qc,e1]
    exact ⟨rfl,hg,by first | omega | (dsimp only;omega)⟩
   ·rintro q e g ⟨k,rfl,hk,e1,e5,hg,hnx⟩
    by_cases hk':k < X.co.length
    ·have hk1:(k:Int) < X.locs:=by omega
     have hwk:=succ_wrap (k:=k) (by omega)
     have h1:=st_co h65 hk' (by have:=hX.evs;omega) (by
      have hm:X.co.getD k []∈X.co:=by
       rw[List.getD_eq_getElem?_getD,List.getElem?_eq_getElem hk'];exact List.getElem_mem hk'
      have:=hX.cos _ hm;omega) (hco k hk')
     simp (disch:=omega) only[wp,qa,qb,qc,gl,e1,e5,hg,hk1,h1,hwk]
     exact ⟨X.co.length - (k + 1),by omega,k + 1,rfl,by omega,rfl,by first | omega | (dsimp only;omega)⟩
    ·obtain rfl:k = X.co.length:=by omega
     have hk1:¬ ((X.co.length:Int) < X.locs):=by omega
     simp (disch:=omega) only[wp,qa,qb,qc,gl,e1,e5,hg,hk1]
     exact (by first | omega | (dsimp only;omega))
  ·rintro e g ⟨e1,hg,hnx⟩
   simp (disch:=omega) only[wp,qa,qb,qc,gl,e1,hg,r1,r2,r3,r4]
end Go.Ab
end
section
set_option linter.unusedVariables false
set_option linter.unusedSimpArgs false
namespace Go.Ab
variable {F:Funs}
theorem sp_mself (h:F 265 = some A_xref01_R_Self) {n:Nat} (hn:n≤40) (T:Mx):pureS F 265 [.ptr (matC n T)] = some (.b ((List.range n).any fun a => T a a)):=by
 refine pure_of h ?_
 simp (disch:=omega) only[A_xref01_R_Self,wp,qa,qb,qc,ml]
 refine W_loop (fun m e g => ∃ k,m = n - k∧k≤n∧e 0 = .ptr (matC n T)∧e 3 = .i .i64 k∧∀ a,a < k→T a a = false) n ?_ ?_
 ·refine ⟨0,rfl,Nat.zero_le _,?_⟩
  simp (disch:=omega) only[wp,qa,qb,qc]
  exact ⟨rfl,fun a ha => absurd ha (Nat.not_lt_zero _)⟩
 ·rintro m e g ⟨k,rfl,hk,h3,h4,hall⟩
  by_cases hk':k < n
  ·have hk1:(k:Int) < n:=by omega
   have hw:=succ_wrap (k:=k) (by omega)
   cases hh:T k k with
   | true =>
     simp (disch:=omega) only[wp,qa,qb,qc,ml,h3,h4,hk1,hw,hh]
     have:(List.range n).any (fun a => T a a) = true:=List.any_eq_true.2 ⟨k,List.mem_range.2 hk',hh⟩
     rw[this]
   | false =>
     simp (disch:=omega) only[wp,qa,qb,qc,ml,h3,h4,hk1,hw,hh]
     refine ⟨n - (k + 1),by omega,k + 1,rfl,by omega,rfl,fun a ha => ?_⟩
     by_cases hak:a = k
     ·subst hak;exact hh
     ·exact hall a (by omega)
  ·obtain rfl:k = n:=by omega
   have hk1:¬ ((k:Int) < k):=by omega
   simp (disch:=omega) only[wp,qa,qb,qc,ml,h3,h4,hk1]
   have:(List.range k).any (fun a => T a a) = false:=List.any_eq_false.2 fun a ha => by rw[hall a (List.mem_range.1 ha)];simp
   rw[this]
theorem any_eqN {n:Nat} {A:Mx} {R:Rw} (h:EqN n A R):((List.range n).any fun a => A a a) = (List.range n).any fun a => has n R (a:Nat) (a:Nat):=by
 rw[Bool.eq_iff_iff,List.any_eq_true,List.any_eq_true]
 constructor
 ·rintro ⟨a,ha,h1⟩
  have ha':=List.mem_range.1 ha
  refine ⟨a,ha,?_⟩
  rw[h.2 a a ha' ha'] at h1
  unfold has
  rw[Bool.and_eq_true]
  exact ⟨decide_eq_true ⟨by omega,by omega,by omega,by omega⟩,h1⟩
 ·rintro ⟨a,ha,h1⟩
  have ha':=List.mem_range.1 ha
  refine ⟨a,ha,?_⟩
  rw[h.2 a a ha' ha']
  unfold has at h1
  rw[Bool.and_eq_true] at h1
  exact h1.2
structure Ref12F (F:Funs):Prop where
 r:RefF F
 p:Pk_xref11 F
 p10:Pk_xref10 F
 p12:Pk_xref12 F
 h83:F 83 = some A_xref09_Com
 h72:F 72 = some A_xref09_Eco
 hs:F 265 = some A_xref01_R_Self
 hlo:F 37 = some A_xref01_R_Loops
theorem has_orR {n:Nat} {R S:Rw} {a b:Int}:has n (orR R S) a b = (has n R a b || has n S a b):=by
 unfold has
 have:=hb_or (R:=R) (S:=S) (a:=a.toNat) (b:=b.toNat)
 unfold hb at this
 rw[this]
 cases decide (0≤a∧a < n∧0≤b∧b < n)<;>simp
section
variable (S:Ref12F F) {X:Gr} (hX:FewG X) (h:GraphOk X)
include S hX h
theorem m12_coh:pureS F 261 [.agg (grC X)] = some (.b (cohB X)):=by
 refine pure_of S.p12.xref12_Coherent ?_
 obtain ⟨l1,l2,l3⟩:=FewG.l1 hX
 obtain ⟨A,hA,eA⟩:=mHb S.r S.p10 h l3
 have he:=sp_mEco S.h72 S.r.px.xref01_New S.r.px.xref01_R_Plus h.n40 (sp_mCom S.h83 S.r.px.xref01_New S.r.px.xref01_R_Or h.n40 (S.r.rf h) (S.r.co hX h) (S.r.fr hX h))
 have e2:=eA.then (eq_eco h)
 have a1:=any_eqN eA
 have a2:=any_eqN e2
 have s1:=sp_mself S.hs h.n40 A
 have s2:=sp_mself S.hs h.n40 (thM A (plM X.evs.length (comM X.evs.length (anyM (rfL X X.rf.length)) (anyM (coX X X.co.length))) X.evs.length) X.evs.length X.evs.length)
 rw[a1] at s1
 rw[a2] at s2
 have hR:cohB X = (!((List.range X.evs.length).any fun a => has X.evs.length (HbP X) (a:Nat) (a:Nat)) && !((List.range X.evs.length).any fun a => has X.evs.length (thenR X.evs.length (HbP X) (ecoR X)) (a:Nat) (a:Nat))):=by
  unfold cohB cohR allN
  rw[h.nOf,Bool.eq_iff_iff]
  simp only[List.all_eq_true,Bool.and_eq_true,Bool.not_eq_true',List.any_eq_false,has_orR,Bool.or_eq_false_iff,Bool.not_eq_true]
  exact ⟨fun hh => ⟨fun a ha => (hh a ha).1,fun a ha => (hh a ha).2⟩,fun hh a ha => ⟨hh.1 a ha,hh.2 a ha⟩⟩
 generalize cohB X = R at hR
 generalize ((List.range X.evs.length).any fun a => has X.evs.length (HbP X) (a:Nat) (a:Nat)) = b1 at s1 hR
 generalize ((List.range X.evs.length).any fun a => has X.evs.length (thenR X.evs.length (HbP X) (ecoR X)) (a:Nat) (a:Nat)) = b2 at s2 hR
 subst hR
 cases b1
 ·simp (disch:=omega) only[A_xref12_Coherent,wp,qa,qb,qc,gl,hA,he,S.r.then h,s1,s2]
 ·simp (disch:=omega) only[A_xref12_Coherent,wp,qa,qb,qc,gl,hA,he,S.r.then h,s1,s2]
theorem m12_at:pureS F 262 [.agg (grC X)] = some (.b (atB X)):=by
 refine pure_of S.p12.xref12_Atomic ?_
 obtain ⟨l1,l2,l3⟩:=FewG.l1 hX
 have e1:=(EqN.new h.n40 X.rmw).and ((eq_outer h (eq_fr h)).then (eq_outer h (eq_co h)))
 have hp:=sp_mpairs S.r.px.xref01_R_Pairs h.n40 _ (atR X) (same_of (by
  unfold atR
  rw[h.nOf]
  exact e1.2))
 unfold atB
 rw[h.nOf]
 simp (disch:=omega) only[A_xref12_Atomic,wp,qa,qb,qc,gl,S.r.fr hX h,S.r.co hX h,S.r.outer h,S.r.ofL h,S.r.then h,S.r.and h,hp]
theorem m12_ord:pureS F 263 [.agg (grC X)] = some (.b (ordB X)):=by
 refine pure_of S.p12.xref12_Ordered ?_
 obtain ⟨A,hA,eA⟩:=m11_ar S.r S.p S.p10 hX h S.h83 S.h72
 have hl:=sp_mloops S.hlo S.r.px.xref01_R_Plus S.r.px.xref01_New h.n40 A
 rw[any_eqN eA.plus] at hl
 have hR:ordB X = !((List.range X.evs.length).any fun a => has X.evs.length (plusR X.evs.length (arR X)) (a:Nat) (a:Nat)):=by
  unfold ordB loopsR
  rw[h.nOf]
 rw[hR]
 simp (disch:=omega) only[A_xref12_Ordered,wp,qa,qb,qc,gl,hA,hl]
theorem m12_con:pureS F 264 [.agg (grC X)] = some (.b (conB X)):=by
 refine pure_of S.p12.xref12_Consistent ?_
 have hc:=st_check S.r.p6.xref06_Check S.r.p6.xref06_event S.r.p6.xref06_rf S.r.p6.xref06_co S.r.p6.xref06_rmw S.r.p6.xref06_deps S.r.p6.xref06_rising hX h
 have h1:=m12_coh S hX h
 have h2:=m12_at S hX h
 have h3:=m12_ord S hX h
 have hR:conB X = (cohB X && (atB X && ordB X)):=by
  unfold conB
  rw[gCheck_iff.2 h,Bool.true_and]
 generalize conB X = R at hR
 generalize cohB X = b1 at h1 hR
 generalize atB X = b2 at h2 hR
 generalize ordB X = b3 at h3 hR
 subst hR
 cases b1
 ·simp (disch:=omega) only[A_xref12_Consistent,wp,qa,qb,qc,gl,hc,h1,h2,h3]
 cases b2
 ·simp (disch:=omega) only[A_xref12_Consistent,wp,qa,qb,qc,gl,hc,h1,h2,h3]
 simp (disch:=omega) only[A_xref12_Consistent,wp,qa,qb,qc,gl,hc,h1,h2,h3]
end
end Go.Ab
end
section
set_option linter.unusedVariables false
set_option linter.unusedSimpArgs false
namespace Go.Ab
variable {F:Funs}
theorem splice_s (a:AV) (cs:List AV) (k:Nat) (v w:AV) (vs:List AV):splice (a :: cs) (k + 1) (v :: w :: vs) = a :: splice cs k (v :: w :: vs):=by
 simp only[splice,List.take_succ_cons,List.cons_append,List.length_cons]
 rw[show k + 1 + (vs.length + 1 + 1) = (k + (vs.length + 1 + 1)) + 1 by omega,List.drop_succ_cons]
theorem splice_6 (b1 b2 b3 b4 b5 b6 c1 c2 c3 c4 c5 c6:AV) (cs:List AV):splice (b1 :: b2 :: b3 :: b4 :: b5 :: b6 :: cs) 0 [c1,c2,c3,c4,c5,c6] = c1 :: c2 :: c3 :: c4 :: c5 :: c6 :: cs:=rfl
end Go.Ab
end
section
set_option linter.unusedVariables false
set_option linter.unusedSimpArgs false
namespace Go.Ab
variable {F:Funs}
def loopG (b:Bool):Gr:=⟨2,[⟨0,2,0,0,0,false⟩,⟨0,2,0,1,0,false⟩,⟨1,1,0,0,1,false⟩,⟨1,2,0,1,1,false⟩,⟨2,1,0,1,1,false⟩,⟨2,2,0,0,1,false⟩],[-1,-1,5,-1,3,-1],[[0,5],[1,3]],[],if b then [(2,3),(4,5)] else [],[],[]⟩
def nilG:Gr:=⟨0,[],[],[],[],[],[],[]⟩
theorem si_loop (h218:F 218 = some A_xlaw12_loop) (b:Bool):pureS F 218 [.b b] = some (.agg (grC (loopG b))):=by
 refine pure_of h218 ?_
 have r5:∀ x:AV,List.replicate 5 x = [x,x,x,x,x]:=fun _ => rfl
 have r6:∀ x:AV,List.replicate 6 x = [x,x,x,x,x,x]:=fun _ => rfl
 have r4:∀ x:AV,List.replicate 4 x = [x,x,x,x]:=fun _ => rfl
 have r7:∀ x:AV,List.replicate 7 x = [x,x,x,x,x,x,x]:=fun _ => rfl
 have s8:∀ a1 a2 a3 a4 a5 a6 a7 a8 c1 c2 c3 c4 c5 c6 c7 c8:AV,splice [a1,a2,a3,a4,a5,a6,a7,a8] 0 [c1,c2,c3,c4,c5,c6,c7,c8] = [c1,c2,c3,c4,c5,c6,c7,c8]:=fun _ _ _ _ _ _ _ _ _ _ _ _ _ _ _ _ => rfl
 have p8:∀ a1 a2 a3 a4 a5 a6 a7 a8:AV,part [a1,a2,a3,a4,a5,a6,a7,a8] 0 (some 8) = some (.agg [a1,a2,a3,a4,a5,a6,a7,a8]):=fun _ _ _ _ _ _ _ _ => rfl
 have s4a:∀ a b c d x y:AV,splice [a,b,c,d] 0 [x,y] = [x,y,c,d]:=fun _ _ _ _ _ _ => rfl
 have s4b:∀ a b c d x y:AV,splice [a,b,c,d] 2 [x,y] = [a,b,x,y]:=fun _ _ _ _ _ _ => rfl
 cases b
 ·simp (disch:=omega) only[A_xlaw12_loop,wp,qa,qb,qc,gl,res_cell,resC,r5,r6,r4,r7,s8,p8,s4a,s4b,splice_s,splice_6,List.length_set]
  refine frz_d_agg ?_
  show frzL _ (7 + 1) _ = _
  simp only[frzL,frz]
  rfl
 ·simp (disch:=omega) only[A_xlaw12_loop,wp,qa,qb,qc,gl,res_cell,resC,r5,r6,r4,r7,s8,p8,s4a,s4b,splice_s,splice_6,List.length_set]
  refine frz_d_agg ?_
  show frzL _ (7 + 1) _ = _
  simp only[frzL,frz]
  rfl
theorem loop_few (b:Bool):Few (loopG b):=by
 refine ⟨by simp[loopG],by simp[loopG],?_⟩
 intro c hc
 simp only[loopG,List.mem_cons,List.not_mem_nil,or_false] at hc
 rcases hc with rfl | rfl<;>decide
theorem nil_few:Few nilG:=⟨by simp[nilG],by simp[nilG],fun c hc => by cases hc⟩
theorem loop_len (b:Bool):LenG (loopG b):=by
 refine ⟨by cases b<;>decide,by cases b<;>decide,fun k => ?_,by cases b<;>decide,by cases b<;>decide,by cases b<;>decide,by cases b<;>decide⟩
 match k with
 | 0 => cases b<;>decide
 | 1 => cases b<;>decide
 | k + 2 => show (List.getD [] k []).length≤1000;simp
theorem nil_len:LenG nilG:=⟨by decide,by decide,fun k => by simp[nilG],by decide,by decide,by decide,by decide⟩
theorem loop_1:ordB (loopG true) = false:=by decide +kernel
theorem loop_2:ordB (loopG false) = true:=by decide +kernel
theorem loop_3:conB (loopG false) = true:=by decide +kernel
theorem loop_4:cohB (loopG true) = true:=by decide +kernel
theorem loop_5:atB (loopG true) = true:=by decide +kernel
theorem nil_1:conB nilG = false:=by decide +kernel
theorem si_awake (h163:F 163 = some A_xlaw12_awake) (h218:F 218 = some A_xlaw12_loop) (S:ImmF F):pureS F 163 [] = some (.b true):=by
 refine pure_of h163 ?_
 have a0:=si_loop h218 true
 have a1:=si_loop h218 false
 have b1:=si_Ord S (loop_few true) (loop_len true)
 have b2:=si_Ord S (loop_few false) (loop_len false)
 have b3:=si_con S (loop_few false) (loop_len false)
 have b4:=si_Coh S (loop_few true) (loop_len true)
 have b5:=si_At S (loop_few true) (loop_len true)
 have b6:=si_con S nil_few nil_len
 rw[loop_1] at b1
 rw[loop_2] at b2
 rw[loop_3] at b3
 rw[loop_4] at b4
 rw[loop_5] at b5
 rw[nil_1] at b6
 have fz:∀ hp:Nat→Option Blk,frz hp depth (.agg (AV.i .i64 0 :: List.replicate 7 (AV.sl [] 0 .rig))) = some (.agg (grC nilG)):=fun hp => by
  refine frz_d_agg ?_
  show frzL hp (7 + 1) [.i .i64 0,.sl [] 0 .rig,.sl [] 0 .rig,.sl [] 0 .rig,.sl [] 0 .rig,.sl [] 0 .rig,.sl [] 0 .rig,.sl [] 0 .rig] = _
  simp only[frzL,frz]
  rfl
 have vz:∀ hp:Nat→Option Blk,vis hp depth (.agg (AV.i .i64 0 :: List.replicate 7 (AV.sl [] 0 .rig))) = []:=fun hp => rfl
 simp (disch:=omega) only[A_xlaw12_awake,wp,qa,qb,qc,gl,a0,a1,b1,b2,b3,b4,b5,b6,fz,vz]
theorem si_all (h253:F 253 = some A_xlaw12_all) (S:ImmF F) (T:Ref12F F) {X:Gr} (hX:FewG X) (h:GraphOk X):pureS F 253 [.agg (grC X)] = some (.b true):=by
 refine pure_of h253 ?_
 have hf:=hX.few
 have hl:=hX.len
 have a1:=si_Coh S hf hl
 have a2:=si_At S hf hl
 have a3:=si_Ord S hf hl
 have a4:=si_con S hf hl
 have b1:=m12_coh T hX h
 have b2:=m12_at T hX h
 have b3:=m12_ord T hX h
 have b4:=m12_con T hX h
 generalize cohB X = c1 at a1 b1
 generalize atB X = c2 at a2 b2
 generalize ordB X = c3 at a3 b3
 generalize conB X = c4 at a4 b4
 simp (disch:=omega) only[A_xlaw12_all,wp,qa,qb,qc,gl,a1,a2,a3,a4,b1,b2,b3,b4]
end Go.Ab
end
section
set_option linter.unusedVariables false
set_option linter.unusedSimpArgs false
namespace Go.Ab
variable {F:Funs}
theorem nm_imm (A:NumF F) {f:Nat} (hf:F f = some A_xlaw12_ImmNumbers) (aw:pureS F 163 [] = some (.b true)) (ha:∀ Y,FewG Y→GraphOk Y→pureS F 253 [.agg (grC Y)] = some (.b true)) (l:List Int) (hl:(l.length:Int)≤9223372036854775807) (pick:Int) (tl:Tok):pureS F f [.sl (intsC l) l.length tl,.i .i64 pick] = some (.b true):=by
 have s2:∀ b1 b2 c1 c2:AV,splice [b1,b2] 0 [c1,c2] = [c1,c2]:=fun _ _ _ _ => rfl
 obtain ⟨ths,K,hsm,SK⟩:=sp_small A l hl
 obtain ⟨n,hld⟩:=sp_loads A.loads SK.pk
 have hdm:=sp_dom A.dom
 obtain ⟨L,c,hall,hPg,hLl⟩:=sp13_all A.en SK.pk [0,1,2] (by simp)
 have hall':pureS F 78 [.agg [.i .i64 2,.sl (thsC ths) ths.length .non],.sl (intsC [0,1,2]) 3 .non] = some (.tup [.sl (gsC L) L.length .non,.i .i64 c]):=hall
 have f2:∀ hp (n:Nat) (t:Tok),frz hp depth (.agg [.i .i64 2,.sl (thsC ths) n t]) = some (.agg [.i .i64 2,.sl (thsC ths) n .non]):=fun hp n t => by
  refine frz_d_agg ?_
  show frzL _ (7 + 1) _ = _
  simp only[frzL,frz]
 have v2:∀ hp (n:Nat) (t:Tok),vis hp depth (.agg [.i .i64 2,.sl (thsC ths) n t]) = []:=fun hp n t => by
  show vis hp (8 + 1) _ = _
  simp only[vis,List.flatMap_cons,List.flatMap_nil]
  rfl
 refine pure_of hf ?_
 by_cases c4:n≤4
 ·have c4':¬ (4:Int) < ((n:Nat):Int):=by omega
  cases hL:L with
  | nil =>
    subst hL
    have c5:(((0:Nat):Int) == 0) = true:=rfl
    simp (disch:=omega) only[A_xlaw12_ImmNumbers,wp,qa,qb,qc,gl,hsm,s2,f2,v2,hld,c4',hdm,hall',c5,aw,List.getElem?_cons_zero,List.getElem?_cons_succ,gsC]
  | cons Y0 L0 =>
    have hLp:0 < L.length:=by rw[hL];simp
    have c5:(((L.length:Nat):Int) == 0) = false:=by rw[beq_eq_false_iff_ne];omega
    have hpl:=sp_place A.pg.place (v:=pick) (n:=(L.length:Int)) (by omega) (by omega)
    obtain ⟨p0,p1⟩:=place_lt (v:=pick) (n:=(L.length:Int)) (by omega)
    obtain ⟨p,hp⟩:∃ p:Nat,place pick (L.length:Int) = (p:Int):=⟨(place pick (L.length:Int)).toNat,by omega⟩
    rw[hp] at hpl p1
    have hgp:=gs_part (L:=L) (k:=p) (d:=gr0) (by omega)
    have hY:=hPg _ (getD_mem (d:=gr0) (show p < L.length by omega))
    have hgl:=gsC_len L
    generalize L.getD p gr0 = Y at hgp hY
    obtain ⟨hX,h⟩:=SmG.ok ⟨ths,K,SK,hY⟩
    have hall2:=ha Y hX h
    have fg:∀ hp,frz hp depth (.agg (grC Y)) = some (.agg (grC Y)):=fun hp => frz_gr hp Y
    have vg:∀ hp,vis hp depth (.agg (grC Y)) = []:=fun hp => vis_gr hp Y
    simp (disch:=omega) only[A_xlaw12_ImmNumbers,wp,qa,qb,qc,gl,hsm,s2,f2,v2,hld,c4',hdm,hall',c5,aw,List.getElem?_cons_zero,List.getElem?_cons_succ,hpl,hgp,hall2,fg,vg]
 ·have c4':(4:Int) < ((n:Nat):Int):=by omega
  simp (disch:=omega) only[A_xlaw12_ImmNumbers,wp,qa,qb,qc,gl,hsm,s2,f2,v2,hld,c4',aw]
end Go.Ab
end
section
set_option linter.unusedVariables false
set_option maxRecDepth 100000
namespace Go.Proofs.YthafjhelijmpcaaGreat
open Go.Ab
theorem exF:ExF funs:=⟨rfl,rfl,rfl,rfl,rfl⟩
theorem chF:ChF funs:=⟨exF,rfl,rfl,rfl,rfl,rfl,rfl,rfl⟩
theorem runF:RunF funs:=⟨rfl,rfl,rfl,rfl,rfl,rfl,rfl,rfl,rfl,rfl,rfl,rfl⟩
theorem enF:EnF funs:=⟨chF,runF,rfl,rfl,rfl,rfl,rfl,rfl,rfl,rfl,rfl,rfl,rfl,rfl,rfl⟩
theorem numF:NumF funs:=⟨enF,⟨rfl,rfl,rfl,rfl,rfl,rfl⟩,rfl,rfl,rfl,rfl⟩
theorem immF:ImmF funs:=⟨⟨pk_order,⟨pk_sync,pk_eco,pk_rel,rfl,rfl,rfl⟩⟩,pk_imm,⟨rfl,rfl,rfl,rfl,rfl,rfl,rfl,rfl,rfl,rfl,rfl,rfl,⟨rfl,rfl,rfl⟩⟩⟩
theorem r12F:Ref12F funs:=⟨⟨pk_xref01,rfl,pk_xref09,pk_xref06,rfl,rfl⟩,pk_xref11,pk_xref10,pk_xref12,rfl,rfl,rfl,rfl⟩
theorem immNumbers_law (l:List Int) (hl:l.length≤Go.maxLen) (pick:Int) (tl:Tok):pureS funs 474 [.sl (intsC l) l.length tl,.i .i64 pick] = some (.b true):=
 nm_imm numF rfl (si_awake rfl rfl immF) (fun Y hX h => si_all rfl immF r12F hX h) l (by simp only[Go.maxLen] at hl;omega) pick tl
end Go.Proofs.YthafjhelijmpcaaGreat
end
