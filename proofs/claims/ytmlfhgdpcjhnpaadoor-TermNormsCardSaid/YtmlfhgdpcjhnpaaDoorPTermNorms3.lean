/- What TermNorms rests on, part 3: lemmas, no claim of its own. -/
import Derived.Lib.ItoaNum
import Derived.Lib.ItoaLen
import Derived.Test.YtmlfhgdpcjhnpaaDoorRows
import Derived.Test.YtmlfhgdpcjhnpaaDoorChecked
import Derived.KernelRfl
import Derived.Lib.LaidTab
import Derived.MakeChecks
import Derived.LaidMore
import Derived.Test.YtmlfhgdpcjhnpaaDoorPTermNorms2
set_option maxRecDepth 100000
set_option maxHeartbeats 16000000
open Nat renaming reduceAdd → qa, reduceMul → qb, reduceSub → qc
section
set_option linter.unusedVariables false
set_option linter.unusedSimpArgs false
namespace Go.Ab
variable {F:Funs}
def bs (l:List UInt8):ByteArray:=⟨l.toArray⟩
theorem bs_size (l:List UInt8):(bs l).size = l.length:=by simp[bs,ByteArray.size]
theorem bs_app (a b:List UInt8):bs a ++ bs b = bs (a ++ b):=by
 apply ByteArray.ext
 simp[bs]
theorem bs_list (l:List UInt8):(bs l).toList = l:=by
 rw[ByteArray.toList_eq]
 rfl
theorem b_sadd {a b:List UInt8} (h:a.length + b.length≤9000000000000000000):abin .add (.s (bs a)) (.s (bs b)) = some (.s (bs (a ++ b))):=by
 show sbin .add _ _ = _
 unfold sbin
 simp only
 rw[if_neg,bs_app]
 rw[bs_size,bs_size]
 have:IntKind.i64.max = 9223372036854775807:=rfl
 omega
theorem b_slss {a b:List UInt8}:abin .lss (.s (bs a)) (.s (bs b)) = some (.b (Op.bytesLess a b)):=by
 show sbin .lss _ _ = _
 unfold sbin
 simp only
 rw[bs_list,bs_list]
theorem b_seql {a b:List UInt8}:abin .eql (.s (bs a)) (.s (bs b)) = some (.b (a == b)):=by
 show sbin .eql _ _ = _
 unfold sbin
 simp only
 rw[bs_list,bs_list]
theorem oSslice {c:CS} {al:Nat→Bool} {lo id:Nat} {e:Env} {g:G} (x lo' hi):opE c al lo id (.sslice x lo' hi) e g = vSslice (x.ev e) (evo e lo') (evo e hi) g:=rfl
def I64 (n:Int):Prop:=-9223372036854775808≤n∧n≤9223372036854775807
def itoaS (n:Int):List UInt8:=Lib.itoa n
def itoaH:List AV→(Nat→Option Blk)→Option (AV × Option (Nat × List AV))
 | [.i .i64 n],_ => if -9223372036854775808≤n∧n≤9223372036854775807 then some (.s (bs (itoaS n)),none) else none
 | _,_ => none
def A_strconv_Itoa:AFun:={ res:=[.t 0],body:=.prim 1 itoaH }
theorem sp_itoa (h:F 413 = some A_strconv_Itoa) {n:Int} (hn:I64 n):pureS F 413 [.i .i64 n] = some (.s (bs (itoaS n))):=by
 refine pure_of h ?_
 unfold W
 have hh:itoaH ((List.range 1).map (argEnv [.i .i64 n])) g0.hp = some (.s (bs (itoaS n)),none):=if_pos hn
 have hp:primE itoaH ((List.range 1).map (argEnv [.i .i64 n])) g0 = some (.s (bs (itoaS n)),g0):=by
  unfold primE
  rw[hh]
 refine ⟨.ret,upd (argEnv [.i .i64 n]) 0 (.s (bs (itoaS n))),g0,?_,?_⟩
 ·show codeS F (.prim 1 itoaH) _ _ = _
  rw[codeS_prim,hp]
 ·rw[retQ_ret]
  have:resE A_strconv_Itoa.res (upd (argEnv [.i .i64 n]) 0 (.s (bs (itoaS n)))) g0 = some (.s (bs (itoaS n))):=by
   show resE [ARes.t 0] _ _ = _
   rw[res_1,upd_same]
  rw[this]
  exact frz_d_s _ _
theorem itoaS_len {n:Int} (hn:I64 n):(itoaS n).length≤21:=Lib.itoa_length_le n hn.1 hn.2
inductive T where
 | num (v:Int)
 | rd (i:Int)
 | op (o:Int) (l r:T)
def tC:T→List AV
 | .num v => [.i .i64 1,.i .i64 v,.nilp,.nilp]
 | .rd i => [.i .i64 2,.i .i64 i,.nilp,.nilp]
 | .op o l r => [.i .i64 3,.i .i64 o,.ptr (tC l),.ptr (tC r)]
def tP (t:T):AV:=.ptr (tC t)
def oP:Option T→AV
 | none => .nilp
 | some t => tP t
def fixT:Option T→T
 | none => .num 0
 | some t => t
def nodes:T→Nat
 | .op _ l r => 1 + nodes l + nodes r
 | _ => 1
def OkT:T→Prop
 | .num v => I64 v
 | .rd i => I64 i
 | .op o l r => (1≤o∧o≤6)∧OkT l∧OkT r
def sgn (o:Int):List UInt8:=[([63,43,45,42,94,61,60]:List UInt8).getD o.toNat 0]
def txt:T→List UInt8
 | .num v => itoaS v
 | .rd i => [105] ++ itoaS i
 | .op o l r => [40] ++ txt l ++ [32] ++ sgn o ++ [32] ++ txt r ++ [41]
theorem txt_len:∀ {t:T},OkT t→(txt t).length≤40 * nodes t
 | .num v,h => by have:=itoaS_len (n:=v) h;simp only[txt,nodes];omega
 | .rd v,h => by have:=itoaS_len (n:=v) h;simp only[txt,nodes,List.length_append,List.length_cons,List.length_nil];omega
 | .op o l r,h => by
   have h1:=txt_len h.2.1
   have h2:=txt_len h.2.2
   simp only[txt,nodes,List.length_append,List.length_cons,List.length_nil,sgn]
   omega
theorem sgn_cut {o:Int} (h1:1≤o) (h6:o≤6) (k:IntKind) (g:G):vSslice (.s ⟨#[63,43,45,42,94,61,60]⟩) (some (.i k o)) (some (.i k (o + 1))) g = some (.s (bs (sgn o)),g):=by
 have hs:o = 1∨o = 2∨o = 3∨o = 4∨o = 5∨o = 6:=by omega
 rcases hs with rfl | rfl | rfl | rfl | rfl | rfl<;>rfl
theorem dd_small {u:Nat} (h:u < 10):Lib.decDigits u = [UInt8.ofNat (48 + u)]:=by rw[Lib.decDigits];rw[dif_pos h]
theorem dd_big {u:Nat} (h:¬ u < 10):Lib.decDigits u = Lib.decDigits (u / 10) ++ [UInt8.ofNat (48 + u % 10)]:=by rw[Lib.decDigits];rw[dif_neg h]
theorem it_pos (u:Nat):itoaS (u:Int) = Lib.decDigits u:=by
 unfold itoaS Lib.itoa
 rw[if_neg (by omega)]
 rfl
end Go.Ab
end
section
set_option linter.unusedVariables false
set_option maxRecDepth 100000
namespace Go.Proofs.YtmlfhgdpcjhnpaaDoor
open Go.Ab Go.RowKit
theorem gNamed:Tryd.prog.globalNamed (Rows.termNumbersRow.named.headD "") = some 0:=by kernel_rfl
theorem pow10_eq:(Lib.pow10Tab.map fun z => Value.int .u64 z).toArray = tab10:=by simp[tab10,Lib.pow10Tab]
theorem primItoa {num:Nat→Nat} (h1:num 413 = 39) (h2:num 1000000 = 1):PrimOk Tryd.prog num 413 A_strconv_Itoa:=by
 refine ⟨1,itoaH,rfl,rfl,⟨Tryd.f39,by rw[h1];exact Tryd.func39,by kernel_rfl,by kernel_rfl⟩,?_⟩
 intro xs g v g' hl hp c vargs hn hhp K hr
 obtain ⟨x,rfl⟩:=List.length_eq_one_iff.1 hl
 have hp:primE itoaH [x] g = some (v,g'):=hp
 have hx:∃ n,x = .i .i64 n∧I64 n∧v = .s (bs (itoaS n))∧g' = g:=by
  unfold primE itoaH at hp
  cases x with
  | i k n =>
    cases k<;>try (cases hp;done)
    simp only at hp
    by_cases hi:-9223372036854775808≤n∧n≤9223372036854775807
    ·rw[if_pos hi] at hp
     cases hp
     exact ⟨n,rfl,hi,rfl,rfl⟩
    ·rw[if_neg hi] at hp
     cases hp
  | _ => cases hp
 obtain ⟨n,rfl,hi,rfl,rfl⟩:=hx
 obtain ⟨hlen,hreps⟩:=hr
 obtain ⟨u,rfl⟩:=List.length_eq_one_iff.1 (show vargs.length = 1 by rw[←hlen];rfl)
 have hu:=rep_i (hreps 0 _ u rfl rfl)
 subst hu
 have htab:Lib.TabIs Tryd.prog c.w (Rows.termNumbersRow.named.headD "") .u64 Lib.pow10Tab:=by
  obtain ⟨_,ty,fr,hb⟩:=K.gl 0 (by rw[hn];exact h2)
  unfold Lib.TabIs World.var?
  rw[gNamed,pow10_eq]
  simp only[Option.bind_some,hb]
 rw[h1]
 refine (Any.strconv_Itoa Tryd.laysM171 n hi.1 hi.2 c.w htab).mono fun e w' h => ?_
 obtain ⟨rfl,k,os,rfl⟩:=h
 have hb:Below c.w.heap.size c.w (Go.Sort.grow (c.w.drewN k) os):=⟨rfl,rfl,rfl,by simp[Go.Sort.grow,World.drewN],fun j hj => by
  simp only[Go.Sort.grow,World.drewN]
  rw[Array.getElem?_append_left hj]⟩
 exact ⟨_,c.grow (Go.Sort.grow (c.w.drewN k) os),rfl,rfl,Evo.grow K hb,K.grow hb,hhp,.s _⟩
end Go.Proofs.YtmlfhgdpcjhnpaaDoor
end
section
namespace Go.Ab
def A_xlaw22_TermNumbers:AFun:={ res:=[.t 4],body:=(.seq (.reg false [qo 4 (.mv (.c (.b false)))])
 (.seq (.seq (.reg false [qm 8 0,qo 9 (.len (.t 8)),qo 10 (.bin .gtr (.t 9) (.c (.i .i64 40))),qm 11 10,qg 12 (.mv (.t 1)) 11 false,qg 13 (.len (.t 12)) 11 false,qg 14 (.bin .gtr (.t 13) (.c (.i .i64 10))) 11 false,qo 15 (.pick (.t 11) (.c (.b true)) (.t 14))])
 (.cond (.t 15) (.seq (.reg false [qo 16 (.call .pure (.c (.fn 509 [] [])) []),qm 4 16])
 .ret)
 .skip))
 (.seq (.reg false [qm 18 0,qo 19 (.call .pure (.c (.fn 510 [] [])) [.t 18,.c (.i .i64 0),.c (.i .i64 5)]),qm 17 19,qo 20 (.ext 0 (.t 17)),qo 21 (.ext 1 (.t 17)),qo 22 (.ext 2 (.t 17)),qm 5 20,qm 6 21,qm 7 22])
 (.seq (.reg false [qm 23 5,qo 24 (.call .pure (.c (.fn 389 [] [])) [.t 23]),qm 25 6,qo 26 (.call .pure (.c (.fn 511 [] [])) [.t 25]),qo 27 (.bin .eql (.t 24) (.t 26)),qm 28 27,qg 29 (.mv (.t 5)) 28 true,qg 30 (.call .pure (.c (.fn 384 [] [])) [.t 29]) 28 true,qg 31 (.mv (.t 6)) 28 true,qg 32 (.call .pure (.c (.fn 512 [] [])) [.t 31]) 28 true,qg 33 (.bin .eql (.t 30) (.t 32)) 28 true,qo 34 (.pick (.t 28) (.t 33) (.c (.b false))),qm 35 34,qg 36 (.mv (.t 5)) 35 true,qg 37 (.mv (.t 1)) 35 true,qg 38 (.call .pure (.c (.fn 513 [] [])) [.t 36,.t 37]) 35 true,qg 39 (.mv (.t 6)) 35 true,qg 40 (.mv (.t 1)) 35 true,qg 41 (.call .pure (.c (.fn 514 [] [])) [.t 39,.t 40]) 35 true,qg 42 (.bin .eql (.t 38) (.t 41)) 35 true,qo 43 (.pick (.t 35) (.t 42) (.c (.b false))),qm 44 43,qg 45 (.call .pure (.c (.fn 509 [] [])) []) 44 true,qo 46 (.pick (.t 44) (.t 45) (.c (.b false))),qm 4 46])
 .ret)))) }
def A_xlaw22_TermMakes:AFun:={ res:=[.t 8],body:=(.seq (.reg false [qo 8 (.mv (.c (.b false)))])
 (.seq (.reg false [qm 13 3,qo 14 (.bsl true 1 ([.i .i64 0]) [(0,1,.t 13)]),qm 9 14])
 (.seq (.reg false [qm 15 0,qm 16 1,qo 17 (.call .pure (.c (.fn 387 [] [])) [.t 16]),qm 18 2,qo 19 (.call .pure (.c (.fn 387 [] [])) [.t 18]),qo 20 (.call .pure (.c (.fn 406 [] [])) [.t 15,.t 17,.t 19]),qm 21 0,qo 22 (.call .pure (.c (.fn 408 [] [])) [.c (.i .i64 0)]),qm 23 2,qo 24 (.call .pure (.c (.fn 387 [] [])) [.t 23]),qo 25 (.call .pure (.c (.fn 406 [] [])) [.t 21,.t 22,.t 24]),qm 26 0,qm 27 1,qo 28 (.call .pure (.c (.fn 387 [] [])) [.t 27]),qo 29 (.call .pure (.c (.fn 408 [] [])) [.c (.i .i64 0)]),qo 30 (.call .pure (.c (.fn 406 [] [])) [.t 26,.t 28,.t 29]),qm 10 20,qm 11 25,qm 12 30])
 (.seq (.reg false [qm 31 10,qm 32 9,qo 33 (.call .pure (.c (.fn 513 [] [])) [.t 31,.t 32]),qm 34 0,qm 35 1,qm 36 2,qo 37 (.call .pure (.c (.fn 128 [] [])) [.t 34,.t 35,.t 36]),qo 38 (.bin .eql (.t 33) (.t 37)),qm 39 38,qg 40 (.mv (.t 11)) 39 true,qg 41 (.mv (.t 9)) 39 true,qg 42 (.call .pure (.c (.fn 513 [] [])) [.t 40,.t 41]) 39 true,qg 43 (.mv (.t 0)) 39 true,qg 44 (.mv (.t 3)) 39 true,qg 45 (.mv (.t 2)) 39 true,qg 46 (.call .pure (.c (.fn 128 [] [])) [.t 43,.t 44,.t 45]) 39 true,qg 47 (.bin .eql (.t 42) (.t 46)) 39 true,qo 48 (.pick (.t 39) (.t 47) (.c (.b false))),qm 49 48,qg 50 (.mv (.t 12)) 49 true,qg 51 (.mv (.t 9)) 49 true,qg 52 (.call .pure (.c (.fn 513 [] [])) [.t 50,.t 51]) 49 true,qg 53 (.mv (.t 0)) 49 true,qg 54 (.mv (.t 1)) 49 true,qg 55 (.mv (.t 3)) 49 true,qg 56 (.call .pure (.c (.fn 128 [] [])) [.t 53,.t 54,.t 55]) 49 true,qg 57 (.bin .eql (.t 52) (.t 56)) 49 true,qo 58 (.pick (.t 49) (.t 57) (.c (.b false))),qm 59 58,qg 60 (.mv (.t 10)) 59 true,qg 61 (.call .pure (.c (.fn 384 [] [])) [.t 60]) 59 true,qg 62 (.bin .eql (.t 61) (.c (.i .i64 1))) 59 true,qo 63 (.pick (.t 59) (.t 62) (.c (.b false))),qm 64 63,qg 65 (.mv (.t 0)) 64 true,qg 66 (.bin .neq (.t 65) (.c (.i .i64 1))) 64 true,qg 67 (.mv (.t 66)) 64 true,qg 68 (.mv (.t 0)) 67 true,qg 69 (.bin .neq (.t 68) (.c (.i .i64 3))) 67 true,qg 70 (.pick (.t 67) (.t 69) (.c (.b false))) 64 true,qg 71 (.mv (.t 70)) 64 true,qg 72 (.mv (.t 0)) 71 true,qg 73 (.bin .neq (.t 72) (.c (.i .i64 4))) 71 true,qg 74 (.pick (.t 71) (.t 73) (.c (.b false))) 64 true,qg 75 (.mv (.t 74)) 64 true,qg 76 (.mv (.t 0)) 75 true,qg 77 (.bin .neq (.t 76) (.c (.i .i64 5))) 75 true,qg 78 (.pick (.t 75) (.t 77) (.c (.b false))) 64 true,qg 79 (.mv (.t 78)) 64 true,qg 80 (.mv (.t 11)) 79 false,qg 81 (.mv (.t 0)) 79 false,qg 82 (.mv (.t 2)) 79 false,qg 83 (.call .pure (.c (.fn 387 [] [])) [.t 82]) 79 false,qg 84 (.call .pure (.c (.fn 408 [] [])) [.c (.i .i64 0)]) 79 false,qg 85 (.call .pure (.c (.fn 406 [] [])) [.t 81,.t 83,.t 84]) 79 false,qg 86 (.call .pure (.c (.fn 401 [] [])) [.t 80,.t 85]) 79 false,qg 87 (.pick (.t 79) (.c (.b true)) (.t 86)) 64 true,qo 88 (.pick (.t 64) (.t 87) (.c (.b false))),qm 89 88,qg 90 (.call .pure (.c (.fn 509 [] [])) []) 89 true,qo 91 (.pick (.t 89) (.t 90) (.c (.b false))),qm 8 91])
 .ret)))) }
def A_xlaw22_TermNorms:AFun:={ res:=[.t 6],body:=(.seq (.reg false [qo 6 (.mv (.c (.b false)))])
 (.seq (.reg false [qm 12 0,qo 13 (.call .pure (.c (.fn 10 [] [])) [.t 12,.c (.i .i64 100)]),qm 7 13])
 (.seq (.reg false [qm 14 7,qo 15 (.call .pure (.c (.fn 408 [] [])) [.t 14]),qm 16 7,qo 17 (.bin .add (.t 16) (.c (.i .i64 1))),qo 18 (.call .pure (.c (.fn 408 [] [])) [.t 17]),qm 8 15,qm 9 18])
 (.seq (.reg false [qo 10 (.mv (.c (.fn 387 [] [])))])
 (.seq (.reg false [qo 11 (.mv (.c (.fn 515 [] [])))])
 (.seq (.reg false [qm 19 11,qm 20 8,qm 21 10,qo 22 (.call .pure (.t 21) [.c (.i .i64 0)]),qo 23 (.call .pure (.t 19) [.c (.i .i64 1),.t 20,.t 22]),qm 24 8,qo 25 (.call .pure (.c (.fn 401 [] [])) [.t 23,.t 24]),qm 26 25,qg 27 (.mv (.t 11)) 26 true,qg 28 (.mv (.t 10)) 26 true,qg 29 (.call .pure (.t 28) [.c (.i .i64 0)]) 26 true,qg 30 (.mv (.t 8)) 26 true,qg 31 (.call .pure (.t 27) [.c (.i .i64 1),.t 29,.t 30]) 26 true,qg 32 (.mv (.t 8)) 26 true,qg 33 (.call .pure (.c (.fn 401 [] [])) [.t 31,.t 32]) 26 true,qo 34 (.pick (.t 26) (.t 33) (.c (.b false))),qm 35 34,qg 36 (.mv (.t 11)) 35 true,qg 37 (.mv (.t 8)) 35 true,qg 38 (.mv (.t 10)) 35 true,qg 39 (.call .pure (.t 38) [.c (.i .i64 0)]) 35 true,qg 40 (.call .pure (.t 36) [.c (.i .i64 2),.t 37,.t 39]) 35 true,qg 41 (.mv (.t 8)) 35 true,qg 42 (.call .pure (.c (.fn 401 [] [])) [.t 40,.t 41]) 35 true,qo 43 (.pick (.t 35) (.t 42) (.c (.b false))),qm 44 43,qg 45 (.mv (.t 11)) 44 true,qg 46 (.mv (.t 8)) 44 true,qg 47 (.mv (.t 10)) 44 true,qg 48 (.call .pure (.t 47) [.c (.i .i64 1)]) 44 true,qg 49 (.call .pure (.t 45) [.c (.i .i64 3),.t 46,.t 48]) 44 true,qg 50 (.mv (.t 8)) 44 true,qg 51 (.call .pure (.c (.fn 401 [] [])) [.t 49,.t 50]) 44 true,qo 52 (.pick (.t 44) (.t 51) (.c (.b false))),qm 53 52,qg 54 (.mv (.t 11)) 53 true,qg 55 (.mv (.t 10)) 53 true,qg 56 (.call .pure (.t 55) [.c (.i .i64 0)]) 53 true,qg 57 (.mv (.t 8)) 53 true,qg 58 (.call .pure (.t 54) [.c (.i .i64 3),.t 56,.t 57]) 53 true,qg 59 (.mv (.t 10)) 53 true,qg 60 (.call .pure (.t 59) [.c (.i .i64 0)]) 53 true,qg 61 (.call .pure (.c (.fn 401 [] [])) [.t 58,.t 60]) 53 true,qo 62 (.pick (.t 53) (.t 61) (.c (.b false))),qm 63 62,qg 64 (.mv (.t 11)) 63 true,qg 65 (.mv (.t 10)) 63 true,qg 66 (.call .pure (.t 65) [.c (.i .i64 0)]) 63 true,qg 67 (.mv (.t 8)) 63 true,qg 68 (.call .pure (.t 64) [.c (.i .i64 4),.t 66,.t 67]) 63 true,qg 69 (.mv (.t 8)) 63 true,qg 70 (.call .pure (.c (.fn 401 [] [])) [.t 68,.t 69]) 63 true,qo 71 (.pick (.t 63) (.t 70) (.c (.b false))),qm 72 71,qg 73 (.mv (.t 11)) 72 true,qg 74 (.mv (.t 8)) 72 true,qg 75 (.mv (.t 9)) 72 true,qg 76 (.call .pure (.t 73) [.c (.i .i64 1),.t 74,.t 75]) 72 true,qg 77 (.mv (.t 11)) 72 true,qg 78 (.mv (.t 9)) 72 true,qg 79 (.mv (.t 8)) 72 true,qg 80 (.call .pure (.t 77) [.c (.i .i64 1),.t 78,.t 79]) 72 true,qg 81 (.call .pure (.c (.fn 401 [] [])) [.t 76,.t 80]) 72 true,qo 82 (.pick (.t 72) (.t 81) (.c (.b false))),qm 83 82,qg 84 (.mv (.t 11)) 83 true,qg 85 (.mv (.t 8)) 83 true,qg 86 (.mv (.t 9)) 83 true,qg 87 (.call .pure (.t 84) [.c (.i .i64 5),.t 85,.t 86]) 83 true,qg 88 (.mv (.t 11)) 83 true,qg 89 (.mv (.t 9)) 83 true,qg 90 (.mv (.t 8)) 83 true,qg 91 (.call .pure (.t 88) [.c (.i .i64 5),.t 89,.t 90]) 83 true,qg 92 (.call .pure (.c (.fn 401 [] [])) [.t 87,.t 91]) 83 true,qo 93 (.pick (.t 83) (.t 92) (.c (.b false))),qm 94 93,qg 95 (.mv (.t 11)) 94 true,qg 96 (.mv (.t 8)) 94 true,qg 97 (.mv (.t 9)) 94 true,qg 98 (.call .pure (.t 95) [.c (.i .i64 2),.t 96,.t 97]) 94 true,qg 99 (.mv (.t 11)) 94 true,qg 100 (.mv (.t 9)) 94 true,qg 101 (.mv (.t 8)) 94 true,qg 102 (.call .pure (.t 99) [.c (.i .i64 2),.t 100,.t 101]) 94 true,qg 103 (.call .pure (.c (.fn 401 [] [])) [.t 98,.t 102]) 94 true,qg 104 (.un .not (.t 103)) 94 true,qo 105 (.pick (.t 94) (.t 104) (.c (.b false))),qm 106 105,qg 107 (.mv (.t 11)) 106 true,qg 108 (.mv (.t 8)) 106 true,qg 109 (.mv (.t 9)) 106 true,qg 110 (.call .pure (.t 107) [.c (.i .i64 6),.t 108,.t 109]) 106 true,qg 111 (.mv (.t 11)) 106 true,qg 112 (.mv (.t 9)) 106 true,qg 113 (.mv (.t 8)) 106 true,qg 114 (.call .pure (.t 111) [.c (.i .i64 6),.t 112,.t 113]) 106 true,qg 115 (.call .pure (.c (.fn 401 [] [])) [.t 110,.t 114]) 106 true,qg 116 (.un .not (.t 115)) 106 true,qo 117 (.pick (.t 106) (.t 116) (.c (.b false))),qm 118 117,qg 119 (.mv (.t 11)) 118 true,qg 120 (.mv (.t 10)) 118 true,qg 121 (.mv (.t 1)) 118 true,qg 122 (.call .pure (.t 120) [.t 121]) 118 true,qg 123 (.mv (.t 10)) 118 true,qg 124 (.mv (.t 2)) 118 true,qg 125 (.call .pure (.t 123) [.t 124]) 118 true,qg 126 (.call .pure (.t 119) [.c (.i .i64 1),.t 122,.t 125]) 118 true,qg 127 (.mv (.t 10)) 118 true,qg 128 (.mv (.t 1)) 118 true,qg 129 (.mv (.t 2)) 118 true,qg 130 (.bin .add (.t 128) (.t 129)) 118 true,qg 131 (.call .pure (.t 127) [.t 130]) 118 true,qg 132 (.call .pure (.c (.fn 401 [] [])) [.t 126,.t 131]) 118 true,qo 133 (.pick (.t 118) (.t 132) (.c (.b false))),qm 134 133,qg 135 (.mv (.t 11)) 134 true,qg 136 (.mv (.t 10)) 134 true,qg 137 (.mv (.t 1)) 134 true,qg 138 (.call .pure (.t 136) [.t 137]) 134 true,qg 139 (.mv (.t 10)) 134 true,qg 140 (.mv (.t 2)) 134 true,qg 141 (.call .pure (.t 139) [.t 140]) 134 true,qg 142 (.call .pure (.t 135) [.c (.i .i64 3),.t 138,.t 141]) 134 true,qg 143 (.mv (.t 10)) 134 true,qg 144 (.mv (.t 1)) 134 true,qg 145 (.mv (.t 2)) 134 true,qg 146 (.bin .mul (.t 144) (.t 145)) 134 true,qg 147 (.call .pure (.t 143) [.t 146]) 134 true,qg 148 (.call .pure (.c (.fn 401 [] [])) [.t 142,.t 147]) 134 true,qo 149 (.pick (.t 134) (.t 148) (.c (.b false))),qm 150 149,qg 151 (.mv (.t 11)) 150 true,qg 152 (.mv (.t 8)) 150 true,qg 153 (.call .pure (.t 151) [.c (.i .i64 1),.c (.nilp),.t 152]) 150 true,qg 154 (.mv (.t 8)) 150 true,qg 155 (.call .pure (.c (.fn 401 [] [])) [.t 153,.t 154]) 150 true,qo 156 (.pick (.t 150) (.t 155) (.c (.b false))),qm 157 156,qg 158 (.mv (.t 8)) 157 true,qg 159 (.mv (.t 9)) 157 true,qg 160 (.call .pure (.c (.fn 401 [] [])) [.t 158,.t 159]) 157 true,qg 161 (.un .not (.t 160)) 157 true,qo 162 (.pick (.t 157) (.t 161) (.c (.b false))),qm 163 162,qg 164 (.mv (.t 11)) 163 true,qg 165 (.mv (.t 8)) 163 true,qg 166 (.mv (.t 9)) 163 true,qg 167 (.call .pure (.t 164) [.c (.i .i64 2),.t 165,.t 166]) 163 true,qg 168 (.call .pure (.c (.fn 384 [] [])) [.t 167]) 163 true,qg 169 (.bin .eql (.t 168) (.c (.i .i64 3))) 163 true,qo 170 (.pick (.t 163) (.t 169) (.c (.b false))),qm 171 170,qg 172 (.call .pure (.c (.fn 509 [] [])) []) 171 true,qo 173 (.pick (.t 171) (.t 172) (.c (.b false))),qm 6 173])
 .ret)))))) }
def A_xlaw22_TermSums:AFun:={ res:=[.t 4],body:=(.seq (.reg false [qo 4 (.mv (.c (.b false)))])
 (.seq (.reg false [qm 10 0,qo 11 (.call .pure (.c (.fn 10 [] [])) [.t 10,.c (.i .i64 9)]),qo 12 (.bin .add (.c (.i .i64 1)) (.t 11)),qm 5 12])
 (.seq (.reg false [qo 13 (.call .pure (.c (.fn 408 [] [])) [.c (.i .i64 0)]),qm 6 13])
 (.seq (.reg false [qo 7 (.mv (.c (.s ⟨#[105,48]⟩))),qo 8 (.mv (.c (.i .i64 0)))])
 (.seq (.seq (.reg false [qm 14 1,qo 15 (.len (.t 14)),qo 16 (.bin .gtr (.t 15) (.c (.i .i64 0)))])
 (.cond (.t 16) (.reg false [qm 17 1,qo 18 (.ia 1 (.t 17) (.c (.i .i64 0))),qo 19 (.ld none (.t 18)),qm 8 19])
 .skip))
 (.seq (.seq (.reg false [qo 9 (.mv (.c (.i .i64 1)))])
 (.blk 0 (.loop (.seq (.seq (.reg false [qm 20 9,qm 21 5,qo 22 (.bin .lss (.t 20) (.t 21))])
 (.cond (.t 22) .skip
 (.ext 0)))
 (.seq (.blk 1 (.seq (.reg false [qm 25 6,qm 26 9,qo 27 (.call .pure (.c (.fn 408 [] [])) [.t 26]),qo 28 (.call .pure (.c (.fn 406 [] [])) [.c (.i .i64 2),.t 25,.t 27]),qm 6 28])
 (.seq (.reg false [qm 29 7,qo 30 (.bin .add (.c (.s ⟨#[40]⟩)) (.t 29)),qo 31 (.bin .add (.t 30) (.c (.s ⟨#[32,45,32,105]⟩))),qm 32 9,qo 33 (.call .pure (.c (.fn 516 [] [])) [.t 32]),qo 34 (.bin .add (.t 31) (.t 33)),qo 35 (.bin .add (.t 34) (.c (.s ⟨#[41]⟩))),qm 7 35])
 (.seq (.reg false [qm 36 9,qm 37 1,qo 38 (.len (.t 37)),qo 39 (.bin .lss (.t 36) (.t 38))])
 (.cond (.t 39) (.reg false [qm 40 8,qm 41 1,qm 42 9,qo 43 (.ia 1 (.t 41) (.t 42)),qo 44 (.ld none (.t 43)),qo 45 (.bin .sub (.t 40) (.t 44)),qm 8 45])
 .skip)))))
 (.reg false [qm 23 9,qo 24 (.bin .add (.t 23) (.c (.i .i64 1))),qm 9 24]))))))
 (.seq (.reg false [qm 46 6,qo 47 (.call .pure (.c (.fn 389 [] [])) [.t 46]),qm 48 7,qo 49 (.bin .eql (.t 47) (.t 48)),qm 50 49,qg 51 (.mv (.t 6)) 50 true,qg 52 (.call .pure (.c (.fn 384 [] [])) [.t 51]) 50 true,qg 53 (.mv (.t 5)) 50 true,qg 54 (.bin .mul (.c (.i .i64 2)) (.t 53)) 50 true,qg 55 (.bin .sub (.t 54) (.c (.i .i64 1))) 50 true,qg 56 (.bin .eql (.t 52) (.t 55)) 50 true,qo 57 (.pick (.t 50) (.t 56) (.c (.b false))),qm 58 57,qg 59 (.mv (.t 6)) 58 true,qg 60 (.mv (.t 1)) 58 true,qg 61 (.call .pure (.c (.fn 513 [] [])) [.t 59,.t 60]) 58 true,qg 62 (.mv (.t 8)) 58 true,qg 63 (.bin .eql (.t 61) (.t 62)) 58 true,qo 64 (.pick (.t 58) (.t 63) (.c (.b false))),qm 65 64,qg 66 (.call .pure (.c (.fn 509 [] [])) []) 65 true,qo 67 (.pick (.t 65) (.t 66) (.c (.b false))),qm 4 67])
 .ret))))))) }
def A_xlaw22_TermOf:AFun:={ res:=[.t 4],body:=(.seq (.reg false [qo 4 (.mv (.c (.b false)))])
 (.seq (.seq (.reg false [qm 10 0,qo 11 (.len (.t 10)),qo 12 (.bin .gtr (.t 11) (.c (.i .i64 20))),qm 13 12,qg 14 (.mv (.t 1)) 13 false,qg 15 (.len (.t 14)) 13 false,qg 16 (.bin .gtr (.t 15) (.c (.i .i64 20))) 13 false,qo 17 (.pick (.t 13) (.c (.b true)) (.t 16))])
 (.cond (.t 17) (.seq (.reg false [qo 18 (.call .pure (.c (.fn 509 [] [])) []),qm 4 18])
 .ret)
 .skip))
 (.seq (.reg false [qm 19 0,qo 20 (.call .pure (.c (.fn 517 [] [])) [.t 19,.c (.i .i64 9)]),qm 5 20])
 (.seq (.reg false [qo 6 (.mv (.c (.sl [] 0 .rig)))])
 (.seq (.reg false [qo 7 (.mv (.c (.sl [] 0 .rig)))])
 (.seq (.seq (.reg false [qo 8 (.mv (.c (.i .i64 0)))])
 (.blk 0 (.loop (.seq (.seq (.reg false [qm 21 8,qm 22 1,qo 23 (.len (.t 22)),qo 24 (.bin .lss (.t 21) (.t 23)),qm 25 24,qg 26 (.mv (.t 8)) 25 true,qg 27 (.bin .lss (.t 26) (.c (.i .i64 8))) 25 true,qo 28 (.pick (.t 25) (.t 27) (.c (.b false)))])
 (.cond (.t 28) .skip
 (.ext 0)))
 (.seq (.blk 1 (.reg true [qm 31 6,qm 32 8,qo 33 (.call .pure (.c (.fn 408 [] [])) [.t 32]),qo 34 (.bsl true 1 ([.nilp]) [(0,1,.t 33)]),qo 35 (.app 1 8 (.t 31) (.t 34)),qm 36 7,qm 37 1,qm 38 8,qo 39 (.ia 1 (.t 37) (.t 38)),qo 40 (.ld none (.t 39)),qo 41 (.bsl true 1 ([.i .i64 0]) [(0,1,.t 40)]),qp 42 (.app 1 8 (.t 36) (.t 41)) [4],qm 6 35,qm 7 42]))
 (.reg false [qm 29 8,qo 30 (.bin .add (.t 29) (.c (.i .i64 1))),qm 8 30]))))))
 (.seq (.reg false [qm 43 5,qm 44 6,qo 45 (.call .pure (.c (.fn 407 [] [])) [.t 43,.t 44]),qm 9 45])
 (.seq (.reg false [qm 46 9,qm 47 1,qo 48 (.call .pure (.c (.fn 513 [] [])) [.t 46,.t 47]),qm 49 5,qm 50 7,qo 51 (.call .pure (.c (.fn 115 [] [])) [.t 49,.t 50]),qo 52 (.bin .eql (.t 48) (.t 51)),qm 53 52,qg 54 (.mv (.t 9)) 53 true,qg 55 (.call .pure (.c (.fn 384 [] [])) [.t 54]) 53 true,qg 56 (.mv (.t 5)) 53 true,qg 57 (.len (.t 56)) 53 true,qg 58 (.bin .leq (.t 55) (.t 57)) 53 true,qo 59 (.pick (.t 53) (.t 58) (.c (.b false))),qm 60 59,qg 61 (.call .pure (.c (.fn 509 [] [])) []) 60 true,qo 62 (.pick (.t 60) (.t 61) (.c (.b false))),qm 4 62])
 .ret)))))))) }
def A_xlaw22_awake:AFun:={ res:=[.t 0],body:=(.seq (.reg false [qo 0 (.mv (.c (.b false)))])
 (.seq (.reg false [qo 2 (.call .pure (.c (.fn 408 [] [])) [.c (.i .i64 0)]),qo 3 (.call .pure (.c (.fn 387 [] [])) [.c (.i .i64 0)]),qo 4 (.call .pure (.c (.fn 406 [] [])) [.c (.i .i64 1),.t 2,.t 3]),qm 1 4])
 (.seq (.reg false [qm 5 1,qo 6 (.call .pure (.c (.fn 389 [] [])) [.t 5]),qo 7 (.bin .eql (.t 6) (.c (.s ⟨#[105,48]⟩))),qm 8 7,qg 9 (.mv (.t 1)) 8 true,qg 10 (.bsl true 1 ([.i .i64 0]) [(0,1,.c (.i .i64 7))]) 8 true,qg 11 (.call .pure (.c (.fn 513 [] [])) [.t 9,.t 10]) 8 true,qg 12 (.bin .eql (.t 11) (.c (.i .i64 7))) 8 true,qo 13 (.pick (.t 8) (.t 12) (.c (.b false))),qm 14 13,qg 15 (.mv (.t 1)) 14 true,qg 16 (.call .pure (.c (.fn 384 [] [])) [.t 15]) 14 true,qg 17 (.bin .eql (.t 16) (.c (.i .i64 1))) 14 true,qo 18 (.pick (.t 14) (.t 17) (.c (.b false))),qm 19 18,qg 20 (.mv (.t 1)) 19 true,qg 21 (.call .pure (.c (.fn 408 [] [])) [.c (.i .i64 0)]) 19 true,qg 22 (.call .pure (.c (.fn 401 [] [])) [.t 20,.t 21]) 19 true,qo 23 (.pick (.t 19) (.t 22) (.c (.b false))),qm 24 23,qg 25 (.call .pure (.c (.fn 389 [] [])) [.c (.nilp)]) 24 true,qg 26 (.bin .eql (.t 25) (.c (.s ⟨#[48]⟩))) 24 true,qo 27 (.pick (.t 24) (.t 26) (.c (.b false))),qm 0 27])
 .ret))) }
def A_xlaw22_made:AFun:={ res:=[.t 6,.t 7,.t 8],body:=(.seq (.reg false [qo 6 (.mv (.c (.nilp))),qo 7 (.mv (.c (.nilp))),qo 8 (.mv (.c (.i .i64 0)))])
 (.seq (.seq (.reg false [qm 16 1,qm 17 0,qo 18 (.len (.t 17)),qo 19 (.bin .geq (.t 16) (.t 18))])
 (.cond (.t 19) (.seq (.reg false [qm 20 1,qo 6 (.mv (.c (.nilp))),qo 7 (.mv (.c (.nilp))),qm 8 20])
 .ret)
 .skip))
 (.seq (.reg false [qm 21 0,qm 22 1,qo 23 (.ia 1 (.t 21) (.t 22)),qo 24 (.ld none (.t 23)),qo 25 (.call .pure (.c (.fn 10 [] [])) [.t 24,.c (.i .i64 1073741824)]),qm 9 25])
 (.seq (.blk 0 (.seq (.reg false [qm 27 9,qo 28 (.bin .rem (.t 27) (.c (.i .i64 4))),qo 29 (.bin .eql (.t 28) (.c (.i .i64 0))),qm 30 29,qg 31 (.mv (.t 2)) 30 false,qg 32 (.bin .eql (.t 31) (.c (.i .i64 0))) 30 false,qo 33 (.pick (.t 30) (.c (.b true)) (.t 32)),qm 26 33])
 (.cond (.t 26) (.seq (.reg false [qm 34 9,qo 35 (.bin .quo (.t 34) (.c (.i .i64 4))),qo 36 (.bin .rem (.t 35) (.c (.i .i64 4))),qo 37 (.call .pure (.c (.fn 387 [] [])) [.t 36]),qm 38 9,qo 39 (.bin .quo (.t 38) (.c (.i .i64 4))),qo 40 (.bin .rem (.t 39) (.c (.i .i64 4))),qo 41 (.call .pure (.c (.fn 518 [] [])) [.t 40]),qm 42 1,qo 43 (.bin .add (.t 42) (.c (.i .i64 1))),qm 6 37,qm 7 41,qm 8 43])
 .ret)
 (.seq (.reg false [qm 45 9,qo 46 (.bin .rem (.t 45) (.c (.i .i64 4))),qo 47 (.bin .eql (.t 46) (.c (.i .i64 1))),qm 44 47])
 (.cond (.t 44) (.seq (.reg false [qm 48 9,qo 49 (.bin .quo (.t 48) (.c (.i .i64 4))),qo 50 (.bin .rem (.t 49) (.c (.i .i64 3))),qo 51 (.call .pure (.c (.fn 408 [] [])) [.t 50]),qm 52 9,qo 53 (.bin .quo (.t 52) (.c (.i .i64 4))),qo 54 (.bin .rem (.t 53) (.c (.i .i64 3))),qo 55 (.call .pure (.c (.fn 519 [] [])) [.t 54]),qm 56 1,qo 57 (.bin .add (.t 56) (.c (.i .i64 1))),qm 6 51,qm 7 55,qm 8 57])
 .ret)
 .skip)))))
 (.seq (.reg false [qm 59 0,qm 60 1,qo 61 (.bin .add (.t 60) (.c (.i .i64 1))),qm 62 2,qo 63 (.bin .sub (.t 62) (.c (.i .i64 1))),qo 64 (.call .pure (.c (.fn 510 [] [])) [.t 59,.t 61,.t 63]),qm 58 64,qo 65 (.ext 0 (.t 58)),qo 66 (.ext 1 (.t 58)),qo 67 (.ext 2 (.t 58)),qm 10 65,qm 11 66,qm 12 67])
 (.seq (.reg false [qm 69 0,qm 70 12,qm 71 2,qo 72 (.bin .sub (.t 71) (.c (.i .i64 1))),qo 73 (.call .pure (.c (.fn 510 [] [])) [.t 69,.t 70,.t 72]),qm 68 73,qo 74 (.ext 0 (.t 68)),qo 75 (.ext 1 (.t 68)),qo 76 (.ext 2 (.t 68)),qm 13 74,qm 14 75,qm 15 76])
 (.seq (.reg false [qm 77 9,qo 78 (.bin .quo (.t 77) (.c (.i .i64 4))),qo 79 (.bin .rem (.t 78) (.c (.i .i64 8))),qm 80 10,qm 81 13,qo 82 (.call .pure (.c (.fn 406 [] [])) [.t 79,.t 80,.t 81]),qm 83 9,qo 84 (.bin .quo (.t 83) (.c (.i .i64 4))),qo 85 (.bin .rem (.t 84) (.c (.i .i64 8))),qm 86 11,qm 87 14,qo 88 (.call .pure (.c (.fn 520 [] [])) [.t 85,.t 86,.t 87]),qm 89 15,qm 6 82,qm 7 88,qm 8 89])
 .ret))))))) }
def A_xlaw22_TermNorms_1:AFun:={ res:=[.t 6],body:=(.seq (.reg false [qo 6 (.mv (.c (.nilp)))])
 (.seq (.reg false [qm 7 0,qm 8 1,qm 9 2,qo 10 (.call .pure (.c (.fn 406 [] [])) [.t 7,.t 8,.t 9]),qm 6 10])
 .ret)) }
end Go.Ab
end
section
set_option maxRecDepth 100000
set_option linter.unusedVariables false
namespace Go.Proofs.YtmlfhgdpcjhnpaaDoor
open Go.Ab
def tab:List (Nat × Nat × AFun):=[(10,24,A_xlaw00_Place),
 (108,47,A_xlaw00_num),
 (109,48,A_xref02_Check),
 (115,29,A_xref02_Eval),
 (123,46,A_xlaw00_reg),
 (124,45,A_xlaw00_op),
 (125,60,A_xref02_word),
 (128,22,A_xref02_Do),
 (308,69,A_expr_Check),
 (331,82,A_expr_may),
 (358,59,A_expr_Eval),
 (361,70,A_expr_ops),
 (362,83,A_expr_ops_1),
 (363,84,A_expr_ops_2),
 (364,85,A_expr_ops_3),
 (365,86,A_expr_ops_4),
 (366,87,A_expr_ops_5),
 (367,88,A_expr_one),
 (368,89,A_expr_ops_6),
 (384,15,A_term_Size),
 (387,20,A_term_Num),
 (389,13,A_term_Text),
 (390,42,A_term_Size_1),
 (391,37,A_term_known),
 (400,38,A_term_sign),
 (401,23,A_term_Same),
 (406,19,A_term_Make),
 (407,28,A_term_Of),
 (408,21,A_term_Read),
 (410,43,A_term_value),
 (411,44,A_term_isNum),
 (493,41,A_xref02_Digits),
 (504,3,A_xlaw22_TermNumbers),
 (505,4,A_xlaw22_TermMakes),
 (506,5,A_xlaw22_TermNorms),
 (507,6,A_xlaw22_TermSums),
 (508,7,A_xlaw22_TermOf),
 (509,11,A_xlaw22_awake),
 (510,12,A_xlaw22_made),
 (511,14,A_xref22_Text),
 (512,16,A_xref22_Size),
 (513,17,A_term_Eval),
 (514,18,A_xref22_Eval),
 (515,25,A_xlaw22_TermNorms_1),
 (516,26,A_xlaw00_Digits),
 (517,27,A_xlaw00_Wide),
 (518,34,A_xref22_Num),
 (519,35,A_xref22_Read),
 (520,36,A_xref22_Make),
 (521,40,A_xref22_Fix),
 (522,57,A_xref22_num)]
def num (f:Nat):Nat:=((tab.find? (fun r => r.1 == f)).map (·.2.1)).getD ((([(413,39),(1000000,1)]:List (Nat × Nat)).find? (fun r => r.1 == f)).map (·.2) |>.getD 0)
def funs:Funs:=fun f => match tab.find? (fun r => r.1 == f) with
 | some r => some r.2.2
 | none => if f == 413 then some A_strconv_Itoa else none
theorem c10:funB Tryd.prog num Tryd.f24 A_xlaw00_Place = true:=by kernel_rfl
theorem c108:funB Tryd.prog num Tryd.f47 A_xlaw00_num = true:=by kernel_rfl
theorem c109:funB Tryd.prog num Tryd.f48 A_xref02_Check = true:=by kernel_rfl
theorem c115:funB Tryd.prog num Tryd.f29 A_xref02_Eval = true:=by kernel_rfl
theorem c123:funB Tryd.prog num Tryd.f46 A_xlaw00_reg = true:=by kernel_rfl
theorem c124:funB Tryd.prog num Tryd.f45 A_xlaw00_op = true:=by kernel_rfl
theorem c125:funB Tryd.prog num Tryd.f60 A_xref02_word = true:=by kernel_rfl
theorem c128:funB Tryd.prog num Tryd.f22 A_xref02_Do = true:=by kernel_rfl
theorem c308:funB Tryd.prog num Tryd.f69 A_expr_Check = true:=by kernel_rfl
theorem c331:funB Tryd.prog num Tryd.f82 A_expr_may = true:=by kernel_rfl
theorem c358:funB Tryd.prog num Tryd.f59 A_expr_Eval = true:=by kernel_rfl
theorem c361:funB Tryd.prog num Tryd.f70 A_expr_ops = true:=by kernel_rfl
theorem c362:funB Tryd.prog num Tryd.f83 A_expr_ops_1 = true:=by kernel_rfl
theorem c363:funB Tryd.prog num Tryd.f84 A_expr_ops_2 = true:=by kernel_rfl
theorem c364:funB Tryd.prog num Tryd.f85 A_expr_ops_3 = true:=by kernel_rfl
theorem c365:funB Tryd.prog num Tryd.f86 A_expr_ops_4 = true:=by kernel_rfl
theorem c366:funB Tryd.prog num Tryd.f87 A_expr_ops_5 = true:=by kernel_rfl
theorem c367:funB Tryd.prog num Tryd.f88 A_expr_one = true:=by kernel_rfl
theorem c368:funB Tryd.prog num Tryd.f89 A_expr_ops_6 = true:=by kernel_rfl
theorem c384:funB Tryd.prog num Tryd.f15 A_term_Size = true:=by kernel_rfl
theorem c387:funB Tryd.prog num Tryd.f20 A_term_Num = true:=by kernel_rfl
theorem c389:funB Tryd.prog num Tryd.f13 A_term_Text = true:=by kernel_rfl
theorem c390:funB Tryd.prog num Tryd.f42 A_term_Size_1 = true:=by kernel_rfl
theorem c391:funB Tryd.prog num Tryd.f37 A_term_known = true:=by kernel_rfl
theorem c400:funB Tryd.prog num Tryd.f38 A_term_sign = true:=by kernel_rfl
theorem c401:funB Tryd.prog num Tryd.f23 A_term_Same = true:=by kernel_rfl
theorem c406:funB Tryd.prog num Tryd.f19 A_term_Make = true:=by kernel_rfl
theorem c407:funB Tryd.prog num Tryd.f28 A_term_Of = true:=by kernel_rfl
theorem c408:funB Tryd.prog num Tryd.f21 A_term_Read = true:=by kernel_rfl
theorem c410:funB Tryd.prog num Tryd.f43 A_term_value = true:=by kernel_rfl
theorem c411:funB Tryd.prog num Tryd.f44 A_term_isNum = true:=by kernel_rfl
theorem c493:funB Tryd.prog num Tryd.f41 A_xref02_Digits = true:=by kernel_rfl
theorem c504:funB Tryd.prog num Tryd.f3 A_xlaw22_TermNumbers = true:=by kernel_rfl
theorem c505:funB Tryd.prog num Tryd.f4 A_xlaw22_TermMakes = true:=by kernel_rfl
theorem c506:funB Tryd.prog num Tryd.f5 A_xlaw22_TermNorms = true:=by kernel_rfl
theorem c507:funB Tryd.prog num Tryd.f6 A_xlaw22_TermSums = true:=by kernel_rfl
theorem c508:funB Tryd.prog num Tryd.f7 A_xlaw22_TermOf = true:=by kernel_rfl
theorem c509:funB Tryd.prog num Tryd.f11 A_xlaw22_awake = true:=by kernel_rfl
theorem c510:funB Tryd.prog num Tryd.f12 A_xlaw22_made = true:=by kernel_rfl
theorem c511:funB Tryd.prog num Tryd.f14 A_xref22_Text = true:=by kernel_rfl
theorem c512:funB Tryd.prog num Tryd.f16 A_xref22_Size = true:=by kernel_rfl
theorem c513:funB Tryd.prog num Tryd.f17 A_term_Eval = true:=by kernel_rfl
theorem c514:funB Tryd.prog num Tryd.f18 A_xref22_Eval = true:=by kernel_rfl
theorem c515:funB Tryd.prog num Tryd.f25 A_xlaw22_TermNorms_1 = true:=by kernel_rfl
theorem c516:funB Tryd.prog num Tryd.f26 A_xlaw00_Digits = true:=by kernel_rfl
theorem c517:funB Tryd.prog num Tryd.f27 A_xlaw00_Wide = true:=by kernel_rfl
theorem c518:funB Tryd.prog num Tryd.f34 A_xref22_Num = true:=by kernel_rfl
theorem c519:funB Tryd.prog num Tryd.f35 A_xref22_Read = true:=by kernel_rfl
theorem c520:funB Tryd.prog num Tryd.f36 A_xref22_Make = true:=by kernel_rfl
theorem c521:funB Tryd.prog num Tryd.f40 A_xref22_Fix = true:=by kernel_rfl
theorem c522:funB Tryd.prog num Tryd.f57 A_xref22_num = true:=by kernel_rfl
def Good (r:Nat × Nat × AFun):Prop:=num r.1 = r.2.1∧∃ fn,Tryd.prog.funcs[r.2.1]? = some fn∧funB Tryd.prog num fn r.2.2 = true
theorem good:∀ r∈tab,Good r:=by
 intro r hr
 unfold tab at hr
 rcases List.mem_cons.1 hr with rfl | hr
 ·exact ⟨by kernel_rfl,_,Tryd.func24,c10⟩
 rcases List.mem_cons.1 hr with rfl | hr
 ·exact ⟨by kernel_rfl,_,Tryd.func47,c108⟩
 rcases List.mem_cons.1 hr with rfl | hr
 ·exact ⟨by kernel_rfl,_,Tryd.func48,c109⟩
 rcases List.mem_cons.1 hr with rfl | hr
 ·exact ⟨by kernel_rfl,_,Tryd.func29,c115⟩
 rcases List.mem_cons.1 hr with rfl | hr
 ·exact ⟨by kernel_rfl,_,Tryd.func46,c123⟩
 rcases List.mem_cons.1 hr with rfl | hr
 ·exact ⟨by kernel_rfl,_,Tryd.func45,c124⟩
 rcases List.mem_cons.1 hr with rfl | hr
 ·exact ⟨by kernel_rfl,_,Tryd.func60,c125⟩
 rcases List.mem_cons.1 hr with rfl | hr
 ·exact ⟨by kernel_rfl,_,Tryd.func22,c128⟩
 rcases List.mem_cons.1 hr with rfl | hr
 ·exact ⟨by kernel_rfl,_,Tryd.func69,c308⟩
 rcases List.mem_cons.1 hr with rfl | hr
 ·exact ⟨by kernel_rfl,_,Tryd.func82,c331⟩
 rcases List.mem_cons.1 hr with rfl | hr
 ·exact ⟨by kernel_rfl,_,Tryd.func59,c358⟩
 rcases List.mem_cons.1 hr with rfl | hr
 ·exact ⟨by kernel_rfl,_,Tryd.func70,c361⟩
 rcases List.mem_cons.1 hr with rfl | hr
 ·exact ⟨by kernel_rfl,_,Tryd.func83,c362⟩
 rcases List.mem_cons.1 hr with rfl | hr
 ·exact ⟨by kernel_rfl,_,Tryd.func84,c363⟩
 rcases List.mem_cons.1 hr with rfl | hr
 ·exact ⟨by kernel_rfl,_,Tryd.func85,c364⟩
 rcases List.mem_cons.1 hr with rfl | hr
 ·exact ⟨by kernel_rfl,_,Tryd.func86,c365⟩
 rcases List.mem_cons.1 hr with rfl | hr
 ·exact ⟨by kernel_rfl,_,Tryd.func87,c366⟩
 rcases List.mem_cons.1 hr with rfl | hr
 ·exact ⟨by kernel_rfl,_,Tryd.func88,c367⟩
 rcases List.mem_cons.1 hr with rfl | hr
 ·exact ⟨by kernel_rfl,_,Tryd.func89,c368⟩
 rcases List.mem_cons.1 hr with rfl | hr
 ·exact ⟨by kernel_rfl,_,Tryd.func15,c384⟩
 rcases List.mem_cons.1 hr with rfl | hr
 ·exact ⟨by kernel_rfl,_,Tryd.func20,c387⟩
 rcases List.mem_cons.1 hr with rfl | hr
 ·exact ⟨by kernel_rfl,_,Tryd.func13,c389⟩
 rcases List.mem_cons.1 hr with rfl | hr
 ·exact ⟨by kernel_rfl,_,Tryd.func42,c390⟩
 rcases List.mem_cons.1 hr with rfl | hr
 ·exact ⟨by kernel_rfl,_,Tryd.func37,c391⟩
 rcases List.mem_cons.1 hr with rfl | hr
 ·exact ⟨by kernel_rfl,_,Tryd.func38,c400⟩
 rcases List.mem_cons.1 hr with rfl | hr
 ·exact ⟨by kernel_rfl,_,Tryd.func23,c401⟩
 rcases List.mem_cons.1 hr with rfl | hr
 ·exact ⟨by kernel_rfl,_,Tryd.func19,c406⟩
 rcases List.mem_cons.1 hr with rfl | hr
 ·exact ⟨by kernel_rfl,_,Tryd.func28,c407⟩
 rcases List.mem_cons.1 hr with rfl | hr
 ·exact ⟨by kernel_rfl,_,Tryd.func21,c408⟩
 rcases List.mem_cons.1 hr with rfl | hr
 ·exact ⟨by kernel_rfl,_,Tryd.func43,c410⟩
 rcases List.mem_cons.1 hr with rfl | hr
 ·exact ⟨by kernel_rfl,_,Tryd.func44,c411⟩
 rcases List.mem_cons.1 hr with rfl | hr
 ·exact ⟨by kernel_rfl,_,Tryd.func41,c493⟩
 rcases List.mem_cons.1 hr with rfl | hr
 ·exact ⟨by kernel_rfl,_,Tryd.func3,c504⟩
 rcases List.mem_cons.1 hr with rfl | hr
 ·exact ⟨by kernel_rfl,_,Tryd.func4,c505⟩
 rcases List.mem_cons.1 hr with rfl | hr
 ·exact ⟨by kernel_rfl,_,Tryd.func5,c506⟩
 rcases List.mem_cons.1 hr with rfl | hr
 ·exact ⟨by kernel_rfl,_,Tryd.func6,c507⟩
 rcases List.mem_cons.1 hr with rfl | hr
 ·exact ⟨by kernel_rfl,_,Tryd.func7,c508⟩
 rcases List.mem_cons.1 hr with rfl | hr
 ·exact ⟨by kernel_rfl,_,Tryd.func11,c509⟩
 rcases List.mem_cons.1 hr with rfl | hr
 ·exact ⟨by kernel_rfl,_,Tryd.func12,c510⟩
 rcases List.mem_cons.1 hr with rfl | hr
 ·exact ⟨by kernel_rfl,_,Tryd.func14,c511⟩
 rcases List.mem_cons.1 hr with rfl | hr
 ·exact ⟨by kernel_rfl,_,Tryd.func16,c512⟩
 rcases List.mem_cons.1 hr with rfl | hr
 ·exact ⟨by kernel_rfl,_,Tryd.func17,c513⟩
 rcases List.mem_cons.1 hr with rfl | hr
 ·exact ⟨by kernel_rfl,_,Tryd.func18,c514⟩
 rcases List.mem_cons.1 hr with rfl | hr
 ·exact ⟨by kernel_rfl,_,Tryd.func25,c515⟩
 rcases List.mem_cons.1 hr with rfl | hr
 ·exact ⟨by kernel_rfl,_,Tryd.func26,c516⟩
 rcases List.mem_cons.1 hr with rfl | hr
 ·exact ⟨by kernel_rfl,_,Tryd.func27,c517⟩
 rcases List.mem_cons.1 hr with rfl | hr
 ·exact ⟨by kernel_rfl,_,Tryd.func34,c518⟩
 rcases List.mem_cons.1 hr with rfl | hr
 ·exact ⟨by kernel_rfl,_,Tryd.func35,c519⟩
 rcases List.mem_cons.1 hr with rfl | hr
 ·exact ⟨by kernel_rfl,_,Tryd.func36,c520⟩
 rcases List.mem_cons.1 hr with rfl | hr
 ·exact ⟨by kernel_rfl,_,Tryd.func40,c521⟩
 rcases List.mem_cons.1 hr with rfl | hr
 ·exact ⟨by kernel_rfl,_,Tryd.func57,c522⟩
 cases hr
theorem table:Table Tryd.prog num funs:=by
 intro f A h
 unfold funs at h
 cases hf:tab.find? (fun r => r.1 == f) with
 | none =>
   rw[hf] at h
   simp only at h
   by_cases c413:(f == 413) = true
   ·rw[if_pos c413] at h
    cases h
    have:f = 413:=by simpa using c413
    subst this
    exact .inr (primItoa (by kernel_rfl) (by kernel_rfl))
   rw[if_neg c413] at h
   cases h
 | some r =>
   rw[hf] at h;cases h
   have h1:=List.find?_some hf
   simp only[beq_iff_eq] at h1
   subst h1
   obtain ⟨h2,h3⟩:=good r (List.mem_of_find?_eq_some hf)
   rw[h2];exact .inl h3
end Go.Proofs.YtmlfhgdpcjhnpaaDoor
end
section
set_option linter.unusedVariables false
set_option linter.unusedSimpArgs false
namespace Go.Ab
variable {F:Funs}
structure TermF (F:Funs):Prop where
 e:ExprF F
 size:F 384 = some A_term_Size
 num:F 387 = some A_term_Num
 text:F 389 = some A_term_Text
 size1:F 390 = some A_term_Size_1
 known:F 391 = some A_term_known
 sign:F 400 = some A_term_sign
 same:F 401 = some A_term_Same
 make:F 406 = some A_term_Make
 read:F 408 = some A_term_Read
 value:F 410 = some A_term_value
 isNum:F 411 = some A_term_isNum
 itoa:F 413 = some A_strconv_Itoa
def kT:T→Int
 | .num _ => 1
 | .rd _ => 2
 | .op _ _ _ => 3
def vT:T→Int
 | .num v => v
 | .rd v => v
 | .op o _ _ => o
def lT:T→AV
 | .op _ l _ => tP l
 | _ => .nilp
def rT:T→AV
 | .op _ _ r => tP r
 | _ => .nilp
theorem tC_eq (t:T):tC t = [.i .i64 (kT t),.i .i64 (vT t),lT t,rT t]:=by cases t<;>rfl
theorem tP_eq (t:T):tP t = .ptr [.i .i64 (kT t),.i .i64 (vT t),lT t,rT t]:=by rw[tP,tC_eq]
theorem sp_tnum (A:TermF F) (v:Int):pureS F 387 [.i .i64 v] = some (tP (.num v)):=by
 refine pure_of A.num ?_
 simp (disch:=omega) only[A_term_Num,wp,qa,qb,qc]
 rfl
theorem sp_tread (A:TermF F) (v:Int):pureS F 408 [.i .i64 v] = some (tP (.rd v)):=by
 refine pure_of A.read ?_
 simp (disch:=omega) only[A_term_Read,wp,qa,qb,qc]
 rfl
theorem sp_known (A:TermF F) (x:Option T):pureS F 391 [oP x] = some (tP (fixT x)):=by
 refine pure_of A.known ?_
 have hz:=sp_tnum A 0
 rw[tP_eq] at hz
 cases x with
 | none =>
   simp (disch:=omega) only[A_term_known,wp,qa,qb,qc,oP,fixT,tP_eq,hz]
   try rfl
 | some t =>
   simp (disch:=omega) only[A_term_known,wp,qa,qb,qc,oP,fixT,tP_eq]
   try rfl
theorem sp_isNum (A:TermF F) (t:T) (v:Int):pureS F 411 [tP t,.i .i64 v] = some (.b (kT t == 1 && vT t == v)):=by
 refine pure_of A.isNum ?_
 cases c:(kT t == 1) with
 | false => simp (disch:=omega) only[A_term_isNum,wp,qa,qb,qc,tP_eq,c,List.drop_succ_cons,List.drop_zero]
 | true => simp (disch:=omega) only[A_term_isNum,wp,qa,qb,qc,tP_eq,c,List.drop_succ_cons,List.drop_zero]
theorem sp_sign (A:TermF F) {o:Int} (h1:1≤o) (h6:o≤6):pureS F 400 [.i .i64 o] = some (.s (bs (sgn o))):=by
 refine pure_of A.sign ?_
 have c1:¬ o < 0:=by omega
 have c2:¬ 7≤o:=by omega
 have hw:IntKind.i64.wrap (o + 1) = o + 1:=i64_wrap (by omega) (by omega)
 have hc:=fun g => sgn_cut h1 h6 .i64 g
 simp (disch:=omega) only[A_term_sign,wp,qa,qb,qc,c1,c2,hw,oSslice,evoS,hc]
theorem sp_value (A:TermF F) {o:Int} (h1:1≤o) (h6:o≤6) (a b:Int):pureS F 410 [.i .i64 o,.i .i64 a,.i .i64 b] = some (.i .i64 (doX o a b)):=by
 refine pure_of A.value ?_
 have r6:∀ x:AV,List.replicate 6 x = [x,x,x,x,x,x]:=fun _ => rfl
 have s6a:∀ b1 b2 b3 b4 b5 b6 c1 c2:AV,splice [b1,b2,b3,b4,b5,b6] 0 [c1,c2] = [c1,c2,b3,b4,b5,b6]:=fun _ _ _ _ _ _ _ _ => rfl
 have s6b:∀ b1 b2 b3 b4 b5 b6 c1 c2:AV,splice [b1,b2,b3,b4,b5,b6] 2 [c1,c2] = [b1,b2,c1,c2,b5,b6]:=fun _ _ _ _ _ _ _ _ => rfl
 have s6c:∀ b1 b2 b3 b4 b5 b6 c1 c2:AV,splice [b1,b2,b3,b4,b5,b6] 4 [c1,c2] = [b1,b2,b3,b4,c1,c2]:=fun _ _ _ _ _ _ _ _ => rfl
 have hev:evX [(2,0),(2,1),(3,o)] [a,b] = doX o a b:=by
  have hc:chkX [(2,0),(2,1),(3,o)] = true:=by
   have hw:wdB (3,o) = true:=by simp[wdB];omega
   have h0:wdB (2,0) = true:=rfl
   have h1:wdB (2,1) = true:=rfl
   unfold chkX
   simp[chkG,hw,h0,h1]
  unfold evX
  rw[if_pos hc]
  simp[evE]
 have he:=sp_exprEval A.e [(2,0),(2,1),(3,o)] [a,b] (by simp) (by simp)
 rw[hev] at he
 have he2:pureS F 358 [.sl [.i .i64 2,.i .i64 0,.i .i64 2,.i .i64 1,.i .i64 3,.i .i64 o] 3 .non,.sl [.i .i64 a,.i .i64 b] 2 .non] = some (.i .i64 (doX o a b)):=he
 simp (disch:=omega) only[A_term_value,wp,qa,qb,qc,r6,s6a,s6b,s6c,he2]
theorem lit40:(⟨#[40]⟩:ByteArray) = bs [40]:=rfl
theorem lit41:(⟨#[41]⟩:ByteArray) = bs [41]:=rfl
theorem lit32:(⟨#[32]⟩:ByteArray) = bs [32]:=rfl
theorem lit105:(⟨#[105]⟩:ByteArray) = bs [105]:=rfl
theorem sp_text (A:TermF F):∀ {t:T},OkT t→nodes t≤1000000→pureS F 389 [tP t] = some (.s (bs (txt t)))
 | .num v,h,_ => by
   refine pure_of A.text ?_
   have hk:=sp_known A (some (.num v))
   have hi:=sp_itoa A.itoa (n:=v) h
   simp only[oP,fixT,tP,tC] at hk
   simp (disch:=omega) only[A_term_Text,wp,qa,qb,qc,tP,tC,hk,hi,List.drop_succ_cons,List.drop_zero,Int.reduceBEq]
   rfl
 | .rd v,h,_ => by
   refine pure_of A.text ?_
   have hk:=sp_known A (some (.rd v))
   have hi:=sp_itoa A.itoa (n:=v) h
   have hl:=itoaS_len (n:=v) h
   simp only[oP,fixT,tP,tC] at hk
   simp (disch:=first | omega | (simp only[List.length_cons,List.length_nil];omega)) only[A_term_Text,wp,qa,qb,qc,tP,tC,hk,hi,List.drop_succ_cons,List.drop_zero,Int.reduceBEq,lit105,b_sadd]
   rfl
 | .op o l r,h,hn => by
   refine pure_of A.text ?_
   simp only[nodes] at hn
   have hk:=sp_known A (some (.op o l r))
   have hl:=sp_text A (t:=l) h.2.1 (by omega)
   have hr:=sp_text A (t:=r) h.2.2 (by omega)
   have hs:=sp_sign A h.1.1 h.1.2
   have ll:=txt_len h.2.1
   have lr:=txt_len h.2.2
   have ls:(sgn o).length = 1:=rfl
   simp only[oP,fixT,tP,tC] at hk hl hr
   simp (disch:=first | omega | (simp only[List.length_append,List.length_cons,List.length_nil];omega)) only[A_term_Text,wp,qa,qb,qc,tP,tC,hk,hl,hr,hs,List.drop_succ_cons,List.drop_zero,Int.reduceBEq,lit40,lit41,lit32,b_sadd]
   rfl
end Go.Ab
end
section
set_option linter.unusedVariables false
set_option linter.unusedSimpArgs false
namespace Go.Ab
variable {F:Funs}
def isN (t:T) (v:Int):Bool:=kT t == 1 && vT t == v
def mkN (o:Int) (a b:T):T:=
 if (o == 1 || o == 4) && isN a 0 then b else if (o == 1 || o == 4 || o == 2) && isN b 0 then a else if o == 3 && (isN a 0 || isN b 1) then a else if o == 3 && (isN b 0 || isN a 1) then b else .op o a b
def turnB (o:Int):Bool:=o == 1 || o == 3 || o == 4 || o == 5
def mkT (o:Int) (a b:T):T:=
 if o < 1∨6 < o then .num 0 else if kT a = 1∧kT b = 1 then .num (doX o (vT a) (vT b)) else
  if turnB o && Op.bytesLess (txt b) (txt a) then mkN o b a else mkN o a b
theorem sp_isNum' (A:TermF F) (t:T) (v:Int):pureS F 411 [tP t,.i .i64 v] = some (.b (isN t v)):=sp_isNum A t v
theorem f_tP (hp) (t:T):frz hp depth (tP t) = some (tP t):=frz_d_ptr _ _
theorem v_tP (hp) (t:T):vis hp depth (tP t) = []:=by
 show vis hp (8 + 1) _ = _
 simp only[tP,vis]
theorem ld_k (t:T):part (tC t) 0 none = some (.i .i64 (kT t)):=by rw[tC_eq];rfl
theorem f_oP (hp) (t:Option T):frz hp depth (oP t) = some (oP t):=by cases t<;>first | exact frz_d_nilp _ | exact frz_d_ptr _ _
theorem v_oP (hp) (t:Option T):vis hp depth (oP t) = []:=by
 show vis hp (8 + 1) _ = _
 cases t<;>simp only[oP,tP,vis]
theorem cellsP (t:T):cellsOf (tP t) = [tP t]:=rfl
theorem oneP (t:T):one (tP t) = true:=rfl
theorem ld_v (a b c:AV):part [a,b,c] 0 none = some a:=rfl
theorem fa0 (t:T) (g:G):vFa 0 (tP t) g = some (.ptr (tC t),g):=by rw[tP_eq,tC_eq];rfl
theorem fa1 (t:T) (g:G):vFa 1 (tP t) g = some (.ptr [.i .i64 (vT t),lT t,rT t],g):=by rw[tP_eq];rfl
theorem frz_node (hp:Nat→Option Blk) (o:Int) (a b:T):Option.map AV.ptr (frzB hp 0 [.i .i64 3,.i .i64 o,tP a,tP b] (flat (tP a) && flat (tP b))) = some (tP (.op o a b)):=by
 unfold frzB
 rw[if_neg (by simp[tP,flat])]
 show Option.map _ (frzL _ (7 + 1) _) = _
 simp only[tP,List.drop_zero,frzL,frz,Option.map_some,tC]
theorem oa (g:G) (t:T):vNil (tP t) g = some (tP t,g):=rfl
theorem sp_make (A:TermF F) (o:Int) {x y:Option T} (hx:OkT (fixT x)) (hy:OkT (fixT y)) (nx:nodes (fixT x)≤1000000) (ny:nodes (fixT y)≤1000000):pureS F 406 [.i .i64 o,oP x,oP y] = some (tP (mkT o (fixT x) (fixT y))):=by
 refine pure_of A.make ?_
 have kx:=sp_known A x
 have ky:=sp_known A y
 have tx:=sp_text A hx nx
 have ty:=sp_text A hy ny
 have hz:=sp_tnum A 0
 have hi:=sp_isNum' A
 have hnum:=sp_tnum A
 have hval:∀ o:Int,1≤o→o≤6→∀ a b:T,pureS F 410 [.i .i64 o,.i .i64 (vT a),.i .i64 (vT b)] = some (.i .i64 (doX o (vT a) (vT b))):=fun o h1 h6 a b => sp_value A h1 h6 _ _
 generalize fixT x = a at *
 generalize fixT y = b at *
 by_cases c0:o < 1∨6 < o
 ·have hm:mkT o a b = .num 0:=if_pos c0
  have q1:(o == 1) = false:=by rw[beq_eq_false_iff_ne];omega
  have q3:(o == 3) = false:=by rw[beq_eq_false_iff_ne];omega
  have q4:(o == 4) = false:=by rw[beq_eq_false_iff_ne];omega
  have q5:(o == 5) = false:=by rw[beq_eq_false_iff_ne];omega
  rw[hm]
  by_cases c1:o < 1
  ·simp (disch:=omega) only[A_term_Make,wp,qa,qb,qc,f_oP,v_oP,f_tP,v_tP,kx,ky,hz,c1,q1,q3,q4,q5]
  ·have c2:6 < o:=by omega
   simp (disch:=omega) only[A_term_Make,wp,qa,qb,qc,f_oP,v_oP,f_tP,v_tP,kx,ky,hz,c1,c2,q1,q3,q4,q5]
 ·have hm:mkT o a b = if kT a = 1∧kT b = 1 then .num (doX o (vT a) (vT b)) else if turnB o && Op.bytesLess (txt b) (txt a) then mkN o b a else mkN o a b:=if_neg c0
  rw[hm]
  clear hm
  have hs:o = 1∨o = 2∨o = 3∨o = 4∨o = 5∨o = 6:=by omega
  generalize hM:(if kT a = 1∧kT b = 1 then T.num (doX o (vT a) (vT b)) else if turnB o && Op.bytesLess (txt b) (txt a) then mkN o b a else mkN o a b) = M
  rcases hs with rfl | rfl | rfl | rfl | rfl | rfl
  ·cases k1:(kT a == 1) with
   | true =>
     have k1':kT a = 1:=by simpa using k1
     cases k2:(kT b == 1) with
     | true =>
       have k2':kT b = 1:=by simpa using k2
       have hv:=hval 1 (by omega) (by omega) a b
       have hm:M = .num (doX 1 (vT a) (vT b)):=by rw[←hM];exact if_pos ⟨k1',k2'⟩
       rw[hm]
       simp (disch:=omega) only[A_term_Make,wp,qa,qb,qc,f_oP,v_oP,f_tP,v_tP,kx,ky,tx,ty,b_slss,fa0,fa1,ld_k,ld_v,hi,oa,cellsP,oneP,Int.reduceBEq,Int.reduceLT,Int.reduceLE,Int.reduceGT,k1,k2,hv,hnum]
     | false =>
       have k2':kT b≠1:=by simpa using k2
       cases hl:Op.bytesLess (txt b) (txt a) with
       | true =>
         cases nb0:isN b 0 with
         | true =>
           have hm:M = a:=by rw[←hM];simp[mkN,turnB,k1',k2',k1,k2,hl,nb0]
           rw[hm]
           simp (disch:=omega) only[A_term_Make,wp,qa,qb,qc,f_oP,v_oP,f_tP,v_tP,kx,ky,tx,ty,b_slss,fa0,fa1,ld_k,ld_v,hi,oa,cellsP,oneP,Int.reduceBEq,Int.reduceLT,Int.reduceLE,Int.reduceGT,k1',k2',k1,k2,hl,nb0]
         | false =>
           cases na0:isN a 0 with
           | true =>
             have hm:M = b:=by rw[←hM];simp[mkN,turnB,k1',k2',k1,k2,hl,nb0,na0]
             rw[hm]
             simp (disch:=omega) only[A_term_Make,wp,qa,qb,qc,f_oP,v_oP,f_tP,v_tP,kx,ky,tx,ty,b_slss,fa0,fa1,ld_k,ld_v,hi,oa,cellsP,oneP,Int.reduceBEq,Int.reduceLT,Int.reduceLE,Int.reduceGT,k1',k2',k1,k2,hl,nb0,na0]
           | false =>
             have hm:M = .op 1 b a:=by rw[←hM];simp[mkN,turnB,k1',k2',k1,k2,hl,nb0,na0]
             rw[hm]
             simp (disch:=omega) only[A_term_Make,wp,qa,qb,qc,f_oP,v_oP,f_tP,v_tP,kx,ky,tx,ty,b_slss,fa0,fa1,ld_k,ld_v,hi,oa,cellsP,oneP,Int.reduceBEq,Int.reduceLT,Int.reduceLE,Int.reduceGT,k1',k2',k1,k2,hl,nb0,na0]
             exact frz_node _ _ _ _
       | false =>
         cases na0:isN a 0 with
         | true =>
           have hm:M = b:=by rw[←hM];simp[mkN,turnB,k1',k2',k1,k2,hl,na0]
           rw[hm]
           simp (disch:=omega) only[A_term_Make,wp,qa,qb,qc,f_oP,v_oP,f_tP,v_tP,kx,ky,tx,ty,b_slss,fa0,fa1,ld_k,ld_v,hi,oa,cellsP,oneP,Int.reduceBEq,Int.reduceLT,Int.reduceLE,Int.reduceGT,k1',k2',k1,k2,hl,na0]
         | false =>
           cases nb0:isN b 0 with
           | true =>
             have hm:M = a:=by rw[←hM];simp[mkN,turnB,k1',k2',k1,k2,hl,na0,nb0]
             rw[hm]
             simp (disch:=omega) only[A_term_Make,wp,qa,qb,qc,f_oP,v_oP,f_tP,v_tP,kx,ky,tx,ty,b_slss,fa0,fa1,ld_k,ld_v,hi,oa,cellsP,oneP,Int.reduceBEq,Int.reduceLT,Int.reduceLE,Int.reduceGT,k1',k2',k1,k2,hl,na0,nb0]
           | false =>
             have hm:M = .op 1 a b:=by rw[←hM];simp[mkN,turnB,k1',k2',k1,k2,hl,na0,nb0]
             rw[hm]
             simp (disch:=omega) only[A_term_Make,wp,qa,qb,qc,f_oP,v_oP,f_tP,v_tP,kx,ky,tx,ty,b_slss,fa0,fa1,ld_k,ld_v,hi,oa,cellsP,oneP,Int.reduceBEq,Int.reduceLT,Int.reduceLE,Int.reduceGT,k1',k2',k1,k2,hl,na0,nb0]
             exact frz_node _ _ _ _
   | false =>
     have k1':kT a≠1:=by simpa using k1
     cases hl:Op.bytesLess (txt b) (txt a) with
     | true =>
       cases nb0:isN b 0 with
       | true =>
         have hm:M = a:=by rw[←hM];simp[mkN,turnB,k1',k1,hl,nb0]
         rw[hm]
         simp (disch:=omega) only[A_term_Make,wp,qa,qb,qc,f_oP,v_oP,f_tP,v_tP,kx,ky,tx,ty,b_slss,fa0,fa1,ld_k,ld_v,hi,oa,cellsP,oneP,Int.reduceBEq,Int.reduceLT,Int.reduceLE,Int.reduceGT,k1',k1,hl,nb0]
       | false =>
         cases na0:isN a 0 with
         | true =>
           have hm:M = b:=by rw[←hM];simp[mkN,turnB,k1',k1,hl,nb0,na0]
           rw[hm]
           simp (disch:=omega) only[A_term_Make,wp,qa,qb,qc,f_oP,v_oP,f_tP,v_tP,kx,ky,tx,ty,b_slss,fa0,fa1,ld_k,ld_v,hi,oa,cellsP,oneP,Int.reduceBEq,Int.reduceLT,Int.reduceLE,Int.reduceGT,k1',k1,hl,nb0,na0]
         | false =>
           have hm:M = .op 1 b a:=by rw[←hM];simp[mkN,turnB,k1',k1,hl,nb0,na0]
           rw[hm]
           simp (disch:=omega) only[A_term_Make,wp,qa,qb,qc,f_oP,v_oP,f_tP,v_tP,kx,ky,tx,ty,b_slss,fa0,fa1,ld_k,ld_v,hi,oa,cellsP,oneP,Int.reduceBEq,Int.reduceLT,Int.reduceLE,Int.reduceGT,k1',k1,hl,nb0,na0]
           exact frz_node _ _ _ _
     | false =>
       cases na0:isN a 0 with
       | true =>
         have hm:M = b:=by rw[←hM];simp[mkN,turnB,k1',k1,hl,na0]
         rw[hm]
         simp (disch:=omega) only[A_term_Make,wp,qa,qb,qc,f_oP,v_oP,f_tP,v_tP,kx,ky,tx,ty,b_slss,fa0,fa1,ld_k,ld_v,hi,oa,cellsP,oneP,Int.reduceBEq,Int.reduceLT,Int.reduceLE,Int.reduceGT,k1',k1,hl,na0]
       | false =>
         cases nb0:isN b 0 with
         | true =>
           have hm:M = a:=by rw[←hM];simp[mkN,turnB,k1',k1,hl,na0,nb0]
           rw[hm]
           simp (disch:=omega) only[A_term_Make,wp,qa,qb,qc,f_oP,v_oP,f_tP,v_tP,kx,ky,tx,ty,b_slss,fa0,fa1,ld_k,ld_v,hi,oa,cellsP,oneP,Int.reduceBEq,Int.reduceLT,Int.reduceLE,Int.reduceGT,k1',k1,hl,na0,nb0]
         | false =>
           have hm:M = .op 1 a b:=by rw[←hM];simp[mkN,turnB,k1',k1,hl,na0,nb0]
           rw[hm]
           simp (disch:=omega) only[A_term_Make,wp,qa,qb,qc,f_oP,v_oP,f_tP,v_tP,kx,ky,tx,ty,b_slss,fa0,fa1,ld_k,ld_v,hi,oa,cellsP,oneP,Int.reduceBEq,Int.reduceLT,Int.reduceLE,Int.reduceGT,k1',k1,hl,na0,nb0]
           exact frz_node _ _ _ _
  ·cases k1:(kT a == 1) with
   | true =>
     have k1':kT a = 1:=by simpa using k1
     cases k2:(kT b == 1) with
     | true =>
       have k2':kT b = 1:=by simpa using k2
       have hv:=hval 2 (by omega) (by omega) a b
       have hm:M = .num (doX 2 (vT a) (vT b)):=by rw[←hM];exact if_pos ⟨k1',k2'⟩
       rw[hm]
       simp (disch:=omega) only[A_term_Make,wp,qa,qb,qc,f_oP,v_oP,f_tP,v_tP,kx,ky,tx,ty,b_slss,fa0,fa1,ld_k,ld_v,hi,oa,cellsP,oneP,Int.reduceBEq,Int.reduceLT,Int.reduceLE,Int.reduceGT,k1,k2,hv,hnum]
     | false =>
       have k2':kT b≠1:=by simpa using k2
       cases nb0:isN b 0 with
       | true =>
         have hm:M = a:=by rw[←hM];simp[mkN,turnB,k1',k2',k1,k2,nb0]
         rw[hm]
         simp (disch:=omega) only[A_term_Make,wp,qa,qb,qc,f_oP,v_oP,f_tP,v_tP,kx,ky,tx,ty,b_slss,fa0,fa1,ld_k,ld_v,hi,oa,cellsP,oneP,Int.reduceBEq,Int.reduceLT,Int.reduceLE,Int.reduceGT,k1',k2',k1,k2,nb0]
       | false =>
         have hm:M = .op 2 a b:=by rw[←hM];simp[mkN,turnB,k1',k2',k1,k2,nb0]
         rw[hm]
         simp (disch:=omega) only[A_term_Make,wp,qa,qb,qc,f_oP,v_oP,f_tP,v_tP,kx,ky,tx,ty,b_slss,fa0,fa1,ld_k,ld_v,hi,oa,cellsP,oneP,Int.reduceBEq,Int.reduceLT,Int.reduceLE,Int.reduceGT,k1',k2',k1,k2,nb0]
         exact frz_node _ _ _ _
   | false =>
     have k1':kT a≠1:=by simpa using k1
     cases nb0:isN b 0 with
     | true =>
       have hm:M = a:=by rw[←hM];simp[mkN,turnB,k1',k1,nb0]
       rw[hm]
       simp (disch:=omega) only[A_term_Make,wp,qa,qb,qc,f_oP,v_oP,f_tP,v_tP,kx,ky,tx,ty,b_slss,fa0,fa1,ld_k,ld_v,hi,oa,cellsP,oneP,Int.reduceBEq,Int.reduceLT,Int.reduceLE,Int.reduceGT,k1',k1,nb0]
     | false =>
       have hm:M = .op 2 a b:=by rw[←hM];simp[mkN,turnB,k1',k1,nb0]
       rw[hm]
       simp (disch:=omega) only[A_term_Make,wp,qa,qb,qc,f_oP,v_oP,f_tP,v_tP,kx,ky,tx,ty,b_slss,fa0,fa1,ld_k,ld_v,hi,oa,cellsP,oneP,Int.reduceBEq,Int.reduceLT,Int.reduceLE,Int.reduceGT,k1',k1,nb0]
       exact frz_node _ _ _ _
  ·cases k1:(kT a == 1) with
   | true =>
     have k1':kT a = 1:=by simpa using k1
     cases k2:(kT b == 1) with
     | true =>
       have k2':kT b = 1:=by simpa using k2
       have hv:=hval 3 (by omega) (by omega) a b
       have hm:M = .num (doX 3 (vT a) (vT b)):=by rw[←hM];exact if_pos ⟨k1',k2'⟩
       rw[hm]
       simp (disch:=omega) only[A_term_Make,wp,qa,qb,qc,f_oP,v_oP,f_tP,v_tP,kx,ky,tx,ty,b_slss,fa0,fa1,ld_k,ld_v,hi,oa,cellsP,oneP,Int.reduceBEq,Int.reduceLT,Int.reduceLE,Int.reduceGT,k1,k2,hv,hnum]
     | false =>
       have k2':kT b≠1:=by simpa using k2
       cases hl:Op.bytesLess (txt b) (txt a) with
       | true =>
         cases nb0:isN b 0 with
         | true =>
           have hm:M = b:=by rw[←hM];simp[mkN,turnB,k1',k2',k1,k2,hl,nb0]
           rw[hm]
           simp (disch:=omega) only[A_term_Make,wp,qa,qb,qc,f_oP,v_oP,f_tP,v_tP,kx,ky,tx,ty,b_slss,fa0,fa1,ld_k,ld_v,hi,oa,cellsP,oneP,Int.reduceBEq,Int.reduceLT,Int.reduceLE,Int.reduceGT,k1',k2',k1,k2,hl,nb0]
         | false =>
           cases na1:isN a 1 with
           | true =>
             have hm:M = b:=by rw[←hM];simp[mkN,turnB,k1',k2',k1,k2,hl,nb0,na1]
             rw[hm]
             simp (disch:=omega) only[A_term_Make,wp,qa,qb,qc,f_oP,v_oP,f_tP,v_tP,kx,ky,tx,ty,b_slss,fa0,fa1,ld_k,ld_v,hi,oa,cellsP,oneP,Int.reduceBEq,Int.reduceLT,Int.reduceLE,Int.reduceGT,k1',k2',k1,k2,hl,nb0,na1]
           | false =>
             cases na0:isN a 0 with
             | true =>
               have hm:M = a:=by rw[←hM];simp[mkN,turnB,k1',k2',k1,k2,hl,nb0,na1,na0]
               rw[hm]
               simp (disch:=omega) only[A_term_Make,wp,qa,qb,qc,f_oP,v_oP,f_tP,v_tP,kx,ky,tx,ty,b_slss,fa0,fa1,ld_k,ld_v,hi,oa,cellsP,oneP,Int.reduceBEq,Int.reduceLT,Int.reduceLE,Int.reduceGT,k1',k2',k1,k2,hl,nb0,na1,na0]
             | false =>
               cases nb1:isN b 1 with
               | true =>
                 have hm:M = a:=by rw[←hM];simp[mkN,turnB,k1',k2',k1,k2,hl,nb0,na1,na0,nb1]
                 rw[hm]
                 simp (disch:=omega) only[A_term_Make,wp,qa,qb,qc,f_oP,v_oP,f_tP,v_tP,kx,ky,tx,ty,b_slss,fa0,fa1,ld_k,ld_v,hi,oa,cellsP,oneP,Int.reduceBEq,Int.reduceLT,Int.reduceLE,Int.reduceGT,k1',k2',k1,k2,hl,nb0,na1,na0,nb1]
               | false =>
                 have hm:M = .op 3 b a:=by rw[←hM];simp[mkN,turnB,k1',k2',k1,k2,hl,nb0,na1,na0,nb1]
                 rw[hm]
                 simp (disch:=omega) only[A_term_Make,wp,qa,qb,qc,f_oP,v_oP,f_tP,v_tP,kx,ky,tx,ty,b_slss,fa0,fa1,ld_k,ld_v,hi,oa,cellsP,oneP,Int.reduceBEq,Int.reduceLT,Int.reduceLE,Int.reduceGT,k1',k2',k1,k2,hl,nb0,na1,na0,nb1]
                 exact frz_node _ _ _ _
       | false =>
         cases na0:isN a 0 with
         | true =>
           have hm:M = a:=by rw[←hM];simp[mkN,turnB,k1',k2',k1,k2,hl,na0]
           rw[hm]
           simp (disch:=omega) only[A_term_Make,wp,qa,qb,qc,f_oP,v_oP,f_tP,v_tP,kx,ky,tx,ty,b_slss,fa0,fa1,ld_k,ld_v,hi,oa,cellsP,oneP,Int.reduceBEq,Int.reduceLT,Int.reduceLE,Int.reduceGT,k1',k2',k1,k2,hl,na0]
         | false =>
           cases nb1:isN b 1 with
           | true =>
             have hm:M = a:=by rw[←hM];simp[mkN,turnB,k1',k2',k1,k2,hl,na0,nb1]
             rw[hm]
             simp (disch:=omega) only[A_term_Make,wp,qa,qb,qc,f_oP,v_oP,f_tP,v_tP,kx,ky,tx,ty,b_slss,fa0,fa1,ld_k,ld_v,hi,oa,cellsP,oneP,Int.reduceBEq,Int.reduceLT,Int.reduceLE,Int.reduceGT,k1',k2',k1,k2,hl,na0,nb1]
           | false =>
             cases nb0:isN b 0 with
             | true =>
               have hm:M = b:=by rw[←hM];simp[mkN,turnB,k1',k2',k1,k2,hl,na0,nb1,nb0]
               rw[hm]
               simp (disch:=omega) only[A_term_Make,wp,qa,qb,qc,f_oP,v_oP,f_tP,v_tP,kx,ky,tx,ty,b_slss,fa0,fa1,ld_k,ld_v,hi,oa,cellsP,oneP,Int.reduceBEq,Int.reduceLT,Int.reduceLE,Int.reduceGT,k1',k2',k1,k2,hl,na0,nb1,nb0]
             | false =>
               cases na1:isN a 1 with
               | true =>
                 have hm:M = b:=by rw[←hM];simp[mkN,turnB,k1',k2',k1,k2,hl,na0,nb1,nb0,na1]
                 rw[hm]
                 simp (disch:=omega) only[A_term_Make,wp,qa,qb,qc,f_oP,v_oP,f_tP,v_tP,kx,ky,tx,ty,b_slss,fa0,fa1,ld_k,ld_v,hi,oa,cellsP,oneP,Int.reduceBEq,Int.reduceLT,Int.reduceLE,Int.reduceGT,k1',k2',k1,k2,hl,na0,nb1,nb0,na1]
               | false =>
                 have hm:M = .op 3 a b:=by rw[←hM];simp[mkN,turnB,k1',k2',k1,k2,hl,na0,nb1,nb0,na1]
                 rw[hm]
                 simp (disch:=omega) only[A_term_Make,wp,qa,qb,qc,f_oP,v_oP,f_tP,v_tP,kx,ky,tx,ty,b_slss,fa0,fa1,ld_k,ld_v,hi,oa,cellsP,oneP,Int.reduceBEq,Int.reduceLT,Int.reduceLE,Int.reduceGT,k1',k2',k1,k2,hl,na0,nb1,nb0,na1]
                 exact frz_node _ _ _ _
   | false =>
     have k1':kT a≠1:=by simpa using k1
     cases hl:Op.bytesLess (txt b) (txt a) with
     | true =>
       cases nb0:isN b 0 with
       | true =>
         have hm:M = b:=by rw[←hM];simp[mkN,turnB,k1',k1,hl,nb0]
         rw[hm]
         simp (disch:=omega) only[A_term_Make,wp,qa,qb,qc,f_oP,v_oP,f_tP,v_tP,kx,ky,tx,ty,b_slss,fa0,fa1,ld_k,ld_v,hi,oa,cellsP,oneP,Int.reduceBEq,Int.reduceLT,Int.reduceLE,Int.reduceGT,k1',k1,hl,nb0]
       | false =>
         cases na1:isN a 1 with
         | true =>
           have hm:M = b:=by rw[←hM];simp[mkN,turnB,k1',k1,hl,nb0,na1]
           rw[hm]
           simp (disch:=omega) only[A_term_Make,wp,qa,qb,qc,f_oP,v_oP,f_tP,v_tP,kx,ky,tx,ty,b_slss,fa0,fa1,ld_k,ld_v,hi,oa,cellsP,oneP,Int.reduceBEq,Int.reduceLT,Int.reduceLE,Int.reduceGT,k1',k1,hl,nb0,na1]
         | false =>
           cases na0:isN a 0 with
           | true =>
             have hm:M = a:=by rw[←hM];simp[mkN,turnB,k1',k1,hl,nb0,na1,na0]
             rw[hm]
             simp (disch:=omega) only[A_term_Make,wp,qa,qb,qc,f_oP,v_oP,f_tP,v_tP,kx,ky,tx,ty,b_slss,fa0,fa1,ld_k,ld_v,hi,oa,cellsP,oneP,Int.reduceBEq,Int.reduceLT,Int.reduceLE,Int.reduceGT,k1',k1,hl,nb0,na1,na0]
           | false =>
             cases nb1:isN b 1 with
             | true =>
               have hm:M = a:=by rw[←hM];simp[mkN,turnB,k1',k1,hl,nb0,na1,na0,nb1]
               rw[hm]
               simp (disch:=omega) only[A_term_Make,wp,qa,qb,qc,f_oP,v_oP,f_tP,v_tP,kx,ky,tx,ty,b_slss,fa0,fa1,ld_k,ld_v,hi,oa,cellsP,oneP,Int.reduceBEq,Int.reduceLT,Int.reduceLE,Int.reduceGT,k1',k1,hl,nb0,na1,na0,nb1]
             | false =>
               have hm:M = .op 3 b a:=by rw[←hM];simp[mkN,turnB,k1',k1,hl,nb0,na1,na0,nb1]
               rw[hm]
               simp (disch:=omega) only[A_term_Make,wp,qa,qb,qc,f_oP,v_oP,f_tP,v_tP,kx,ky,tx,ty,b_slss,fa0,fa1,ld_k,ld_v,hi,oa,cellsP,oneP,Int.reduceBEq,Int.reduceLT,Int.reduceLE,Int.reduceGT,k1',k1,hl,nb0,na1,na0,nb1]
               exact frz_node _ _ _ _
     | false =>
       cases na0:isN a 0 with
       | true =>
         have hm:M = a:=by rw[←hM];simp[mkN,turnB,k1',k1,hl,na0]
         rw[hm]
         simp (disch:=omega) only[A_term_Make,wp,qa,qb,qc,f_oP,v_oP,f_tP,v_tP,kx,ky,tx,ty,b_slss,fa0,fa1,ld_k,ld_v,hi,oa,cellsP,oneP,Int.reduceBEq,Int.reduceLT,Int.reduceLE,Int.reduceGT,k1',k1,hl,na0]
       | false =>
         cases nb1:isN b 1 with
         | true =>
           have hm:M = a:=by rw[←hM];simp[mkN,turnB,k1',k1,hl,na0,nb1]
           rw[hm]
           simp (disch:=omega) only[A_term_Make,wp,qa,qb,qc,f_oP,v_oP,f_tP,v_tP,kx,ky,tx,ty,b_slss,fa0,fa1,ld_k,ld_v,hi,oa,cellsP,oneP,Int.reduceBEq,Int.reduceLT,Int.reduceLE,Int.reduceGT,k1',k1,hl,na0,nb1]
         | false =>
           cases nb0:isN b 0 with
           | true =>
             have hm:M = b:=by rw[←hM];simp[mkN,turnB,k1',k1,hl,na0,nb1,nb0]
             rw[hm]
             simp (disch:=omega) only[A_term_Make,wp,qa,qb,qc,f_oP,v_oP,f_tP,v_tP,kx,ky,tx,ty,b_slss,fa0,fa1,ld_k,ld_v,hi,oa,cellsP,oneP,Int.reduceBEq,Int.reduceLT,Int.reduceLE,Int.reduceGT,k1',k1,hl,na0,nb1,nb0]
           | false =>
             cases na1:isN a 1 with
             | true =>
               have hm:M = b:=by rw[←hM];simp[mkN,turnB,k1',k1,hl,na0,nb1,nb0,na1]
               rw[hm]
               simp (disch:=omega) only[A_term_Make,wp,qa,qb,qc,f_oP,v_oP,f_tP,v_tP,kx,ky,tx,ty,b_slss,fa0,fa1,ld_k,ld_v,hi,oa,cellsP,oneP,Int.reduceBEq,Int.reduceLT,Int.reduceLE,Int.reduceGT,k1',k1,hl,na0,nb1,nb0,na1]
             | false =>
               have hm:M = .op 3 a b:=by rw[←hM];simp[mkN,turnB,k1',k1,hl,na0,nb1,nb0,na1]
               rw[hm]
               simp (disch:=omega) only[A_term_Make,wp,qa,qb,qc,f_oP,v_oP,f_tP,v_tP,kx,ky,tx,ty,b_slss,fa0,fa1,ld_k,ld_v,hi,oa,cellsP,oneP,Int.reduceBEq,Int.reduceLT,Int.reduceLE,Int.reduceGT,k1',k1,hl,na0,nb1,nb0,na1]
               exact frz_node _ _ _ _
  ·cases k1:(kT a == 1) with
   | true =>
     have k1':kT a = 1:=by simpa using k1
     cases k2:(kT b == 1) with
     | true =>
       have k2':kT b = 1:=by simpa using k2
       have hv:=hval 4 (by omega) (by omega) a b
       have hm:M = .num (doX 4 (vT a) (vT b)):=by rw[←hM];exact if_pos ⟨k1',k2'⟩
       rw[hm]
       simp (disch:=omega) only[A_term_Make,wp,qa,qb,qc,f_oP,v_oP,f_tP,v_tP,kx,ky,tx,ty,b_slss,fa0,fa1,ld_k,ld_v,hi,oa,cellsP,oneP,Int.reduceBEq,Int.reduceLT,Int.reduceLE,Int.reduceGT,k1,k2,hv,hnum]
     | false =>
       have k2':kT b≠1:=by simpa using k2
       cases hl:Op.bytesLess (txt b) (txt a) with
       | true =>
         cases nb0:isN b 0 with
         | true =>
           have hm:M = a:=by rw[←hM];simp[mkN,turnB,k1',k2',k1,k2,hl,nb0]
           rw[hm]
           simp (disch:=omega) only[A_term_Make,wp,qa,qb,qc,f_oP,v_oP,f_tP,v_tP,kx,ky,tx,ty,b_slss,fa0,fa1,ld_k,ld_v,hi,oa,cellsP,oneP,Int.reduceBEq,Int.reduceLT,Int.reduceLE,Int.reduceGT,k1',k2',k1,k2,hl,nb0]
         | false =>
           cases na0:isN a 0 with
           | true =>
             have hm:M = b:=by rw[←hM];simp[mkN,turnB,k1',k2',k1,k2,hl,nb0,na0]
             rw[hm]
             simp (disch:=omega) only[A_term_Make,wp,qa,qb,qc,f_oP,v_oP,f_tP,v_tP,kx,ky,tx,ty,b_slss,fa0,fa1,ld_k,ld_v,hi,oa,cellsP,oneP,Int.reduceBEq,Int.reduceLT,Int.reduceLE,Int.reduceGT,k1',k2',k1,k2,hl,nb0,na0]
           | false =>
             have hm:M = .op 4 b a:=by rw[←hM];simp[mkN,turnB,k1',k2',k1,k2,hl,nb0,na0]
             rw[hm]
             simp (disch:=omega) only[A_term_Make,wp,qa,qb,qc,f_oP,v_oP,f_tP,v_tP,kx,ky,tx,ty,b_slss,fa0,fa1,ld_k,ld_v,hi,oa,cellsP,oneP,Int.reduceBEq,Int.reduceLT,Int.reduceLE,Int.reduceGT,k1',k2',k1,k2,hl,nb0,na0]
             exact frz_node _ _ _ _
       | false =>
         cases na0:isN a 0 with
         | true =>
           have hm:M = b:=by rw[←hM];simp[mkN,turnB,k1',k2',k1,k2,hl,na0]
           rw[hm]
           simp (disch:=omega) only[A_term_Make,wp,qa,qb,qc,f_oP,v_oP,f_tP,v_tP,kx,ky,tx,ty,b_slss,fa0,fa1,ld_k,ld_v,hi,oa,cellsP,oneP,Int.reduceBEq,Int.reduceLT,Int.reduceLE,Int.reduceGT,k1',k2',k1,k2,hl,na0]
         | false =>
           cases nb0:isN b 0 with
           | true =>
             have hm:M = a:=by rw[←hM];simp[mkN,turnB,k1',k2',k1,k2,hl,na0,nb0]
             rw[hm]
             simp (disch:=omega) only[A_term_Make,wp,qa,qb,qc,f_oP,v_oP,f_tP,v_tP,kx,ky,tx,ty,b_slss,fa0,fa1,ld_k,ld_v,hi,oa,cellsP,oneP,Int.reduceBEq,Int.reduceLT,Int.reduceLE,Int.reduceGT,k1',k2',k1,k2,hl,na0,nb0]
           | false =>
             have hm:M = .op 4 a b:=by rw[←hM];simp[mkN,turnB,k1',k2',k1,k2,hl,na0,nb0]
             rw[hm]
             simp (disch:=omega) only[A_term_Make,wp,qa,qb,qc,f_oP,v_oP,f_tP,v_tP,kx,ky,tx,ty,b_slss,fa0,fa1,ld_k,ld_v,hi,oa,cellsP,oneP,Int.reduceBEq,Int.reduceLT,Int.reduceLE,Int.reduceGT,k1',k2',k1,k2,hl,na0,nb0]
             exact frz_node _ _ _ _
   | false =>
     have k1':kT a≠1:=by simpa using k1
     cases hl:Op.bytesLess (txt b) (txt a) with
     | true =>
       cases nb0:isN b 0 with
       | true =>
         have hm:M = a:=by rw[←hM];simp[mkN,turnB,k1',k1,hl,nb0]
         rw[hm]
         simp (disch:=omega) only[A_term_Make,wp,qa,qb,qc,f_oP,v_oP,f_tP,v_tP,kx,ky,tx,ty,b_slss,fa0,fa1,ld_k,ld_v,hi,oa,cellsP,oneP,Int.reduceBEq,Int.reduceLT,Int.reduceLE,Int.reduceGT,k1',k1,hl,nb0]
       | false =>
         cases na0:isN a 0 with
         | true =>
           have hm:M = b:=by rw[←hM];simp[mkN,turnB,k1',k1,hl,nb0,na0]
           rw[hm]
           simp (disch:=omega) only[A_term_Make,wp,qa,qb,qc,f_oP,v_oP,f_tP,v_tP,kx,ky,tx,ty,b_slss,fa0,fa1,ld_k,ld_v,hi,oa,cellsP,oneP,Int.reduceBEq,Int.reduceLT,Int.reduceLE,Int.reduceGT,k1',k1,hl,nb0,na0]
         | false =>
           have hm:M = .op 4 b a:=by rw[←hM];simp[mkN,turnB,k1',k1,hl,nb0,na0]
           rw[hm]
           simp (disch:=omega) only[A_term_Make,wp,qa,qb,qc,f_oP,v_oP,f_tP,v_tP,kx,ky,tx,ty,b_slss,fa0,fa1,ld_k,ld_v,hi,oa,cellsP,oneP,Int.reduceBEq,Int.reduceLT,Int.reduceLE,Int.reduceGT,k1',k1,hl,nb0,na0]
           exact frz_node _ _ _ _
     | false =>
       cases na0:isN a 0 with
       | true =>
         have hm:M = b:=by rw[←hM];simp[mkN,turnB,k1',k1,hl,na0]
         rw[hm]
         simp (disch:=omega) only[A_term_Make,wp,qa,qb,qc,f_oP,v_oP,f_tP,v_tP,kx,ky,tx,ty,b_slss,fa0,fa1,ld_k,ld_v,hi,oa,cellsP,oneP,Int.reduceBEq,Int.reduceLT,Int.reduceLE,Int.reduceGT,k1',k1,hl,na0]
       | false =>
         cases nb0:isN b 0 with
         | true =>
           have hm:M = a:=by rw[←hM];simp[mkN,turnB,k1',k1,hl,na0,nb0]
           rw[hm]
           simp (disch:=omega) only[A_term_Make,wp,qa,qb,qc,f_oP,v_oP,f_tP,v_tP,kx,ky,tx,ty,b_slss,fa0,fa1,ld_k,ld_v,hi,oa,cellsP,oneP,Int.reduceBEq,Int.reduceLT,Int.reduceLE,Int.reduceGT,k1',k1,hl,na0,nb0]
         | false =>
           have hm:M = .op 4 a b:=by rw[←hM];simp[mkN,turnB,k1',k1,hl,na0,nb0]
           rw[hm]
           simp (disch:=omega) only[A_term_Make,wp,qa,qb,qc,f_oP,v_oP,f_tP,v_tP,kx,ky,tx,ty,b_slss,fa0,fa1,ld_k,ld_v,hi,oa,cellsP,oneP,Int.reduceBEq,Int.reduceLT,Int.reduceLE,Int.reduceGT,k1',k1,hl,na0,nb0]
           exact frz_node _ _ _ _
  ·cases k1:(kT a == 1) with
   | true =>
     have k1':kT a = 1:=by simpa using k1
     cases k2:(kT b == 1) with
     | true =>
       have k2':kT b = 1:=by simpa using k2
       have hv:=hval 5 (by omega) (by omega) a b
       have hm:M = .num (doX 5 (vT a) (vT b)):=by rw[←hM];exact if_pos ⟨k1',k2'⟩
       rw[hm]
       simp (disch:=omega) only[A_term_Make,wp,qa,qb,qc,f_oP,v_oP,f_tP,v_tP,kx,ky,tx,ty,b_slss,fa0,fa1,ld_k,ld_v,hi,oa,cellsP,oneP,Int.reduceBEq,Int.reduceLT,Int.reduceLE,Int.reduceGT,k1,k2,hv,hnum]
     | false =>
       have k2':kT b≠1:=by simpa using k2
       cases hl:Op.bytesLess (txt b) (txt a) with
       | true =>
         have hm:M = .op 5 b a:=by rw[←hM];simp[mkN,turnB,k1',k2',k1,k2,hl]
         rw[hm]
         simp (disch:=omega) only[A_term_Make,wp,qa,qb,qc,f_oP,v_oP,f_tP,v_tP,kx,ky,tx,ty,b_slss,fa0,fa1,ld_k,ld_v,hi,oa,cellsP,oneP,Int.reduceBEq,Int.reduceLT,Int.reduceLE,Int.reduceGT,k1',k2',k1,k2,hl]
         exact frz_node _ _ _ _
       | false =>
         have hm:M = .op 5 a b:=by rw[←hM];simp[mkN,turnB,k1',k2',k1,k2,hl]
         rw[hm]
         simp (disch:=omega) only[A_term_Make,wp,qa,qb,qc,f_oP,v_oP,f_tP,v_tP,kx,ky,tx,ty,b_slss,fa0,fa1,ld_k,ld_v,hi,oa,cellsP,oneP,Int.reduceBEq,Int.reduceLT,Int.reduceLE,Int.reduceGT,k1',k2',k1,k2,hl]
         exact frz_node _ _ _ _
   | false =>
     have k1':kT a≠1:=by simpa using k1
     cases hl:Op.bytesLess (txt b) (txt a) with
     | true =>
       have hm:M = .op 5 b a:=by rw[←hM];simp[mkN,turnB,k1',k1,hl]
       rw[hm]
       simp (disch:=omega) only[A_term_Make,wp,qa,qb,qc,f_oP,v_oP,f_tP,v_tP,kx,ky,tx,ty,b_slss,fa0,fa1,ld_k,ld_v,hi,oa,cellsP,oneP,Int.reduceBEq,Int.reduceLT,Int.reduceLE,Int.reduceGT,k1',k1,hl]
       exact frz_node _ _ _ _
     | false =>
       have hm:M = .op 5 a b:=by rw[←hM];simp[mkN,turnB,k1',k1,hl]
       rw[hm]
       simp (disch:=omega) only[A_term_Make,wp,qa,qb,qc,f_oP,v_oP,f_tP,v_tP,kx,ky,tx,ty,b_slss,fa0,fa1,ld_k,ld_v,hi,oa,cellsP,oneP,Int.reduceBEq,Int.reduceLT,Int.reduceLE,Int.reduceGT,k1',k1,hl]
       exact frz_node _ _ _ _
  ·cases k1:(kT a == 1) with
   | true =>
     have k1':kT a = 1:=by simpa using k1
     cases k2:(kT b == 1) with
     | true =>
       have k2':kT b = 1:=by simpa using k2
       have hv:=hval 6 (by omega) (by omega) a b
       have hm:M = .num (doX 6 (vT a) (vT b)):=by rw[←hM];exact if_pos ⟨k1',k2'⟩
       rw[hm]
       simp (disch:=omega) only[A_term_Make,wp,qa,qb,qc,f_oP,v_oP,f_tP,v_tP,kx,ky,tx,ty,b_slss,fa0,fa1,ld_k,ld_v,hi,oa,cellsP,oneP,Int.reduceBEq,Int.reduceLT,Int.reduceLE,Int.reduceGT,k1,k2,hv,hnum]
     | false =>
       have k2':kT b≠1:=by simpa using k2
       have hm:M = .op 6 a b:=by rw[←hM];simp[mkN,turnB,k1',k2',k1,k2]
       rw[hm]
       simp (disch:=omega) only[A_term_Make,wp,qa,qb,qc,f_oP,v_oP,f_tP,v_tP,kx,ky,tx,ty,b_slss,fa0,fa1,ld_k,ld_v,hi,oa,cellsP,oneP,Int.reduceBEq,Int.reduceLT,Int.reduceLE,Int.reduceGT,k1',k2',k1,k2]
       exact frz_node _ _ _ _
   | false =>
     have k1':kT a≠1:=by simpa using k1
     have hm:M = .op 6 a b:=by rw[←hM];simp[mkN,turnB,k1',k1]
     rw[hm]
     simp (disch:=omega) only[A_term_Make,wp,qa,qb,qc,f_oP,v_oP,f_tP,v_tP,kx,ky,tx,ty,b_slss,fa0,fa1,ld_k,ld_v,hi,oa,cellsP,oneP,Int.reduceBEq,Int.reduceLT,Int.reduceLE,Int.reduceGT,k1',k1]
     exact frz_node _ _ _ _
end Go.Ab
end
section
set_option linter.unusedVariables false
set_option linter.unusedSimpArgs false
namespace Go.Ab
variable {F:Funs}
structure RefTF (F:Funs):Prop where
 do_:F 128 = some A_xref02_Do
 digits:F 493 = some A_xref02_Digits
 text:F 511 = some A_xref22_Text
 size:F 512 = some A_xref22_Size
 eval:F 514 = some A_xref22_Eval
 num:F 518 = some A_xref22_Num
 read:F 519 = some A_xref22_Read
 make:F 520 = some A_xref22_Make
 fix:F 521 = some A_xref22_Fix
 isNum:F 522 = some A_xref22_num
end Go.Ab
end
section
set_option linter.unusedVariables false
set_option linter.unusedSimpArgs false
namespace Go.Ab
variable {F:Funs}
def evT (reads:List Int):T→Int
 | .num v => v
 | .rd i => if 0≤i∧i < reads.length then reads.getD i.toNat 0 else 0
 | .op o l r => doX o (evT reads l) (evT reads r)
theorem sp_teval (A:TermF F) (h513:F 513 = some A_term_Eval) (reads:List Int) (hr:reads.length≤9223372036854775807) (w:Tok):∀ {t:T},OkT t→pureS F 513 [tP t,.sl (intsC reads) reads.length w] = some (.i .i64 (evT reads t))
 | .num v,h => by
   refine pure_of h513 ?_
   have hk:=sp_known A (some (.num v))
   simp only[oP,fixT,tP,tC] at hk
   simp (disch:=omega) only[A_term_Eval,wp,qa,qb,qc,tP,tC,hk,List.drop_succ_cons,List.drop_zero,Int.reduceBEq,Int.reduceBNe]
   rfl
 | .rd i,h => by
   refine pure_of h513 ?_
   have hk:=sp_known A (some (.rd i))
   simp only[oP,fixT,tP,tC] at hk
   unfold evT
   by_cases c1:i < 0
   ·rw[if_neg (by omega)]
    simp (disch:=omega) only[A_term_Eval,wp,qa,qb,qc,tP,tC,hk,c1,List.drop_succ_cons,List.drop_zero,Int.reduceBEq,Int.reduceBNe]
   ·by_cases c2:((reads.length:Nat):Int)≤i
    ·rw[if_neg (by omega)]
     simp (disch:=omega) only[A_term_Eval,wp,qa,qb,qc,tP,tC,hk,c1,c2,List.drop_succ_cons,List.drop_zero,Int.reduceBEq,Int.reduceBNe]
    ·rw[if_pos (by omega)]
     have hp:=ints_part (l:=reads) (k:=i.toNat) (by omega)
     simp (disch:=omega) only[A_term_Eval,wp,qa,qb,qc,tP,tC,hk,c1,c2,hp,List.drop_succ_cons,List.drop_zero,Int.reduceBEq,Int.reduceBNe]
 | .op o l r,h => by
   refine pure_of h513 ?_
   have hk:=sp_known A (some (.op o l r))
   have hl:=sp_teval A h513 reads hr .non (t:=l) h.2.1
   have hrr:=sp_teval A h513 reads hr .non (t:=r) h.2.2
   have hv:=sp_value A h.1.1 h.1.2 (evT reads l) (evT reads r)
   simp only[oP,fixT,tP,tC] at hk hl hrr
   simp (disch:=omega) only[A_term_Eval,wp,qa,qb,qc,tP,tC,hk,hl,hrr,hv,List.drop_succ_cons,List.drop_zero,Int.reduceBEq,Int.reduceBNe]
   rfl
def sameT:T→T→Bool
 | .num a,.num b => a == b
 | .rd a,.rd b => a == b
 | .op o l r,.op p m s => o == p && (sameT l m && sameT r s)
 | _,_ => false
theorem sameT_iff:∀ {a b:T},sameT a b = true↔a = b
 | .num a,.num b => by simp[sameT]
 | .rd a,.rd b => by simp[sameT]
 | .op o l r,.op p m s => by simp[sameT,sameT_iff (a:=l),sameT_iff (a:=r)]
 | .num _,.rd _ => by simp[sameT]
 | .num _,.op _ _ _ => by simp[sameT]
 | .rd _,.num _ => by simp[sameT]
 | .rd _,.op _ _ _ => by simp[sameT]
 | .op _ _ _,.num _ => by simp[sameT]
 | .op _ _ _,.rd _ => by simp[sameT]
theorem sp_same (A:TermF F):∀ (x y:T),pureS F 401 [tP x,tP y] = some (.b (sameT x y))
 | .op o l r,.op p m s => by
   refine pure_of A.same ?_
   have kx:=sp_known A (some (.op o l r))
   have ky:=sp_known A (some (.op p m s))
   have h1:=sp_same A l m
   have h2:=sp_same A r s
   simp only[oP,fixT,tP,tC] at kx ky h1 h2
   unfold sameT
   cases c1:(o == p) with
   | false =>
     have c1':(o != p) = true:=by rw[bne,c1];rfl
     simp (disch:=omega) only[A_term_Same,wp,qa,qb,qc,tP,tC,kx,ky,h1,h2,c1',List.drop_succ_cons,List.drop_zero,bne_self_eq_false]
   | true =>
     have c1':(o != p) = false:=by rw[bne,c1];rfl
     cases c2:sameT l m with
     | false =>
       rw[c2] at h1
       simp (disch:=omega) only[A_term_Same,wp,qa,qb,qc,tP,tC,kx,ky,h1,h2,c1',List.drop_succ_cons,List.drop_zero,bne_self_eq_false]
     | true =>
       rw[c2] at h1
       simp (disch:=omega) only[A_term_Same,wp,qa,qb,qc,tP,tC,kx,ky,h1,h2,c1',List.drop_succ_cons,List.drop_zero,bne_self_eq_false]
 | .num a,.num b => by
   refine pure_of A.same ?_
   have kx:=sp_known A (some (.num a))
   have ky:=sp_known A (some (.num b))
   simp only[oP,fixT,tP,tC] at kx ky
   unfold sameT
   cases c1:(a == b) with
   | false =>
     have c1':(a != b) = true:=by rw[bne,c1];rfl
     simp (disch:=omega) only[A_term_Same,wp,qa,qb,qc,tP,tC,kx,ky,c1',List.drop_succ_cons,List.drop_zero,bne_self_eq_false]
   | true =>
     have c1':(a != b) = false:=by rw[bne,c1];rfl
     simp (disch:=omega) only[A_term_Same,wp,qa,qb,qc,tP,tC,kx,ky,c1',List.drop_succ_cons,List.drop_zero,bne_self_eq_false,Int.reduceBNe]
 | .rd a,.rd b => by
   refine pure_of A.same ?_
   have kx:=sp_known A (some (.rd a))
   have ky:=sp_known A (some (.rd b))
   simp only[oP,fixT,tP,tC] at kx ky
   unfold sameT
   cases c1:(a == b) with
   | false =>
     have c1':(a != b) = true:=by rw[bne,c1];rfl
     simp (disch:=omega) only[A_term_Same,wp,qa,qb,qc,tP,tC,kx,ky,c1',List.drop_succ_cons,List.drop_zero,bne_self_eq_false]
   | true =>
     have c1':(a != b) = false:=by rw[bne,c1];rfl
     simp (disch:=omega) only[A_term_Same,wp,qa,qb,qc,tP,tC,kx,ky,c1',List.drop_succ_cons,List.drop_zero,bne_self_eq_false,Int.reduceBNe]
 | .num a,.rd b => by
   refine pure_of A.same ?_
   have kx:=sp_known A (some (.num a))
   have ky:=sp_known A (some (.rd b))
   simp only[oP,fixT,tP,tC] at kx ky
   simp (disch:=omega) only[A_term_Same,wp,qa,qb,qc,tP,tC,kx,ky,List.drop_succ_cons,List.drop_zero,Int.reduceBNe]
   rfl
 | .num a,.op p m s => by
   refine pure_of A.same ?_
   have kx:=sp_known A (some (.num a))
   have ky:=sp_known A (some (.op p m s))
   simp only[oP,fixT,tP,tC] at kx ky
   simp (disch:=omega) only[A_term_Same,wp,qa,qb,qc,tP,tC,kx,ky,List.drop_succ_cons,List.drop_zero,Int.reduceBNe]
   rfl
 | .rd a,.num b => by
   refine pure_of A.same ?_
   have kx:=sp_known A (some (.rd a))
   have ky:=sp_known A (some (.num b))
   simp only[oP,fixT,tP,tC] at kx ky
   simp (disch:=omega) only[A_term_Same,wp,qa,qb,qc,tP,tC,kx,ky,List.drop_succ_cons,List.drop_zero,Int.reduceBNe]
   rfl
 | .rd a,.op p m s => by
   refine pure_of A.same ?_
   have kx:=sp_known A (some (.rd a))
   have ky:=sp_known A (some (.op p m s))
   simp only[oP,fixT,tP,tC] at kx ky
   simp (disch:=omega) only[A_term_Same,wp,qa,qb,qc,tP,tC,kx,ky,List.drop_succ_cons,List.drop_zero,Int.reduceBNe]
   rfl
 | .op o l r,.num b => by
   refine pure_of A.same ?_
   have kx:=sp_known A (some (.op o l r))
   have ky:=sp_known A (some (.num b))
   simp only[oP,fixT,tP,tC] at kx ky
   simp (disch:=omega) only[A_term_Same,wp,qa,qb,qc,tP,tC,kx,ky,List.drop_succ_cons,List.drop_zero,Int.reduceBNe]
   rfl
 | .op o l r,.rd b => by
   refine pure_of A.same ?_
   have kx:=sp_known A (some (.op o l r))
   have ky:=sp_known A (some (.rd b))
   simp only[oP,fixT,tP,tC] at kx ky
   simp (disch:=omega) only[A_term_Same,wp,qa,qb,qc,tP,tC,kx,ky,List.drop_succ_cons,List.drop_zero,Int.reduceBNe]
   rfl
end Go.Ab
end
section
set_option linter.unusedVariables false
set_option linter.unusedSimpArgs false
namespace Go.Ab
variable {F:Funs}
def szF (a b:Nat):AV:=.fn 390 [] [.mp a 0,.mp b 0]
structure SzP (g:G) (a b:Nat) (n:Int):Prop where
 ha:g.hp a = some (.cells [.i .i64 n] false)
 hb:g.hp b = some (.cells [szF a b] false)
 ne:a≠b
 la:a < g.nx
 lb:b < g.nx
structure SzK (g g':G) (a:Nat) (n:Int):Prop where
 nx:g.nx≤g'.nx
 ha:g'.hp a = some (.cells [.i .i64 n] false)
 keep:∀ i,i < g.nx→i≠a→g'.hp i = g.hp i
theorem rp_size1 (A:TermF F) (a b:Nat):∀ (t:T) (x:Option T) (n:Nat) (g:G),fixT x = t→SzP g a b (n:Int)→n + nodes t≤1000000→∃ v g',callS F 390 [oP x,.mp a 0,.mp b 0] g = some (v,g')∧v = .tup []∧SzK g g' a ((n + nodes t:Nat):Int):=by
 intro t
 induction t with
 | num v =>
   intro x n g hx hg hn
   obtain ⟨ha,hb,ne,la,lb⟩:=hg
   unfold szF at hb
   simp only[nodes] at hn ⊢
   refine raw_of (P:=fun v' g' => v' = .tup []∧SzK g g' a ((n + 1:Nat):Int)) A.size1 ?_
   have hk:=sp_known A x
   rw[hx] at hk
   have c:¬ (1000000:Int)≤(n:Int):=by omega
   have hw:=succ_wrap (k:=n) (by omega)
   simp only[tP,tC] at hk
   simp (disch:=omega) only[A_term_Size_1,wp,qa,qb,qc,gl,ha,hb,hw,c,f_oP,v_oP,hk,List.drop_succ_cons,List.drop_zero,Int.reduceBEq]
   refine ⟨_,rfl,rfl,by dsimp only;omega,?_,fun i hi hia => ?_⟩
   ·simp (disch:=omega) only[upd_same]
   ·simp (disch:=omega) only[upd_ne]
 | rd v =>
   intro x n g hx hg hn
   obtain ⟨ha,hb,ne,la,lb⟩:=hg
   unfold szF at hb
   simp only[nodes] at hn ⊢
   refine raw_of (P:=fun v' g' => v' = .tup []∧SzK g g' a ((n + 1:Nat):Int)) A.size1 ?_
   have hk:=sp_known A x
   rw[hx] at hk
   have c:¬ (1000000:Int)≤(n:Int):=by omega
   have hw:=succ_wrap (k:=n) (by omega)
   simp only[tP,tC] at hk
   simp (disch:=omega) only[A_term_Size_1,wp,qa,qb,qc,gl,ha,hb,hw,c,f_oP,v_oP,hk,List.drop_succ_cons,List.drop_zero,Int.reduceBEq]
   refine ⟨_,rfl,rfl,by dsimp only;omega,?_,fun i hi hia => ?_⟩
   ·simp (disch:=omega) only[upd_same]
   ·simp (disch:=omega) only[upd_ne]
 | op o l r ihl ihr =>
   intro x n g hx hg hn
   have hg0:=hg
   obtain ⟨ha,hb,ne,la,lb⟩:=hg
   unfold szF at hb
   simp only[nodes] at hn ⊢
   refine raw_of (P:=fun v' g' => v' = .tup []∧SzK g g' a ((n + (1 + nodes l + nodes r):Nat):Int)) A.size1 ?_
   have hk:=sp_known A x
   rw[hx] at hk
   have c:¬ (1000000:Int)≤(n:Int):=by omega
   have hw:=succ_wrap (k:=n) (by omega)
   simp only[tP,tC] at hk
   simp (disch:=omega) only[A_term_Size_1,wp,qa,qb,qc,gl,ha,hb,hw,c,f_oP,v_oP,hk,List.drop_succ_cons,List.drop_zero,Int.reduceBEq]
   refine bindO_call _ (ihl (some l) (n + 1) _ rfl ⟨?_,?_,ne,?_,?_⟩ (by omega)) ?_
   ·simp (disch:=omega) only[upd_same,upd_ne]
   ·simp (disch:=omega) only[upd_same,upd_ne,hb];rfl
   ·dsimp only;omega
   ·dsimp only;omega
   rintro v1 g1 ⟨rfl,nx1,ha1,kp1⟩
   dsimp only at nx1
   have hb1:g1.hp b = some (.cells [szF a b] false):=by
    rw[kp1 b (by dsimp only;omega) (fun h => ne h.symm)]
    simp (disch:=omega) only[upd_same,upd_ne,hb];rfl
   have hb1':=hb1
   unfold szF at hb1'
   simp (disch:=omega) only[wp,qa,qb,qc,gl,ha1,hb1',List.drop_succ_cons,List.drop_zero,Int.reduceBEq]
   refine bindO_call _ (ihr (some r) (n + 1 + nodes l) _ rfl ⟨ha1,hb1,ne,?_,?_⟩ (by omega)) ?_
   ·dsimp only;omega
   ·dsimp only;omega
   rintro v2 g2 ⟨rfl,nx2,ha2,kp2⟩
   dsimp only at nx2
   simp (disch:=omega) only[wp,qa,qb,qc,gl]
   refine ⟨_,rfl,rfl,by omega,?_,fun i hi hia => ?_⟩
   ·rw[ha2,show n + 1 + nodes l + nodes r = n + (1 + nodes l + nodes r) by omega]
   ·rw[kp2 i (by dsimp only;omega) hia]
    dsimp only
    rw[kp1 i (by dsimp only;omega) hia]
    simp (disch:=omega) only[upd_ne]
theorem sp_tsize (A:TermF F) {t:T} (hn:nodes t≤1000000):pureS F 384 [tP t] = some (.i .i64 ((nodes t:Nat):Int)):=by
 refine pure_of A.size ?_
 simp (disch:=omega) only[A_term_Size,wp,qa,qb,qc,gl]
 refine bindO_call _ (rp_size1 A 1 3 t (some t) 0 _ rfl ⟨?_,?_,by omega,?_,?_⟩ (by omega)) ?_
 ·simp (disch:=omega) only[upd_same,upd_ne];rfl
 ·simp (disch:=omega) only[upd_same,upd_ne];rfl
 ·dsimp only;omega
 ·dsimp only;omega
 rintro v1 g1 ⟨rfl,nx1,ha1,kp1⟩
 simp (disch:=omega) only[wp,qa,qb,qc,gl,ha1]
end Go.Ab
end
section
set_option linter.unusedVariables false
set_option linter.unusedSimpArgs false
namespace Go.Ab
theorem xorI_comm (a b:Int):xorI a b = xorI b a:=by unfold xorI;rw[BitVec.xor_comm]
theorem doX_comm {o:Int} (h:turnB o = true) (a b:Int):doX o a b = doX o b a:=by
 unfold turnB at h
 simp only[Bool.or_eq_true,beq_iff_eq] at h
 rcases h with ((rfl | rfl) | rfl) | rfl
 ·simp[doX,Int.add_comm]
 ·simp[doX,Int.mul_comm]
 ·simp[doX,xorI_comm]
 ·simp[doX,eq_comm]
theorem less_asym:∀ {a b:List UInt8},Op.bytesLess a b = true→Op.bytesLess b a = false
 | _,[],h => by simp[Op.bytesLess] at h
 | [],_ :: _,_ => by simp[Op.bytesLess]
 | x :: a,y :: b,h => by
   simp only[Op.bytesLess,Bool.or_eq_true,decide_eq_true_eq,Bool.and_eq_true,beq_iff_eq] at h
   simp only[Op.bytesLess,Bool.or_eq_false_iff,decide_eq_false_iff_not,Bool.and_eq_false_iff]
   rcases h with h | ⟨rfl,h⟩
   ·refine ⟨fun h2 => ?_,.inl ?_⟩
    ·have:x.toNat < y.toNat:=h
     have:y.toNat < x.toNat:=h2
     omega
    ·rw[beq_eq_false_iff_ne]
     rintro rfl
     exact absurd (show y.toNat < y.toNat from h) (Nat.lt_irrefl _)
   ·exact ⟨fun h2 => absurd (show x.toNat < x.toNat from h2) (Nat.lt_irrefl _),.inr (less_asym h)⟩
theorem less_tot:∀ {a b:List UInt8},Op.bytesLess a b = false→Op.bytesLess b a = false→a = b
 | [],[],_,_ => rfl
 | [],y :: b,h,_ => by simp[Op.bytesLess] at h
 | x :: a,[],_,h => by simp[Op.bytesLess] at h
 | x :: a,y :: b,h,k => by
   simp only[Op.bytesLess,Bool.or_eq_false_iff,decide_eq_false_iff_not,Bool.and_eq_false_iff] at h k
   have h1:¬ x.toNat < y.toNat:=h.1
   have h2:¬ y.toNat < x.toNat:=k.1
   have e:x = y:=UInt8.toNat_inj.1 (by omega)
   subst e
   have h3:Op.bytesLess a b = false:=by rcases h.2 with h | h;· simp at h
                                        ·exact h
   have h4:Op.bytesLess b a = false:=by rcases k.2 with h | h;· simp at h
                                        ·exact h
   rw[less_tot h3 h4]
theorem mk_comm {o:Int} (ht:turnB o = true) {a b:T} (hab:txt a = txt b→a = b):mkT o a b = mkT o b a:=by
 unfold mkT
 split
 ·rfl
 by_cases hk:kT a = 1∧kT b = 1
 ·rw[if_pos hk,if_pos ⟨hk.2,hk.1⟩,doX_comm ht]
 ·have hk2:¬ (kT b = 1∧kT a = 1):=fun h => hk ⟨h.2,h.1⟩
  simp only[if_neg hk,if_neg hk2,ht,Bool.true_and]
  cases h1:Op.bytesLess (txt b) (txt a) with
  | true => simp[less_asym h1]
  | false =>
    cases h2:Op.bytesLess (txt a) (txt b) with
    | true => simp
    | false =>
      have:=hab (less_tot h2 h1)
      subst this
      simp
def dval (l:List UInt8):Nat:=l.foldl (fun acc d => 10 * acc + (d.toNat - 48)) 0
theorem dd_val (u:Nat):dval (Lib.decDigits u) = u:=by
 induction u using Nat.strongRecOn with
 | _ u ih =>
   by_cases h:u < 10
   ·rw[dd_small h]
    simp only[dval,List.foldl_cons,List.foldl_nil,UInt8.toNat_ofNat']
    omega
   ·rw[dd_big h]
    have:=ih (u / 10) (by omega)
    unfold dval at this ⊢
    rw[List.foldl_append,this]
    simp only[List.foldl_cons,List.foldl_nil,UInt8.toNat_ofNat']
    omega
theorem dd_head (u:Nat):∃ d l,Lib.decDigits u = d :: l∧48≤d.toNat∧d.toNat≤57:=by
 induction u using Nat.strongRecOn with
 | _ u ih =>
   by_cases h:u < 10
   ·rw[dd_small h]
    exact ⟨_,_,rfl,by simp only[UInt8.toNat_ofNat'];omega,by simp only[UInt8.toNat_ofNat'];omega⟩
   ·rw[dd_big h]
    obtain ⟨d,l,e,h1,h2⟩:=ih (u / 10) (by omega)
    rw[e]
    exact ⟨d,_,rfl,h1,h2⟩
theorem itoa_head (n:Int):∃ d l,itoaS n = d :: l∧d.toNat≤57:=by
 unfold itoaS Lib.itoa
 split
 ·exact ⟨_,_,rfl,by decide⟩
 ·obtain ⟨d,l,e,_,h2⟩:=dd_head n.toNat
  exact ⟨d,l,e,h2⟩
theorem num_rd (n:Int) (i:Int):Op.bytesLess (txt (.num n)) (txt (.rd i)) = true:=by
 obtain ⟨d,l,e,h⟩:=itoa_head n
 simp only[txt,e,List.cons_append,List.nil_append,Op.bytesLess,Bool.or_eq_true,decide_eq_true_eq]
 refine .inl ?_
 show d.toNat < (105:UInt8).toNat
 have:(105:UInt8).toNat = 105:=rfl
 omega
theorem txt_rd_inj {i j:Nat} (h:txt (.rd i) = txt (.rd j)):i = j:=by
 simp only[txt,List.cons_append,List.nil_append,List.cons.injEq,true_and,it_pos] at h
 rw[←dd_val i,←dd_val j,h]
end Go.Ab
end
section
set_option linter.unusedVariables false
set_option linter.unusedSimpArgs false
namespace Go.Ab
variable {F:Funs}
structure LawT (F:Funs):Prop where
 t:TermF F
 r:RefTF F
 teval:F 513 = some A_term_Eval
 place:F 10 = some A_xlaw00_Place
 awake:F 509 = some A_xlaw22_awake
 made:F 510 = some A_xlaw22_made
theorem it_zero:itoaS 0 = [48]:=by
 have:=it_pos 0
 rw[dd_small (by omega)] at this
 exact this
theorem sp_text_nil (A:TermF F):pureS F 389 [.nilp] = some (.s (bs [48])):=by
 refine pure_of A.text ?_
 have hk:=sp_known A none
 have hi:=sp_itoa A.itoa (n:=0) ⟨by omega,by omega⟩
 rw[it_zero] at hi
 simp only[oP,fixT,tP,tC] at hk
 simp (disch:=omega) only[A_term_Text,wp,qa,qb,qc,hk,hi,List.drop_succ_cons,List.drop_zero,Int.reduceBEq]
theorem mk_zero:mkT 1 (.rd 0) (.num 0) = .rd 0:=by
 have h:=num_rd 0 0
 unfold mkT
 rw[if_neg (by omega),if_neg (by simp[kT]),h]
 rfl
theorem litI0:(⟨#[105,48]⟩:ByteArray) = bs [105,48]:=rfl
theorem lit48:(⟨#[48]⟩:ByteArray) = bs [48]:=rfl
theorem sp_awake22 (A:LawT F):pureS F 509 [] = some (.b true):=by
 refine pure_of A.awake ?_
 have h1:=sp_tread A.t 0
 have h2:=sp_tnum A.t 0
 have ok:OkT (.rd 0):=⟨by omega,by omega⟩
 have h3:=sp_make A.t 1 (x:=some (.rd 0)) (y:=some (.num 0)) ok ⟨by omega,by omega⟩ (by simp[fixT,nodes]) (by simp[fixT,nodes])
 simp only[fixT,mk_zero] at h3
 have h4:=sp_text A.t ok (by simp[nodes])
 have ht:txt (.rd 0) = [105,48]:=by simp[txt,it_zero]
 rw[ht] at h4
 have h5:=sp_teval A.t A.teval [7] (by simp) .non ok
 have he:evT [7] (.rd 0) = 7:=rfl
 rw[he] at h5
 have h6:=sp_tsize A.t (t:=.rd 0) (by simp[nodes])
 have h7:=sp_same A.t (.rd 0) (.rd 0)
 have hs:sameT (.rd 0) (.rd 0) = true:=rfl
 rw[hs] at h7
 have h8:=sp_text_nil A.t
 have hn:nodes (.rd 0) = 1:=rfl
 rw[hn] at h6
 have i7:intsC [7] = [.i .i64 7]:=rfl
 have l7:([7]:List Int).length = 1:=rfl
 have e1:(([105,48]:List UInt8) == [105,48]) = true:=rfl
 have e2:(([48]:List UInt8) == [48]) = true:=rfl
 rw[i7,l7] at h5
 simp only[oP,tP,tC] at h1 h2 h3 h4 h5 h6 h7
 simp (disch:=omega) only[A_xlaw22_awake,wp,qa,qb,qc,h1,h2,h3,h4,h5,h6,h7,h8,litI0,lit48,b_seql,e1,e2,Int.reduceBEq,List.drop_succ_cons,List.drop_zero,Int.natCast_one]
end Go.Ab
end
section
set_option linter.unusedVariables false
set_option linter.unusedSimpArgs false
namespace Go.Ab
variable {F:Funs}
theorem mk_add0 (k:Int):mkT 1 (.rd k) (.num 0) = .rd k:=by
 have h:=num_rd 0 k
 unfold mkT
 rw[if_neg (by omega),if_neg (by simp[kT]),h]
 rfl
theorem mk_0add (o k:Int) (ho:o = 1∨o = 4):mkT o (.num 0) (.rd k) = .rd k:=by
 have h:=less_asym (num_rd 0 k)
 unfold mkT
 rcases ho with rfl | rfl
 ·rw[if_neg (by omega),if_neg (by simp[kT]),h];rfl
 ·rw[if_neg (by omega),if_neg (by simp[kT]),h];rfl
theorem mk_sub0 (k:Int):mkT 2 (.rd k) (.num 0) = .rd k:=by
 unfold mkT
 rw[if_neg (by omega),if_neg (by simp[kT])]
 rfl
theorem mk_mul1 (k:Int):mkT 3 (.rd k) (.num 1) = .rd k:=by
 have h:=num_rd 1 k
 unfold mkT
 rw[if_neg (by omega),if_neg (by simp[kT]),h]
 rfl
theorem mk_mul0 (k:Int):mkT 3 (.num 0) (.rd k) = .num 0:=by
 have h:=less_asym (num_rd 0 k)
 unfold mkT
 rw[if_neg (by omega),if_neg (by simp[kT]),h]
 rfl
theorem mk_rr (o i j:Int) (ho:o = 2∨o = 6):mkT o (.rd i) (.rd j) = .op o (.rd i) (.rd j):=by
 unfold mkT
 rcases ho with rfl | rfl
 ·rw[if_neg (by omega),if_neg (by simp[kT])];rfl
 ·rw[if_neg (by omega),if_neg (by simp[kT])];rfl
theorem mk_nn (o v w:Int) (ho:1≤o∧o≤6):mkT o (.num v) (.num w) = .num (doX o v w):=by
 unfold mkT
 rw[if_neg (by omega),if_pos ⟨rfl,rfl⟩];rfl
theorem sp_norm1 (A:LawT F) (h515:F 515 = some A_xlaw22_TermNorms_1) (o:Int) {x y:Option T} (hx:OkT (fixT x)) (hy:OkT (fixT y)) (nx:nodes (fixT x)≤1000000) (ny:nodes (fixT y)≤1000000):pureS F 515 [.i .i64 o,oP x,oP y] = some (tP (mkT o (fixT x) (fixT y))):=by
 refine pure_of h515 ?_
 have h:=sp_make A.t o hx hy nx ny
 simp (disch:=omega) only[A_xlaw22_TermNorms_1,wp,qa,qb,qc,f_oP,v_oP,f_tP,v_tP,h]
theorem sp_termNorms (A:LawT F) (h515:F 515 = some A_xlaw22_TermNorms_1) (h506:F 506 = some A_xlaw22_TermNorms) (i v w:Int) (hv:I64 v) (hw:I64 w):pureS F 506 [.i .i64 i,.i .i64 v,.i .i64 w] = some (.b true):=by
 refine pure_of h506 ?_
 have aw:=sp_awake22 A
 have hpl:=sp_place A.place (v:=i) (n:=100) (by omega) (by omega)
 obtain ⟨p1,p2⟩:=place_lt (v:=i) (n:=100) (by omega)
 generalize place i 100 = z at hpl p1 p2
 obtain ⟨k,rfl⟩:=Int.eq_ofNat_of_zero_le p1
 have hwk:IntKind.i64.wrap ((k:Int) + 1) = ((k + 1:Nat):Int):=by rw[i64_wrap (by omega) (by omega)];omega
 have okr:OkT (.rd (k:Int)):=⟨by omega,by omega⟩
 have oks:OkT (.rd ((k + 1:Nat):Int)):=⟨by omega,by omega⟩
 have okn:∀ {x},I64 x→OkT (.num x):=fun h => h
 have i0:I64 0:=⟨by omega,by omega⟩
 have i1:I64 1:=⟨by omega,by omega⟩
 have n1:∀ x,nodes (.num x)≤1000000:=fun _ => by simp[nodes]
 have n2:∀ x,nodes (.rd x)≤1000000:=fun _ => by simp[nodes]
 have hne:(T.rd (k:Int))≠T.rd ((k + 1:Nat):Int):=fun h => by injection h;omega
 have hcm:∀ o,turnB o = true→mkT o (.rd (k:Int)) (.rd ((k + 1:Nat):Int)) = mkT o (.rd ((k + 1:Nat):Int)) (.rd (k:Int)):=fun o ho => mk_comm ho fun h => by
  have:=txt_rd_inj h
  omega
 have f1:=sp_norm1 A h515 1 (x:=some (.rd (k:Int))) (y:=some (.num 0)) okr (okn i0) (n2 _) (n1 _)
 have f2:=sp_norm1 A h515 1 (y:=some (.rd (k:Int))) (x:=some (.num 0)) (okn i0) okr (n1 _) (n2 _)
 have f3:=sp_norm1 A h515 2 (x:=some (.rd (k:Int))) (y:=some (.num 0)) okr (okn i0) (n2 _) (n1 _)
 have f4:=sp_norm1 A h515 3 (x:=some (.rd (k:Int))) (y:=some (.num 1)) okr (okn i1) (n2 _) (n1 _)
 have f5:=sp_norm1 A h515 3 (y:=some (.rd (k:Int))) (x:=some (.num 0)) (okn i0) okr (n1 _) (n2 _)
 have f6:=sp_norm1 A h515 4 (y:=some (.rd (k:Int))) (x:=some (.num 0)) (okn i0) okr (n1 _) (n2 _)
 have f7:=sp_norm1 A h515 1 (x:=some (.rd (k:Int))) (y:=some (.rd ((k + 1:Nat):Int))) okr oks (n2 _) (n2 _)
 have f7b:=sp_norm1 A h515 1 (y:=some (.rd (k:Int))) (x:=some (.rd ((k + 1:Nat):Int))) oks okr (n2 _) (n2 _)
 have f8:=sp_norm1 A h515 5 (x:=some (.rd (k:Int))) (y:=some (.rd ((k + 1:Nat):Int))) okr oks (n2 _) (n2 _)
 have f8b:=sp_norm1 A h515 5 (y:=some (.rd (k:Int))) (x:=some (.rd ((k + 1:Nat):Int))) oks okr (n2 _) (n2 _)
 have f9:=sp_norm1 A h515 2 (x:=some (.rd (k:Int))) (y:=some (.rd ((k + 1:Nat):Int))) okr oks (n2 _) (n2 _)
 have f9b:=sp_norm1 A h515 2 (y:=some (.rd (k:Int))) (x:=some (.rd ((k + 1:Nat):Int))) oks okr (n2 _) (n2 _)
 have f10:=sp_norm1 A h515 6 (x:=some (.rd (k:Int))) (y:=some (.rd ((k + 1:Nat):Int))) okr oks (n2 _) (n2 _)
 have f10b:=sp_norm1 A h515 6 (y:=some (.rd (k:Int))) (x:=some (.rd ((k + 1:Nat):Int))) oks okr (n2 _) (n2 _)
 have f11:=sp_norm1 A h515 1 (x:=some (.num v)) (y:=some (.num w)) (okn hv) (okn hw) (n1 _) (n1 _)
 have f12:=sp_norm1 A h515 3 (x:=some (.num v)) (y:=some (.num w)) (okn hv) (okn hw) (n1 _) (n1 _)
 have f13:=sp_norm1 A h515 1 (x:=none) (y:=some (.rd (k:Int))) (okn i0) okr (n1 _) (n2 _)
 simp only[fixT,mk_add0,mk_0add 1 _ (.inl rfl),mk_0add 4 _ (.inr rfl),mk_sub0,mk_mul1,mk_mul0,mk_rr 2 _ _ (.inl rfl),mk_rr 6 _ _ (.inr rfl),mk_nn 1 _ _ ⟨by omega,by omega⟩,mk_nn 3 _ _ ⟨by omega,by omega⟩,←hcm 1 rfl,←hcm 5 rfl] at f1 f2 f3 f4 f5 f6 f7 f7b f8 f8b f9 f9b f10 f10b f11 f12 f13
 have d1:doX 1 v w = IntKind.i64.wrap (v + w):=rfl
 have d3:doX 3 v w = IntKind.i64.wrap (v * w):=rfl
 rw[d1] at f11
 rw[d3] at f12
 have hn:=sp_tnum A.t
 have hrd:=sp_tread A.t
 have hs:=sp_same A.t
 have hse:∀ x,sameT x x = true:=fun x => sameT_iff.2 rfl
 have e1:sameT (.rd (k:Int)) (.rd ((k + 1:Nat):Int)) = false:=by
  cases h:sameT (.rd (k:Int)) (.rd ((k + 1:Nat):Int)) with
  | false => rfl
  | true => exact absurd (sameT_iff.1 h) hne
 have e2:∀ o,sameT (.op o (.rd (k:Int)) (.rd ((k + 1:Nat):Int))) (.op o (.rd ((k + 1:Nat):Int)) (.rd (k:Int))) = false:=fun o => by
  cases h:sameT (.op o (.rd (k:Int)) (.rd ((k + 1:Nat):Int))) (.op o (.rd ((k + 1:Nat):Int)) (.rd (k:Int))) with
  | false => rfl
  | true => have:=sameT_iff.1 h;injection this with _ h1 _;exact absurd h1 hne
 have sz:=sp_tsize A.t (t:=.op 2 (.rd (k:Int)) (.rd ((k + 1:Nat):Int))) (by simp[nodes])
 have hz:nodes (.op 2 (.rd (k:Int)) (.rd ((k + 1:Nat):Int))) = 3:=rfl
 rw[hz] at sz
 have c3:(((3:Nat):Int) == 3) = true:=rfl
 simp only[oP,tP] at f1 f2 f3 f4 f5 f6 f7 f7b f8 f8b f9 f9b f10 f10b f11 f12 f13 hn hrd hs sz
 simp (disch:=omega) only[A_xlaw22_TermNorms,wp,qa,qb,qc,aw,hpl,hwk,hn,hrd,hs,hse,e1,e2,f1,f2,f3,f4,f5,f6,f7,f7b,f8,f8b,f9,f9b,f10,f10b,f11,f12,f13,sz,c3]
end Go.Ab
end
section
set_option linter.unusedVariables false
set_option maxRecDepth 100000
namespace Go.Proofs.YtmlfhgdpcjhnpaaDoor
open Go.Ab
theorem exprF:ExprF funs:=⟨rfl,rfl,rfl,rfl,rfl,rfl,rfl,rfl,rfl,rfl,rfl⟩
theorem termF:TermF funs:=⟨exprF,rfl,rfl,rfl,rfl,rfl,rfl,rfl,rfl,rfl,rfl,rfl,rfl⟩
theorem refTF:RefTF funs:=⟨rfl,rfl,rfl,rfl,rfl,rfl,rfl,rfl,rfl,rfl⟩
theorem lawT:LawT funs:=⟨termF,refTF,rfl,rfl,rfl,rfl⟩
theorem i64_of {n:Int} (h:(Lit.int .i64 n).wf = true):I64 n:=by
 unfold I64
 simp only[Lit.wf,Bool.and_eq_true,decide_eq_true_eq] at h
 have h1:IntKind.i64.min = -9223372036854775808:=rfl
 have h2:IntKind.i64.max = 9223372036854775807:=rfl
 omega
theorem termNorms_law (i v w:Int) (hv:(Lit.int .i64 v).wf = true) (hw:(Lit.int .i64 w).wf = true):pureS funs 506 [.i .i64 i,.i .i64 v,.i .i64 w] = some (.b true):=sp_termNorms lawT rfl rfl i v w (i64_of hv) (i64_of hw)
end Go.Proofs.YtmlfhgdpcjhnpaaDoor
end
section
set_option linter.unusedVariables false
set_option maxRecDepth 100000
namespace Go.Proofs.YtmlfhgdpcjhnpaaDoor
open Go.Ab Go.RowKit
theorem tabCells {H:Type} {enc:TypeId × Value→H} {P:Program} {W:World} {laid:List (String × DataW Unit)} {name:String} {zs:List Int} {a b:String × DataW Unit} {g:Nat} {t e:TypeId} {n:Nat}
  (hg:P.globalNamed name = some g) (hty:(P.globals[g]?).map (·.type) = some t) (ht:P.underlying t = some (.array n e)) (he:P.underlying e = some (.int .u64)) (hce:P.cellsOf e = 1) (hct:P.cellsOf t = n)
  (h:laidMet P [a,b,(name,Lib.tabData .u64 zs)] W):Lib.TabIs P W name .u64 zs:=by
 obtain ⟨_,⟨_,_,_,_,_,_,_,_,_,_,⟨_,_,_,_,_,_,_,_,_,_,⟨g',t',cs,fuel,p,q,hg',ht',hvar,hd,_,_⟩,_⟩,_⟩,_⟩:=h
 obtain rfl:=Option.some.inj (hg.symm.trans hg')
 obtain rfl:=Option.some.inj (hty.symm.trans ht')
 unfold Lib.TabIs
 rw[hvar,←Lib.cells_of_tab ht he hce hct hd]
theorem glOf {W:World} (h:laidMetH Tryd.prog Rows.termNumbersRow.laid W):GlOk (c0 num W):=by
 rw[MakeChecks.laidMetH_plain _ _ _ (by kernel_rfl)] at h
 have ht:Lib.TabIs Tryd.prog W (Rows.termNumbersRow.named.headD "") .u64 Lib.pow10Tab:=
  tabCells (H:=Unit) (enc:=fun _ => ()) (laid:=[]) (g:=0) (t:=132) (e:=82) (n:=20) gNamed (by kernel_rfl) Tryd.underlying132 Tryd.underlying82 (by kernel_rfl) (by kernel_rfl) h
 intro k hk
 have hk:num 1000000 = k + 1:=hk
 have h1:num 1000000 = 1:=by kernel_rfl
 obtain rfl:k = 0:=by omega
 unfold Lib.TabIs World.var? at ht
 rw[gNamed,pow10_eq] at ht
 simp only[Option.bind_some] at ht
 split at ht
 ·rename_i cs ty fr hb
  cases ht
  exact ⟨(Array.getElem?_eq_some_iff.1 hb).1,ty,fr,hb⟩
 ·cases ht
end Go.Proofs.YtmlfhgdpcjhnpaaDoor
end
