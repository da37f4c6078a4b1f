/- What TermOf rests on, part 3: lemmas, no claim of its own. -/
import Derived.Lib.ItoaNum
import Derived.Lib.ItoaLen
import Derived.Test.YtmlfhgdpcjhnpaaDoorRows
import Derived.Test.YtmlfhgdpcjhnpaaDoorChecked
import Derived.KernelRfl
import Derived.Lib.LaidTab
import Derived.MakeChecks
import Derived.LaidMore
import Derived.Test.YtmlfhgdpcjhnpaaDoorPTermOf2
set_option maxRecDepth 100000
set_option maxHeartbeats 16000000
open Nat renaming reduceAdd → qa, reduceMul → qb, reduceSub → qc
section
set_option linter.unusedVariables false
set_option linter.unusedSimpArgs false
namespace Go.Ab
variable {F:Funs}
theorem oIdx {c:CS} {al:Nat→Bool} {lo id:Nat} {e:Env} {g:G} (n esz a x y):opE c al lo id (.idx n esz a x y) e g = vIdx n esz a (x.ev e) (y.ev e) g:=rfl
theorem fo (hp k):frz hp depth (.fn k [] []) = some (.fn k [] []):=frz_d_fn0 hp k
theorem vo (hp):vis hp depth opsV = []:=by
 show vis hp (8 + 1) _ = _
 simp only[opsV,vis,List.flatMap_cons,List.flatMap_nil]
 rfl
structure EvJ (ex:List (Int × Int)) (regs:List Int) (k:Nat) (st:List Int) (e:Env) (g:G):Prop where
 hk:k≤ex.length
 hs:st.length≤k
 e0:e 0 = .sl (tkC ex) ex.length .non
 e1:e 1 = .sl (intsC regs) regs.length .non
 e5:StkAt st (e 5) g
 e12:e 12 = .sl (tkC ex) ex.length .non
 e13:e 13 = .i .i64 ((ex.length:Nat):Int)
 e6:e 14 = .i .i64 ((k:Nat):Int)
 hc:chkG (ex.drop k) st.length = some 1
 ev:evE regs (ex.drop k) st = evE regs ex []
theorem sp_exprEval (A:ExprF F) (ex:List (Int × Int)) (regs:List Int) (hl:ex.length≤1000000) (hr:regs.length≤1000000):
  pureS F 358 [exV ex,.sl (intsC regs) regs.length .non] = some (.i .i64 (evX ex regs)):=by
 refine pure_of A.eval ?_
 have s2:∀ b1 b2 c1 c2:AV,splice [b1,b2] 0 [c1,c2] = [c1,c2]:=fun _ _ _ _ => rfl
 have hck:=sp_exprCheck A.check A.may ex hl
 unfold exV at hck ⊢
 unfold evX
 cases c0:chkX ex with
 | false =>
   rw[c0] at hck
   simp (disch:=omega) only[A_expr_Eval,wp,qa,qb,qc,hck,if_false]
 | true =>
   rw[c0] at hck
   obtain ⟨hc0,hl9⟩:=chkX_inv c0
   rw[if_pos rfl]
   simp (disch:=omega) only[A_expr_Eval,wp,qa,qb,qc,hck]
   refine blk_cut (fun e g => ∃ (v:Int) (id:Nat),e 5 = .ms id 0 1∧g.hp id = some (.cells [.i .i64 v] false)∧id < g.nx∧v = (evE regs ex []).headD 0) ?_ ?_
   ·refine W_loop (fun q e g => ∃ (k:Nat) (st:List Int),q = ex.length - k∧EvJ ex regs k st e g) ex.length ?_ ?_
    ·exact ⟨0,[],rfl,Nat.zero_le _,Nat.le_refl _,rfl,rfl,.inl ⟨rfl,rfl⟩,rfl,rfl,rfl,hc0,rfl⟩
    ·rintro q e g ⟨k,st,rfl,hk,hsl,e0,e1,e5,e12,e13,e6,hc,hev⟩
     by_cases c1:k < ex.length
     ·have c1':((k:Nat):Int) < ((ex.length:Nat):Int):=by omega
      have ha:=tk_ag c1
      have hw:=succ_wrap (k:=k) (by omega)
      have hdc:=drop_cons (d:=((0,0):Int × Int)) c1
      rw[hdc] at hc hev
      rw[chkG_cons] at hc
      rw[evE_cons] at hev
      generalize ex.getD k (0,0) = p at ha hc hev
      cases c2:wdB p with
      | false => rw[c2] at hc;simp at hc
      | true =>
        rw[c2] at hc
        rw[if_pos rfl] at hc
        have next:∀ (st':List Int) (e':Env) (g':G),chkG (ex.drop (k + 1)) st'.length = some 1→evE regs (ex.drop (k + 1)) st' = evE regs ex []→st'.length≤k + 1→e' 0 = .sl (tkC ex) ex.length .non→e' 1 = .sl (intsC regs) regs.length .non→StkAt st' (e' 5) g'→e' 12 = .sl (tkC ex) ex.length .non→e' 13 = .i .i64 ((ex.length:Nat):Int)→e' 14 = .i .i64 ((k + 1:Nat):Int) →
          ∃ m',m' < ex.length - k∧∃ (k:Nat) (st:List Int),m' = ex.length - k∧EvJ ex regs k st e' g':=
         fun st' e' g' a1 a2 a3 a4 a5 a6 a8 a9 a7 => ⟨ex.length - (k + 1),by omega,k + 1,st',rfl,⟨by omega,a3,a4,a5,a6,a8,a9,a7,a1,a2⟩⟩
        by_cases c3:p.1 = 1
        ·have c3a:(p.1 == 1) = true:=by simpa using c3
         have c3b:(p.1 == 3) = false:=by rw[beq_eq_false_iff_ne];omega
         rw[if_neg (by omega)] at hc
         rw[if_pos c3] at hev
         rcases e5 with ⟨rfl,e5⟩ | ⟨hne,b,e5,hb,hlt⟩
         ·simp (disch:=omega) only[wp,qa,qb,qc,e0,e1,e5,e6,e12,e13,s2,part_22,c1',ha,c3a,c3b,hw,o_appM,vAppM_rig,apmR_ok]
          refine next [p.2] _ _ hc hev ?_ ?_ ?_ ?_ e12 e13 ?_
          ·simp
          ·exact e0
          ·exact e1
          ·refine .inr ⟨by simp,_,rfl,?_,?_⟩
           ·simp (disch:=omega) only[upd_same,upd_ne];rfl
           ·dsimp only;omega
          ·rfl
         ·have h1:1≤st.length:=by cases st with | nil => exact absurd rfl hne | cons _ _ => simp
          have hcl:(intsC st.reverse).length = st.length * 1:=by rw[intsC_len,List.length_reverse,Nat.mul_one]
          simp (disch:=omega) only[wp,qa,qb,qc,e0,e1,e5,e6,e12,e13,s2,part_22,c1',ha,c3a,c3b,hw,hb,o_appM,vAppM_S,apmS_ok]
          refine next (p.2 :: st) _ _ hc hev ?_ ?_ ?_ ?_ e12 e13 ?_
          ·simp;omega
          ·exact e0
          ·exact e1
          ·refine .inr ⟨by simp,_,rfl,?_,?_⟩
           ·simp (disch:=omega) only[upd_same,upd_ne];simp[intsC]
           ·dsimp only;omega
          ·rfl
        ·have c3a:(p.1 == 1) = false:=by simpa using c3
         rw[if_neg c3] at hev
         by_cases c4:p.1 = 3
         ·have c4a:(p.1 == 3) = true:=by simpa using c4
          rw[if_pos c4] at hc hev
          by_cases c5:st.length < 2
          ·rw[if_pos c5] at hc;cases hc
          ·rw[if_neg c5] at hc
           obtain ⟨y,x,r,rfl⟩:∃ y x r,st = y :: x :: r:=by
            match st,c5 with
            | [],h => exact absurd (by simp) h
            | [_],h => exact absurd (by simp) h
            | y :: x :: r,_ => exact ⟨y,x,r,rfl⟩
           rcases e5 with ⟨h,_⟩ | ⟨hne,b,e5,hb,hlt⟩
           ·cases h
           ·have hrev:(y :: x :: r).reverse = r.reverse ++ [x,y]:=by simp
            rw[hrev] at hb
            simp only[List.length_cons] at e5 hc hsl
            have hcl:(intsC (r.reverse ++ [x,y])).length = (r.length + 1 + 1) * 1:=by rw[intsC_len];simp
            have hpx:part (intsC (r.reverse ++ [x,y])) (r.length * 1) none = some (.i .i64 x):=by
             rw[ints_p1 (by simp),List.getD_eq_getElem?_getD,List.getElem?_append_right (by simp)];simp
            have hpy:part (intsC (r.reverse ++ [x,y])) ((r.length + 1) * 1) none = some (.i .i64 y):=by
             rw[ints_p1 (by simp),List.getD_eq_getElem?_getD,List.getElem?_append_right (by simp)];simp
            have hs2:IntKind.i64.wrap (((r.length + 1 + 1:Nat):Int) - 2) = ((r.length:Nat):Int):=by rw[i64_wrap (by omega) (by omega)];omega
            have hs1:IntKind.i64.wrap (((r.length + 1 + 1:Nat):Int) - 1) = ((r.length + 1:Nat):Int):=by rw[i64_wrap (by omega) (by omega)];omega
            have hwo:1≤p.2∧p.2≤6:=by
             unfold wdB at c2
             rw[if_neg c3,if_neg (by omega),if_pos c4] at c2
             simpa using c2
            have hdo:=sp_opN A hwo.1 hwo.2 x y
            have hops:=sp_ops A.ops
            have hoa:=fun g => ops_at hwo.1 hwo.2 g
            simp (disch:=omega) only[wp,qa,qb,qc,e0,e1,e5,e6,e12,e13,s2,part_22,c1',ha,c3a,c4a,hw,hb,hs1,hs2,hpx,hpy,hdo,hops,oIdx,hoa,fo,vo,oSlice,evoN,evoS,slHiM,o_appM,vAppM_C,apcS_ok]
            refine next (doX p.2 x y :: r) _ _ hc hev ?_ ?_ ?_ ?_ e12 e13 ?_
            ·simp;omega
            ·exact e0
            ·exact e1
            ·refine .inr ⟨by simp,_,rfl,?_,?_⟩
             ·simp (disch:=omega) only[upd_same,upd_ne]
              rw[show (intsC (r.reverse ++ [x,y])).take (r.length * 1) = intsC r.reverse by rw[intsC_take,List.take_append_of_le_length (by simp),List.take_of_length_le (by simp)]]
              simp[intsC]
             ·dsimp only;omega
            ·rfl
         ·have c4a:(p.1 == 3) = false:=by simpa using c4
          rw[if_neg c4] at hc hev
          have hv0:0≤p.2∧p.2 < 8:=by
           unfold wdB at c2
           rw[if_neg c3,if_neg c4] at c2
           split at c2
           ·simpa using c2
           ·cases c2
          by_cases c6:p.2 < (regs.length:Int)
          ·rw[if_pos c6] at hev
           have hpr:=ints_part (l:=regs) (k:=p.2.toNat) (by omega)
           rcases e5 with ⟨rfl,e5⟩ | ⟨hne,b,e5,hb,hlt⟩
           ·simp (disch:=omega) only[wp,qa,qb,qc,e0,e1,e5,e6,e12,e13,s2,part_22,c1',ha,c3a,c4a,c6,hpr,hw,o_appM,vAppM_rig,apmR_ok]
            refine next [regs.getD p.2.toNat 0] _ _ hc hev ?_ ?_ ?_ ?_ e12 e13 ?_
            ·simp
            ·exact e0
            ·exact e1
            ·refine .inr ⟨by simp,_,rfl,?_,?_⟩
             ·simp (disch:=omega) only[upd_same,upd_ne];rfl
             ·dsimp only;omega
            ·rfl
           ·have h1:1≤st.length:=by cases st with | nil => exact absurd rfl hne | cons _ _ => simp
            have hcl:(intsC st.reverse).length = st.length * 1:=by rw[intsC_len,List.length_reverse,Nat.mul_one]
            simp (disch:=omega) only[wp,qa,qb,qc,e0,e1,e5,e6,e12,e13,s2,part_22,c1',ha,c3a,c4a,c6,hpr,hw,hb,o_appM,vAppM_S,apmS_ok]
            refine next (regs.getD p.2.toNat 0 :: st) _ _ hc hev ?_ ?_ ?_ ?_ e12 e13 ?_
            ·simp;omega
            ·exact e0
            ·exact e1
            ·refine .inr ⟨by simp,_,rfl,?_,?_⟩
             ·simp (disch:=omega) only[upd_same,upd_ne];simp[intsC]
             ·dsimp only;omega
            ·rfl
          ·rw[if_neg c6] at hev
           rcases e5 with ⟨rfl,e5⟩ | ⟨hne,b,e5,hb,hlt⟩
           ·simp (disch:=omega) only[wp,qa,qb,qc,e0,e1,e5,e6,e12,e13,s2,part_22,c1',ha,c3a,c4a,c6,hw,o_appM,vAppM_rig,apmR_ok]
            refine next [0] _ _ hc hev ?_ ?_ ?_ ?_ e12 e13 ?_
            ·simp
            ·exact e0
            ·exact e1
            ·refine .inr ⟨by simp,_,rfl,?_,?_⟩
             ·simp (disch:=omega) only[upd_same,upd_ne];rfl
             ·dsimp only;omega
            ·rfl
           ·have h1:1≤st.length:=by cases st with | nil => exact absurd rfl hne | cons _ _ => simp
            have hcl:(intsC st.reverse).length = st.length * 1:=by rw[intsC_len,List.length_reverse,Nat.mul_one]
            simp (disch:=omega) only[wp,qa,qb,qc,e0,e1,e5,e6,e12,e13,s2,part_22,c1',ha,c3a,c4a,c6,hw,hb,o_appM,vAppM_S,apmS_ok]
            refine next (0 :: st) _ _ hc hev ?_ ?_ ?_ ?_ e12 e13 ?_
            ·simp;omega
            ·exact e0
            ·exact e1
            ·refine .inr ⟨by simp,_,rfl,?_,?_⟩
             ·simp (disch:=omega) only[upd_same,upd_ne];simp[intsC]
             ·dsimp only;omega
            ·rfl
     ·have c1':¬ ((k:Nat):Int) < ((ex.length:Nat):Int):=by omega
      obtain rfl:k = ex.length:=by omega
      rw[List.drop_length] at hc hev
      rw[chkG_nil] at hc
      rw[evE_nil] at hev
      have hs1:st.length = 1:=Option.some.inj hc
      obtain ⟨v,rfl⟩:∃ v,st = [v]:=List.length_eq_one_iff.1 hs1
      rcases e5 with ⟨h,_⟩ | ⟨hne,b,e5,hb,hlt⟩
      ·cases h
      ·simp (disch:=omega) only[wp,qa,qb,qc,e0,e1,e5,e6,e12,e13,s2,part_22,c1']
       exact ⟨v,b,rfl,hb,by omega,by rw[←hev];rfl⟩
   ·rintro e g ⟨v,id,e5,hid,hlt,rfl⟩
    simp (disch:=omega) only[wp,qa,qb,qc,e5,hid]
end Go.Ab
end
section
namespace Go.Ab
def A_term_Size:AFun:={ res:=[.t 2],body:=(.seq (.reg false [qo 2 (.mv (.c (.i .i64 0)))])
 (.seq (.reg false [qo 3 (.new ([.i .i64 0])),qn (.st 1 (.t 3) (.c (.i .i64 0)))])
 (.seq (.reg false [qo 4 (.new ([.nilf]))])
 (.seq (.reg false [qo 5 (.mkfn 390 [] [.t 3,.t 4]),qn (.st 1 (.t 4) (.t 5))])
 (.seq (.reg false [qo 6 (.ld none (.t 4)),qm 7 0,qo 8 (.call .raw (.t 6) [.t 7])])
 (.seq (.reg false [qo 9 (.ld none (.t 3)),qm 2 9])
 .ret)))))) }
def A_term_Num:AFun:={ res:=[.t 2],body:=(.seq (.reg false [qo 2 (.mv (.c (.nilp)))])
 (.seq (.reg false [qm 3 0,qo 4 (.build ([.i .i64 0,.i .i64 0,.nilp,.nilp]) [(0,1,.c (.i .i64 1)),(1,1,.t 3)]),qo 5 (.box (.t 4)),qm 2 5])
 .ret)) }
def A_term_Text:AFun:={ res:=[.t 2],body:=(.seq (.reg false [qo 2 (.mv (.c (.s ⟨#[]⟩)))])
 (.seq (.seq (.reg false [qm 3 0,qo 4 (.call .pure (.c (.fn 391 [] [])) [.t 3]),qm 0 4])
 (.seq (.reg false [qm 5 0,qo 6 (.nilck (.t 5)),qo 7 (.fa 0 (.t 6)),qo 8 (.ld none (.t 7))])
 (.blk 0 (.seq (.reg false [qo 10 (.bin .eql (.t 8) (.c (.i .i64 3))),qm 9 10])
 (.cond (.t 9) (.seq (.reg true [qm 11 0,qo 12 (.nilck (.t 11)),qo 13 (.fa 2 (.t 12)),qo 14 (.ld none (.t 13)),qo 15 (.call .pure (.c (.fn 389 [] [])) [.t 14]),qo 16 (.bin .add (.c (.s ⟨#[40]⟩)) (.t 15)),qo 17 (.bin .add (.t 16) (.c (.s ⟨#[32]⟩))),qm 18 0,qo 19 (.nilck (.t 18)),qo 20 (.fa 1 (.t 19)),qo 21 (.ld none (.t 20)),qo 22 (.call .pure (.c (.fn 400 [] [])) [.t 21]),qo 23 (.bin .add (.t 17) (.t 22)),qo 24 (.bin .add (.t 23) (.c (.s ⟨#[32]⟩))),qm 25 0,qo 26 (.nilck (.t 25)),qo 27 (.fa 3 (.t 26)),qo 28 (.ld none (.t 27)),qo 29 (.call .pure (.c (.fn 389 [] [])) [.t 28]),qo 30 (.bin .add (.t 24) (.t 29)),qo 31 (.bin .add (.t 30) (.c (.s ⟨#[41]⟩))),qm 2 31])
 .ret)
 (.seq (.reg false [qo 33 (.bin .eql (.t 8) (.c (.i .i64 2))),qm 32 33])
 (.cond (.t 32) (.seq (.reg false [qm 34 0,qo 35 (.nilck (.t 34)),qo 36 (.fa 1 (.t 35)),qo 37 (.ld none (.t 36)),qo 38 (.call .pure (.c (.fn 413 [] [])) [.t 37]),qo 39 (.bin .add (.c (.s ⟨#[105]⟩)) (.t 38)),qm 2 39])
 .ret)
 .skip)))))))
 (.seq (.reg false [qm 40 0,qo 41 (.nilck (.t 40)),qo 42 (.fa 1 (.t 41)),qo 43 (.ld none (.t 42)),qo 44 (.call .pure (.c (.fn 413 [] [])) [.t 43]),qm 2 44])
 .ret))) }
def A_term_Size_1:AFun:={ res:=[],body:=(.seq (.seq (.reg false [qo 4 (.ld none (.t 1)),qo 5 (.bin .geq (.t 4) (.c (.i .i64 1000000)))])
 (.cond (.t 5) .ret
 .skip))
 (.seq (.reg false [qo 6 (.ld none (.t 1)),qo 7 (.bin .add (.t 6) (.c (.i .i64 1))),qn (.st 1 (.t 1) (.t 7))])
 (.seq (.reg false [qm 8 0,qo 9 (.call .pure (.c (.fn 391 [] [])) [.t 8]),qm 0 9])
 (.seq (.reg false [qm 10 0,qo 11 (.nilck (.t 10)),qo 12 (.fa 0 (.t 11)),qo 13 (.ld none (.t 12)),qo 14 (.bin .eql (.t 13) (.c (.i .i64 3)))])
 (.cond (.t 14) (.seq (.reg true [qo 15 (.ld none (.t 2)),qm 16 0,qo 17 (.nilck (.t 16)),qo 18 (.fa 2 (.t 17)),qo 19 (.ld none (.t 18)),qo 20 (.call .raw (.t 15) [.t 19])])
 (.reg true [qo 21 (.ld none (.t 2)),qm 22 0,qo 23 (.nilck (.t 22)),qo 24 (.fa 3 (.t 23)),qo 25 (.ld none (.t 24)),qo 26 (.call .raw (.t 21) [.t 25])]))
 .skip))))) }
def A_term_known:AFun:={ res:=[.t 2],body:=(.seq (.reg false [qo 2 (.mv (.c (.nilp)))])
 (.seq (.seq (.reg false [qm 3 0,qo 4 (.eqn false (.t 3) (.c (.nilp)))])
 (.cond (.t 4) (.seq (.reg false [qo 5 (.call .pure (.c (.fn 387 [] [])) [.c (.i .i64 0)]),qm 2 5])
 .ret)
 .skip))
 (.seq (.reg false [qm 6 0,qm 2 6])
 .ret))) }
def A_term_sign:AFun:={ res:=[.t 2],body:=(.seq (.reg false [qo 2 (.mv (.c (.s ⟨#[]⟩)))])
 (.seq (.seq (.reg false [qm 3 0,qo 4 (.bin .lss (.t 3) (.c (.i .i64 0))),qm 5 4,qg 6 (.mv (.t 0)) 5 false,qg 7 (.bin .geq (.t 6) (.c (.i .i64 7))) 5 false,qo 8 (.pick (.t 5) (.c (.b true)) (.t 7))])
 (.cond (.t 8) (.reg false [qo 0 (.mv (.c (.i .i64 0)))])
 .skip))
 (.seq (.reg false [qm 9 0,qm 10 0,qo 11 (.bin .add (.t 10) (.c (.i .i64 1))),qo 12 (.sslice (.c (.s ⟨#[63,43,45,42,94,61,60]⟩)) (some (.t 9)) (some (.t 11))),qm 2 12])
 .ret))) }
def A_term_Same:AFun:={ res:=[.t 4],body:=(.seq (.reg false [qo 4 (.mv (.c (.b false)))])
 (.seq (.reg false [qm 5 0,qo 6 (.call .pure (.c (.fn 391 [] [])) [.t 5]),qm 7 1,qo 8 (.call .pure (.c (.fn 391 [] [])) [.t 7]),qm 0 6,qm 1 8])
 (.seq (.seq (.reg true [qm 9 0,qo 10 (.nilck (.t 9)),qo 11 (.fa 0 (.t 10)),qo 12 (.ld none (.t 11)),qm 13 1,qo 14 (.nilck (.t 13)),qo 15 (.fa 0 (.t 14)),qo 16 (.ld none (.t 15)),qo 17 (.bin .neq (.t 12) (.t 16)),qm 18 17,qg 19 (.mv (.t 0)) 18 false,qg 20 (.nilck (.t 19)) 18 false,qg 21 (.fa 1 (.t 20)) 18 false,qg 22 (.ld none (.t 21)) 18 false,qg 23 (.mv (.t 1)) 18 false,qg 24 (.nilck (.t 23)) 18 false,qg 25 (.fa 1 (.t 24)) 18 false,qg 26 (.ld none (.t 25)) 18 false,qg 27 (.bin .neq (.t 22) (.t 26)) 18 false,qo 28 (.pick (.t 18) (.c (.b true)) (.t 27))])
 (.cond (.t 28) (.seq (.reg false [qo 4 (.mv (.c (.b false)))])
 .ret)
 .skip))
 (.seq (.reg true [qm 29 0,qo 30 (.nilck (.t 29)),qo 31 (.fa 0 (.t 30)),qo 32 (.ld none (.t 31)),qo 33 (.bin .neq (.t 32) (.c (.i .i64 3))),qm 34 33,qg 35 (.mv (.t 0)) 34 false,qg 36 (.nilck (.t 35)) 34 false,qg 37 (.fa 2 (.t 36)) 34 false,qg 38 (.ld none (.t 37)) 34 false,qg 39 (.mv (.t 1)) 34 false,qg 40 (.nilck (.t 39)) 34 false,qg 41 (.fa 2 (.t 40)) 34 false,qg 42 (.ld none (.t 41)) 34 false,qg 43 (.call .pure (.c (.fn 401 [] [])) [.t 38,.t 42]) 34 false,qg 44 (.mv (.t 43)) 34 false,qg 45 (.mv (.t 0)) 44 true,qg 46 (.nilck (.t 45)) 44 true,qg 47 (.fa 3 (.t 46)) 44 true,qg 48 (.ld none (.t 47)) 44 true,qg 49 (.mv (.t 1)) 44 true,qg 50 (.nilck (.t 49)) 44 true,qg 51 (.fa 3 (.t 50)) 44 true,qg 52 (.ld none (.t 51)) 44 true,qg 53 (.call .pure (.c (.fn 401 [] [])) [.t 48,.t 52]) 44 true,qg 54 (.pick (.t 44) (.t 53) (.c (.b false))) 34 false,qo 55 (.pick (.t 34) (.c (.b true)) (.t 54)),qm 4 55])
 .ret)))) }
def A_term_Make:AFun:={ res:=[.t 6],body:=(.seq (.reg false [qo 6 (.mv (.c (.nilp)))])
 (.seq (.reg false [qm 8 1,qo 9 (.call .pure (.c (.fn 391 [] [])) [.t 8]),qm 10 2,qo 11 (.call .pure (.c (.fn 391 [] [])) [.t 10]),qm 1 9,qm 2 11])
 (.seq (.reg false [qm 12 0,qo 13 (.bin .eql (.t 12) (.c (.i .i64 1))),qm 14 13,qg 15 (.mv (.t 0)) 14 false,qg 16 (.bin .eql (.t 15) (.c (.i .i64 3))) 14 false,qo 17 (.pick (.t 14) (.c (.b true)) (.t 16)),qm 18 17,qg 19 (.mv (.t 0)) 18 false,qg 20 (.bin .eql (.t 19) (.c (.i .i64 4))) 18 false,qo 21 (.pick (.t 18) (.c (.b true)) (.t 20)),qm 22 21,qg 23 (.mv (.t 0)) 22 false,qg 24 (.bin .eql (.t 23) (.c (.i .i64 5))) 22 false,qo 25 (.pick (.t 22) (.c (.b true)) (.t 24)),qm 7 25])
 (.seq (.blk 0 (.seq (.reg false [qm 27 0,qo 28 (.bin .lss (.t 27) (.c (.i .i64 1))),qm 29 28,qg 30 (.mv (.t 0)) 29 false,qg 31 (.bin .gtr (.t 30) (.c (.i .i64 6))) 29 false,qo 32 (.pick (.t 29) (.c (.b true)) (.t 31)),qm 26 32])
 (.cond (.t 26) (.seq (.reg false [qo 33 (.call .pure (.c (.fn 387 [] [])) [.c (.i .i64 0)]),qm 6 33])
 .ret)
 (.seq (.reg false [qm 35 1,qo 36 (.nilck (.t 35)),qo 37 (.fa 0 (.t 36)),qo 38 (.ld none (.t 37)),qo 39 (.bin .eql (.t 38) (.c (.i .i64 1))),qm 40 39,qg 41 (.mv (.t 2)) 40 true,qg 42 (.nilck (.t 41)) 40 true,qg 43 (.fa 0 (.t 42)) 40 true,qg 44 (.ld none (.t 43)) 40 true,qg 45 (.bin .eql (.t 44) (.c (.i .i64 1))) 40 true,qo 46 (.pick (.t 40) (.t 45) (.c (.b false))),qm 34 46])
 (.cond (.t 34) (.seq (.reg true [qm 47 0,qm 48 1,qo 49 (.nilck (.t 48)),qo 50 (.fa 1 (.t 49)),qo 51 (.ld none (.t 50)),qm 52 2,qo 53 (.nilck (.t 52)),qo 54 (.fa 1 (.t 53)),qo 55 (.ld none (.t 54)),qo 56 (.call .pure (.c (.fn 410 [] [])) [.t 47,.t 51,.t 55]),qo 57 (.call .pure (.c (.fn 387 [] [])) [.t 56]),qm 6 57])
 .ret)
 (.seq (.reg false [qm 59 7,qm 60 59,qg 61 (.mv (.t 2)) 60 true,qg 62 (.call .pure (.c (.fn 389 [] [])) [.t 61]) 60 true,qg 63 (.mv (.t 1)) 60 true,qg 64 (.call .pure (.c (.fn 389 [] [])) [.t 63]) 60 true,qg 65 (.bin .lss (.t 62) (.t 64)) 60 true,qo 66 (.pick (.t 60) (.t 65) (.c (.b false))),qm 58 66])
 (.cond (.t 58) (.reg false [qm 67 2,qm 68 1,qm 1 67,qm 2 68])
 .skip)))))))
 (.seq (.blk 1 (.seq (.reg false [qm 70 0,qo 71 (.bin .eql (.t 70) (.c (.i .i64 1))),qm 72 71,qg 73 (.mv (.t 0)) 72 false,qg 74 (.bin .eql (.t 73) (.c (.i .i64 4))) 72 false,qo 75 (.pick (.t 72) (.c (.b true)) (.t 74)),qm 76 75,qg 77 (.mv (.t 1)) 76 true,qg 78 (.call .pure (.c (.fn 411 [] [])) [.t 77,.c (.i .i64 0)]) 76 true,qo 79 (.pick (.t 76) (.t 78) (.c (.b false))),qm 69 79])
 (.cond (.t 69) (.seq (.reg false [qm 80 2,qm 6 80])
 .ret)
 (.seq (.reg false [qm 82 0,qo 83 (.bin .eql (.t 82) (.c (.i .i64 1))),qm 84 83,qg 85 (.mv (.t 0)) 84 false,qg 86 (.bin .eql (.t 85) (.c (.i .i64 4))) 84 false,qo 87 (.pick (.t 84) (.c (.b true)) (.t 86)),qm 88 87,qg 89 (.mv (.t 0)) 88 false,qg 90 (.bin .eql (.t 89) (.c (.i .i64 2))) 88 false,qo 91 (.pick (.t 88) (.c (.b true)) (.t 90)),qm 92 91,qg 93 (.mv (.t 2)) 92 true,qg 94 (.call .pure (.c (.fn 411 [] [])) [.t 93,.c (.i .i64 0)]) 92 true,qo 95 (.pick (.t 92) (.t 94) (.c (.b false))),qm 81 95])
 (.cond (.t 81) (.seq (.reg false [qm 96 1,qm 6 96])
 .ret)
 (.seq (.reg false [qm 98 0,qo 99 (.bin .eql (.t 98) (.c (.i .i64 3))),qm 100 99,qg 101 (.mv (.t 1)) 100 true,qg 102 (.call .pure (.c (.fn 411 [] [])) [.t 101,.c (.i .i64 0)]) 100 true,qg 103 (.mv (.t 102)) 100 true,qg 104 (.mv (.t 2)) 103 false,qg 105 (.call .pure (.c (.fn 411 [] [])) [.t 104,.c (.i .i64 1)]) 103 false,qg 106 (.pick (.t 103) (.c (.b true)) (.t 105)) 100 true,qo 107 (.pick (.t 100) (.t 106) (.c (.b false))),qm 97 107])
 (.cond (.t 97) (.seq (.reg false [qm 108 1,qm 6 108])
 .ret)
 (.seq (.reg false [qm 110 0,qo 111 (.bin .eql (.t 110) (.c (.i .i64 3))),qm 112 111,qg 113 (.mv (.t 2)) 112 true,qg 114 (.call .pure (.c (.fn 411 [] [])) [.t 113,.c (.i .i64 0)]) 112 true,qg 115 (.mv (.t 114)) 112 true,qg 116 (.mv (.t 1)) 115 false,qg 117 (.call .pure (.c (.fn 411 [] [])) [.t 116,.c (.i .i64 1)]) 115 false,qg 118 (.pick (.t 115) (.c (.b true)) (.t 117)) 112 true,qo 119 (.pick (.t 112) (.t 118) (.c (.b false))),qm 109 119])
 (.cond (.t 109) (.seq (.reg false [qm 120 2,qm 6 120])
 .ret)
 .skip)))))))))
 (.seq (.reg false [qm 121 0,qm 122 1,qm 123 2,qo 124 (.build ([.i .i64 0,.i .i64 0,.nilp,.nilp]) [(0,1,.c (.i .i64 3)),(1,1,.t 121),(2,1,.t 122),(3,1,.t 123)]),qo 125 (.box (.t 124)),qm 6 125])
 .ret)))))) }
def A_term_Of:AFun:={ res:=[.t 4],body:=(.seq (.reg false [qo 4 (.mv (.c (.nilp)))])
 (.seq (.reg false [qo 5 (.mv (.c (.sl [] 0 .rig)))])
 (.seq (.seq (.reg false [qm 9 0,qo 10 (.len (.t 9)),qo 11 (.mv (.c (.i .i64 0)))])
 (.blk 0 (.loop (.seq (.reg false [qo 12 (.bin .lss (.t 11) (.t 10))])
 (.seq (.cond (.t 12) .skip
 (.ext 0))
 (.seq (.blk 1 (.seq (.reg false [qo 13 (.ia 2 (.t 9) (.t 11)),qo 14 (.ld (some 2) (.t 13)),qo 7 (.new ([.i .i64 0,.i .i64 0])),qn (.st 2 (.t 7) (.t 14))])
 (.seq (.reg false [qm 15 5,qo 16 (.len (.t 15)),qm 8 16])
 (.blk 2 (.seq (.reg false [qo 22 (.fa 0 (.t 7)),qo 23 (.ld none (.t 22)),qo 24 (.bin .eql (.t 23) (.c (.i .i64 3))),qm 25 24,qg 26 (.mv (.t 8)) 25 true,qg 27 (.bin .geq (.t 26) (.c (.i .i64 2))) 25 true,qo 28 (.pick (.t 25) (.t 27) (.c (.b false))),qm 21 28])
 (.cond (.t 21) (.reg true [qm 29 5,qm 30 8,qo 31 (.bin .sub (.t 30) (.c (.i .i64 2))),qo 32 (.slice 1 (.t 29) none (some (.t 31)) none),qo 33 (.fa 1 (.t 7)),qo 34 (.ld none (.t 33)),qm 35 5,qm 36 8,qo 37 (.bin .sub (.t 36) (.c (.i .i64 2))),qo 38 (.ia 1 (.t 35) (.t 37)),qo 39 (.ld none (.t 38)),qm 40 5,qm 41 8,qo 42 (.bin .sub (.t 41) (.c (.i .i64 1))),qo 43 (.ia 1 (.t 40) (.t 42)),qo 44 (.ld none (.t 43)),qo 45 (.call .pure (.c (.fn 406 [] [])) [.t 34,.t 39,.t 44]),qo 46 (.bsl true 1 ([.nilp]) [(0,1,.t 45)]),qo 47 (.appM 1 8 (.t 32) (.t 46)),qm 5 47])
 (.seq (.reg false [qo 49 (.fa 0 (.t 7)),qo 50 (.ld none (.t 49)),qo 51 (.bin .eql (.t 50) (.c (.i .i64 2))),qm 52 51,qg 53 (.fa 1 (.t 7)) 52 true,qg 54 (.ld none (.t 53)) 52 true,qg 55 (.bin .geq (.t 54) (.c (.i .i64 0))) 52 true,qo 56 (.pick (.t 52) (.t 55) (.c (.b false))),qm 57 56,qg 58 (.fa 1 (.t 7)) 57 true,qg 59 (.ld none (.t 58)) 57 true,qg 60 (.mv (.t 1)) 57 true,qg 61 (.len (.t 60)) 57 true,qg 62 (.bin .lss (.t 59) (.t 61)) 57 true,qo 63 (.pick (.t 57) (.t 62) (.c (.b false))),qm 48 63])
 (.cond (.t 48) (.reg false [qm 64 5,qm 65 1,qo 66 (.fa 1 (.t 7)),qo 67 (.ld none (.t 66)),qo 68 (.ia 1 (.t 65) (.t 67)),qo 69 (.ld none (.t 68)),qo 70 (.call .pure (.c (.fn 391 [] [])) [.t 69]),qo 71 (.bsl true 1 ([.nilp]) [(0,1,.t 70)]),qo 72 (.appM 1 8 (.t 64) (.t 71)),qm 5 72])
 (.seq (.reg false [qo 74 (.fa 0 (.t 7)),qo 75 (.ld none (.t 74)),qo 76 (.bin .eql (.t 75) (.c (.i .i64 1))),qm 73 76])
 (.cond (.t 73) (.reg false [qm 77 5,qo 78 (.fa 1 (.t 7)),qo 79 (.ld none (.t 78)),qo 80 (.call .pure (.c (.fn 387 [] [])) [.t 79]),qo 81 (.bsl true 1 ([.nilp]) [(0,1,.t 80)]),qo 82 (.appM 1 8 (.t 77) (.t 81)),qm 5 82])
 (.reg false [qm 17 5,qo 18 (.call .pure (.c (.fn 387 [] [])) [.c (.i .i64 0)]),qo 19 (.bsl true 1 ([.nilp]) [(0,1,.t 18)]),qo 20 (.appM 1 8 (.t 17) (.t 19)),qm 5 20])))))))))))
 (.reg false [qo 83 (.bin .add (.t 11) (.c (.i .i64 1))),qm 11 83])))))))
 (.seq (.seq (.reg false [qm 84 5,qo 85 (.len (.t 84)),qo 86 (.bin .eql (.t 85) (.c (.i .i64 0)))])
 (.cond (.t 86) (.seq (.reg false [qo 87 (.call .pure (.c (.fn 387 [] [])) [.c (.i .i64 0)]),qm 4 87])
 .ret)
 .skip))
 (.seq (.reg false [qm 88 5,qm 89 5,qo 90 (.len (.t 89)),qo 91 (.bin .sub (.t 90) (.c (.i .i64 1))),qo 92 (.ia 1 (.t 88) (.t 91)),qo 93 (.ld none (.t 92)),qm 4 93])
 .ret))))) }
def A_term_Read:AFun:={ res:=[.t 2],body:=(.seq (.reg false [qo 2 (.mv (.c (.nilp)))])
 (.seq (.reg false [qm 3 0,qo 4 (.build ([.i .i64 0,.i .i64 0,.nilp,.nilp]) [(0,1,.c (.i .i64 2)),(1,1,.t 3)]),qo 5 (.box (.t 4)),qm 2 5])
 .ret)) }
def A_term_value:AFun:={ res:=[.t 6],body:=(.seq (.reg false [qo 6 (.mv (.c (.i .i64 0)))])
 (.seq (.reg false [qo 7 (.build ([.i .i64 0,.i .i64 0]) [(0,1,.c (.i .i64 2))]),qo 8 (.build ([.i .i64 0,.i .i64 0]) [(0,1,.c (.i .i64 2)),(1,1,.c (.i .i64 1))]),qm 9 0,qo 10 (.build ([.i .i64 0,.i .i64 0]) [(0,1,.c (.i .i64 3)),(1,1,.t 9)]),qo 11 (.bsl true 3 (List.replicate 6 (.i .i64 0)) [(0,2,.t 7),(2,2,.t 8),(4,2,.t 10)]),qm 12 1,qm 13 2,qo 14 (.bsl true 2 ([.i .i64 0,.i .i64 0]) [(0,1,.t 12),(1,1,.t 13)]),qo 15 (.call .pure (.c (.fn 358 [] [])) [.t 11,.t 14]),qm 6 15])
 .ret)) }
def A_term_isNum:AFun:={ res:=[.t 4],body:=(.seq (.reg false [qo 4 (.mv (.c (.b false)))])
 (.seq (.reg false [qm 5 0,qo 6 (.nilck (.t 5)),qo 7 (.fa 0 (.t 6)),qo 8 (.ld none (.t 7)),qo 9 (.bin .eql (.t 8) (.c (.i .i64 1))),qm 10 9,qg 11 (.mv (.t 0)) 10 true,qg 12 (.nilck (.t 11)) 10 true,qg 13 (.fa 1 (.t 12)) 10 true,qg 14 (.ld none (.t 13)) 10 true,qg 15 (.mv (.t 1)) 10 true,qg 16 (.bin .eql (.t 14) (.t 15)) 10 true,qo 17 (.pick (.t 10) (.t 16) (.c (.b false))),qm 4 17])
 .ret)) }
def A_term_Eval:AFun:={ res:=[.t 4],body:=(.seq (.reg false [qo 4 (.mv (.c (.i .i64 0)))])
 (.seq (.seq (.reg false [qm 5 0,qo 6 (.call .pure (.c (.fn 391 [] [])) [.t 5]),qm 0 6])
 (.blk 0 (.seq (.reg false [qm 8 0,qo 9 (.nilck (.t 8)),qo 10 (.fa 0 (.t 9)),qo 11 (.ld none (.t 10)),qo 12 (.bin .eql (.t 11) (.c (.i .i64 3))),qm 7 12])
 (.cond (.t 7) (.seq (.reg true [qm 13 0,qo 14 (.nilck (.t 13)),qo 15 (.fa 1 (.t 14)),qo 16 (.ld none (.t 15)),qm 17 0,qo 18 (.nilck (.t 17)),qo 19 (.fa 2 (.t 18)),qo 20 (.ld none (.t 19)),qm 21 1,qo 22 (.call .pure (.c (.fn 513 [] [])) [.t 20,.t 21]),qm 23 0,qo 24 (.nilck (.t 23)),qo 25 (.fa 3 (.t 24)),qo 26 (.ld none (.t 25)),qm 27 1,qo 28 (.call .pure (.c (.fn 513 [] [])) [.t 26,.t 27]),qo 29 (.call .pure (.c (.fn 410 [] [])) [.t 16,.t 22,.t 28]),qm 4 29])
 .ret)
 (.seq (.reg false [qm 31 0,qo 32 (.nilck (.t 31)),qo 33 (.fa 0 (.t 32)),qo 34 (.ld none (.t 33)),qo 35 (.bin .neq (.t 34) (.c (.i .i64 2))),qm 30 35])
 (.cond (.t 30) (.seq (.reg false [qm 36 0,qo 37 (.nilck (.t 36)),qo 38 (.fa 1 (.t 37)),qo 39 (.ld none (.t 38)),qm 4 39])
 .ret)
 (.seq (.reg false [qm 41 0,qo 42 (.nilck (.t 41)),qo 43 (.fa 1 (.t 42)),qo 44 (.ld none (.t 43)),qo 45 (.bin .lss (.t 44) (.c (.i .i64 0))),qm 46 45,qg 47 (.mv (.t 0)) 46 false,qg 48 (.nilck (.t 47)) 46 false,qg 49 (.fa 1 (.t 48)) 46 false,qg 50 (.ld none (.t 49)) 46 false,qg 51 (.mv (.t 1)) 46 false,qg 52 (.len (.t 51)) 46 false,qg 53 (.bin .geq (.t 50) (.t 52)) 46 false,qo 54 (.pick (.t 46) (.c (.b true)) (.t 53)),qm 40 54])
 (.cond (.t 40) (.seq (.reg false [qo 4 (.mv (.c (.i .i64 0)))])
 .ret)
 .skip))))))))
 (.seq (.reg false [qm 55 1,qm 56 0,qo 57 (.nilck (.t 56)),qo 58 (.fa 1 (.t 57)),qo 59 (.ld none (.t 58)),qo 60 (.ia 1 (.t 55) (.t 59)),qo 61 (.ld none (.t 60)),qm 4 61])
 .ret))) }
end Go.Ab
end
section
namespace Go.Ab
def A_xref22_Text:AFun:={ res:=[.t 2],body:=(.seq (.reg false [qo 2 (.mv (.c (.s ⟨#[]⟩)))])
 (.seq (.reg false [qm 3 0,qo 4 (.call .pure (.c (.fn 521 [] [])) [.t 3]),qm 0 4])
 (.seq (.seq (.reg false [qm 5 0,qo 6 (.nilck (.t 5)),qo 7 (.fa 0 (.t 6)),qo 8 (.ld none (.t 7))])
 (.blk 0 (.seq (.reg false [qo 10 (.bin .eql (.t 8) (.c (.i .i64 1))),qm 9 10])
 (.cond (.t 9) (.seq (.reg false [qm 11 0,qo 12 (.nilck (.t 11)),qo 13 (.fa 1 (.t 12)),qo 14 (.ld none (.t 13)),qo 15 (.call .pure (.c (.fn 493 [] [])) [.t 14]),qm 2 15])
 .ret)
 (.seq (.reg false [qo 17 (.bin .eql (.t 8) (.c (.i .i64 2))),qm 16 17])
 (.cond (.t 16) (.seq (.reg false [qm 18 0,qo 19 (.nilck (.t 18)),qo 20 (.fa 1 (.t 19)),qo 21 (.ld none (.t 20)),qo 22 (.call .pure (.c (.fn 493 [] [])) [.t 21]),qo 23 (.bin .add (.c (.s ⟨#[105]⟩)) (.t 22)),qm 2 23])
 .ret)
 .skip))))))
 (.seq (.reg true [qm 24 0,qo 25 (.nilck (.t 24)),qo 26 (.fa 2 (.t 25)),qo 27 (.ld none (.t 26)),qo 28 (.call .pure (.c (.fn 511 [] [])) [.t 27]),qo 29 (.bin .add (.c (.s ⟨#[40]⟩)) (.t 28)),qo 30 (.bin .add (.t 29) (.c (.s ⟨#[32]⟩))),qm 31 0,qo 32 (.nilck (.t 31)),qo 33 (.fa 1 (.t 32)),qo 34 (.ld none (.t 33)),qm 35 0,qo 36 (.nilck (.t 35)),qo 37 (.fa 1 (.t 36)),qo 38 (.ld none (.t 37)),qo 39 (.bin .add (.t 38) (.c (.i .i64 1))),qo 40 (.sslice (.c (.s ⟨#[63,43,45,42,94,61,60]⟩)) (some (.t 34)) (some (.t 39))),qo 41 (.bin .add (.t 30) (.t 40)),qo 42 (.bin .add (.t 41) (.c (.s ⟨#[32]⟩))),qm 43 0,qo 44 (.nilck (.t 43)),qo 45 (.fa 3 (.t 44)),qo 46 (.ld none (.t 45)),qo 47 (.call .pure (.c (.fn 511 [] [])) [.t 46]),qo 48 (.bin .add (.t 42) (.t 47)),qo 49 (.bin .add (.t 48) (.c (.s ⟨#[41]⟩))),qm 2 49])
 .ret)))) }
def A_xref22_Size:AFun:={ res:=[.t 2],body:=(.seq (.reg false [qo 2 (.mv (.c (.i .i64 0)))])
 (.seq (.reg false [qm 3 0,qo 4 (.call .pure (.c (.fn 521 [] [])) [.t 3]),qm 0 4])
 (.seq (.seq (.reg false [qm 5 0,qo 6 (.nilck (.t 5)),qo 7 (.fa 0 (.t 6)),qo 8 (.ld none (.t 7)),qo 9 (.bin .neq (.t 8) (.c (.i .i64 3)))])
 (.cond (.t 9) (.seq (.reg false [qo 2 (.mv (.c (.i .i64 1)))])
 .ret)
 .skip))
 (.seq (.reg true [qm 10 0,qo 11 (.nilck (.t 10)),qo 12 (.fa 2 (.t 11)),qo 13 (.ld none (.t 12)),qo 14 (.call .pure (.c (.fn 512 [] [])) [.t 13]),qo 15 (.bin .add (.c (.i .i64 1)) (.t 14)),qm 16 0,qo 17 (.nilck (.t 16)),qo 18 (.fa 3 (.t 17)),qo 19 (.ld none (.t 18)),qo 20 (.call .pure (.c (.fn 512 [] [])) [.t 19]),qo 21 (.bin .add (.t 15) (.t 20)),qo 22 (.mn (.t 21) (.c (.i .i64 1000000))),qm 2 22])
 .ret)))) }
def A_xref22_Eval:AFun:={ res:=[.t 4],body:=(.seq (.reg false [qo 4 (.mv (.c (.i .i64 0)))])
 (.seq (.reg false [qm 5 0,qo 6 (.call .pure (.c (.fn 521 [] [])) [.t 5]),qm 0 6])
 (.seq (.seq (.reg false [qm 7 0,qo 8 (.nilck (.t 7)),qo 9 (.fa 0 (.t 8)),qo 10 (.ld none (.t 9))])
 (.blk 0 (.seq (.reg false [qo 12 (.bin .eql (.t 10) (.c (.i .i64 1))),qm 11 12])
 (.cond (.t 11) (.seq (.reg false [qm 13 0,qo 14 (.nilck (.t 13)),qo 15 (.fa 1 (.t 14)),qo 16 (.ld none (.t 15)),qm 4 16])
 .ret)
 (.seq (.reg false [qo 18 (.bin .eql (.t 10) (.c (.i .i64 2))),qm 17 18])
 (.cond (.t 17) (.seq (.seq (.reg false [qm 19 0,qo 20 (.nilck (.t 19)),qo 21 (.fa 1 (.t 20)),qo 22 (.ld none (.t 21)),qo 23 (.bin .geq (.t 22) (.c (.i .i64 0))),qm 24 23,qg 25 (.mv (.t 0)) 24 true,qg 26 (.nilck (.t 25)) 24 true,qg 27 (.fa 1 (.t 26)) 24 true,qg 28 (.ld none (.t 27)) 24 true,qg 29 (.mv (.t 1)) 24 true,qg 30 (.len (.t 29)) 24 true,qg 31 (.bin .lss (.t 28) (.t 30)) 24 true,qo 32 (.pick (.t 24) (.t 31) (.c (.b false)))])
 (.cond (.t 32) (.seq (.reg false [qm 33 1,qm 34 0,qo 35 (.nilck (.t 34)),qo 36 (.fa 1 (.t 35)),qo 37 (.ld none (.t 36)),qo 38 (.ia 1 (.t 33) (.t 37)),qo 39 (.ld none (.t 38)),qm 4 39])
 .ret)
 .skip))
 (.seq (.reg false [qo 4 (.mv (.c (.i .i64 0)))])
 .ret))
 .skip))))))
 (.seq (.reg true [qm 40 0,qo 41 (.nilck (.t 40)),qo 42 (.fa 1 (.t 41)),qo 43 (.ld none (.t 42)),qm 44 0,qo 45 (.nilck (.t 44)),qo 46 (.fa 2 (.t 45)),qo 47 (.ld none (.t 46)),qm 48 1,qo 49 (.call .pure (.c (.fn 514 [] [])) [.t 47,.t 48]),qm 50 0,qo 51 (.nilck (.t 50)),qo 52 (.fa 3 (.t 51)),qo 53 (.ld none (.t 52)),qm 54 1,qo 55 (.call .pure (.c (.fn 514 [] [])) [.t 53,.t 54]),qo 56 (.call .pure (.c (.fn 128 [] [])) [.t 43,.t 49,.t 55]),qm 4 56])
 .ret)))) }
def A_xref22_Num:AFun:={ res:=[.t 2],body:=(.seq (.reg false [qo 2 (.mv (.c (.nilp)))])
 (.seq (.reg false [qm 3 0,qo 4 (.build ([.i .i64 0,.i .i64 0,.nilp,.nilp]) [(0,1,.c (.i .i64 1)),(1,1,.t 3)]),qo 5 (.box (.t 4)),qm 2 5])
 .ret)) }
def A_xref22_Read:AFun:={ res:=[.t 2],body:=(.seq (.reg false [qo 2 (.mv (.c (.nilp)))])
 (.seq (.reg false [qm 3 0,qo 4 (.build ([.i .i64 0,.i .i64 0,.nilp,.nilp]) [(0,1,.c (.i .i64 2)),(1,1,.t 3)]),qo 5 (.box (.t 4)),qm 2 5])
 .ret)) }
def A_xref22_Make:AFun:={ res:=[.t 6],body:=(.seq (.reg false [qo 6 (.mv (.c (.nilp)))])
 (.seq (.reg false [qm 7 1,qo 8 (.call .pure (.c (.fn 521 [] [])) [.t 7]),qm 9 2,qo 10 (.call .pure (.c (.fn 521 [] [])) [.t 9]),qm 1 8,qm 2 10])
 (.seq (.seq (.reg false [qm 11 0,qo 12 (.bin .lss (.t 11) (.c (.i .i64 1))),qm 13 12,qg 14 (.mv (.t 0)) 13 false,qg 15 (.bin .gtr (.t 14) (.c (.i .i64 6))) 13 false,qo 16 (.pick (.t 13) (.c (.b true)) (.t 15))])
 (.cond (.t 16) (.seq (.reg false [qo 17 (.call .pure (.c (.fn 518 [] [])) [.c (.i .i64 0)]),qm 6 17])
 .ret)
 .skip))
 (.seq (.seq (.reg false [qm 18 1,qo 19 (.nilck (.t 18)),qo 20 (.fa 0 (.t 19)),qo 21 (.ld none (.t 20)),qo 22 (.bin .eql (.t 21) (.c (.i .i64 1))),qm 23 22,qg 24 (.mv (.t 2)) 23 true,qg 25 (.nilck (.t 24)) 23 true,qg 26 (.fa 0 (.t 25)) 23 true,qg 27 (.ld none (.t 26)) 23 true,qg 28 (.bin .eql (.t 27) (.c (.i .i64 1))) 23 true,qo 29 (.pick (.t 23) (.t 28) (.c (.b false)))])
 (.cond (.t 29) (.seq (.reg true [qm 30 0,qm 31 1,qo 32 (.nilck (.t 31)),qo 33 (.fa 1 (.t 32)),qo 34 (.ld none (.t 33)),qm 35 2,qo 36 (.nilck (.t 35)),qo 37 (.fa 1 (.t 36)),qo 38 (.ld none (.t 37)),qo 39 (.call .pure (.c (.fn 128 [] [])) [.t 30,.t 34,.t 38]),qo 40 (.call .pure (.c (.fn 518 [] [])) [.t 39]),qm 6 40])
 .ret)
 .skip))
 (.seq (.seq (.reg false [qm 41 0,qo 42 (.bin .eql (.t 41) (.c (.i .i64 1))),qm 43 42,qg 44 (.mv (.t 0)) 43 false,qg 45 (.bin .eql (.t 44) (.c (.i .i64 3))) 43 false,qo 46 (.pick (.t 43) (.c (.b true)) (.t 45)),qm 47 46,qg 48 (.mv (.t 0)) 47 false,qg 49 (.bin .eql (.t 48) (.c (.i .i64 4))) 47 false,qo 50 (.pick (.t 47) (.c (.b true)) (.t 49)),qm 51 50,qg 52 (.mv (.t 0)) 51 false,qg 53 (.bin .eql (.t 52) (.c (.i .i64 5))) 51 false,qo 54 (.pick (.t 51) (.c (.b true)) (.t 53)),qm 55 54,qg 56 (.mv (.t 2)) 55 true,qg 57 (.call .pure (.c (.fn 511 [] [])) [.t 56]) 55 true,qg 58 (.mv (.t 1)) 55 true,qg 59 (.call .pure (.c (.fn 511 [] [])) [.t 58]) 55 true,qg 60 (.bin .lss (.t 57) (.t 59)) 55 true,qo 61 (.pick (.t 55) (.t 60) (.c (.b false)))])
 (.cond (.t 61) (.reg false [qm 62 2,qm 63 1,qm 1 62,qm 2 63])
 .skip))
 (.seq (.seq (.reg false [qm 64 0])
 (.blk 0 (.seq (.seq (.reg false [qo 66 (.bin .eql (.t 64) (.c (.i .i64 1))),qm 65 66])
 (.cond (.t 65) .skip
 (.reg false [qo 67 (.bin .eql (.t 64) (.c (.i .i64 4))),qm 65 67])))
 (.cond (.t 65) (.seq (.seq (.reg false [qm 68 1,qo 69 (.call .pure (.c (.fn 522 [] [])) [.t 68,.c (.i .i64 0)])])
 (.cond (.t 69) (.seq (.reg false [qm 70 2,qm 6 70])
 .ret)
 .skip))
 (.seq (.reg false [qm 71 2,qo 72 (.call .pure (.c (.fn 522 [] [])) [.t 71,.c (.i .i64 0)])])
 (.cond (.t 72) (.seq (.reg false [qm 73 1,qm 6 73])
 .ret)
 .skip)))
 (.seq (.reg false [qo 75 (.bin .eql (.t 64) (.c (.i .i64 2))),qm 74 75])
 (.cond (.t 74) (.seq (.reg false [qm 76 2,qo 77 (.call .pure (.c (.fn 522 [] [])) [.t 76,.c (.i .i64 0)])])
 (.cond (.t 77) (.seq (.reg false [qm 78 1,qm 6 78])
 .ret)
 .skip))
 (.seq (.reg false [qo 80 (.bin .eql (.t 64) (.c (.i .i64 3))),qm 79 80])
 (.cond (.t 79) (.seq (.seq (.reg false [qm 81 1,qo 82 (.call .pure (.c (.fn 522 [] [])) [.t 81,.c (.i .i64 0)]),qm 83 82,qg 84 (.mv (.t 2)) 83 false,qg 85 (.call .pure (.c (.fn 522 [] [])) [.t 84,.c (.i .i64 1)]) 83 false,qo 86 (.pick (.t 83) (.c (.b true)) (.t 85))])
 (.cond (.t 86) (.seq (.reg false [qm 87 1,qm 6 87])
 .ret)
 .skip))
 (.seq (.reg false [qm 88 2,qo 89 (.call .pure (.c (.fn 522 [] [])) [.t 88,.c (.i .i64 0)]),qm 90 89,qg 91 (.mv (.t 1)) 90 false,qg 92 (.call .pure (.c (.fn 522 [] [])) [.t 91,.c (.i .i64 1)]) 90 false,qo 93 (.pick (.t 90) (.c (.b true)) (.t 92))])
 (.cond (.t 93) (.seq (.reg false [qm 94 2,qm 6 94])
 .ret)
 .skip)))
 .skip))))))))
 (.seq (.reg false [qm 95 0,qm 96 1,qm 97 2,qo 98 (.build ([.i .i64 0,.i .i64 0,.nilp,.nilp]) [(0,1,.c (.i .i64 3)),(1,1,.t 95),(2,1,.t 96),(3,1,.t 97)]),qo 99 (.box (.t 98)),qm 6 99])
 .ret))))))) }
def A_xref22_Fix:AFun:={ res:=[.t 2],body:=(.seq (.reg false [qo 2 (.mv (.c (.nilp)))])
 (.seq (.seq (.reg false [qm 3 0,qo 4 (.eqn false (.t 3) (.c (.nilp)))])
 (.cond (.t 4) (.seq (.reg false [qo 5 (.call .pure (.c (.fn 518 [] [])) [.c (.i .i64 0)]),qm 2 5])
 .ret)
 .skip))
 (.seq (.reg false [qm 6 0,qm 2 6])
 .ret))) }
def A_xref22_num:AFun:={ res:=[.t 4],body:=(.seq (.reg false [qo 4 (.mv (.c (.b false)))])
 (.seq (.reg false [qm 5 0,qo 6 (.nilck (.t 5)),qo 7 (.fa 0 (.t 6)),qo 8 (.ld none (.t 7)),qo 9 (.bin .eql (.t 8) (.c (.i .i64 1))),qm 10 9,qg 11 (.mv (.t 0)) 10 true,qg 12 (.nilck (.t 11)) 10 true,qg 13 (.fa 1 (.t 12)) 10 true,qg 14 (.ld none (.t 13)) 10 true,qg 15 (.mv (.t 1)) 10 true,qg 16 (.bin .eql (.t 14) (.t 15)) 10 true,qo 17 (.pick (.t 10) (.t 16) (.c (.b false))),qm 4 17])
 .ret)) }
end Go.Ab
end
section
set_option linter.unusedVariables false
set_option linter.unusedSimpArgs false
namespace Go.Ab
variable {F:Funs}
def bs (l:List UInt8):ByteArray:=⟨l.toArray⟩
theorem bs_size (l:List UInt8):(bs l).size = l.length:=by simp[bs,ByteArray.size]
theorem bs_app (a b:List UInt8):bs a ++ bs b = bs (a ++ b):=by
 apply ByteArray.ext
 simp[bs]
theorem bs_list (l:List UInt8):(bs l).toList = l:=by
 rw[ByteArray.toList_eq]
 rfl
theorem b_sadd {a b:List UInt8} (h:a.length + b.length≤9000000000000000000):abin .add (.s (bs a)) (.s (bs b)) = some (.s (bs (a ++ b))):=by
 show sbin .add _ _ = _
 unfold sbin
 simp only
 rw[if_neg,bs_app]
 rw[bs_size,bs_size]
 have:IntKind.i64.max = 9223372036854775807:=rfl
 omega
theorem b_slss {a b:List UInt8}:abin .lss (.s (bs a)) (.s (bs b)) = some (.b (Op.bytesLess a b)):=by
 show sbin .lss _ _ = _
 unfold sbin
 simp only
 rw[bs_list,bs_list]
theorem b_seql {a b:List UInt8}:abin .eql (.s (bs a)) (.s (bs b)) = some (.b (a == b)):=by
 show sbin .eql _ _ = _
 unfold sbin
 simp only
 rw[bs_list,bs_list]
theorem oSslice {c:CS} {al:Nat→Bool} {lo id:Nat} {e:Env} {g:G} (x lo' hi):opE c al lo id (.sslice x lo' hi) e g = vSslice (x.ev e) (evo e lo') (evo e hi) g:=rfl
def I64 (n:Int):Prop:=-9223372036854775808≤n∧n≤9223372036854775807
def itoaS (n:Int):List UInt8:=Lib.itoa n
def itoaH:List AV→(Nat→Option Blk)→Option (AV × Option (Nat × List AV))
 | [.i .i64 n],_ => if -9223372036854775808≤n∧n≤9223372036854775807 then some (.s (bs (itoaS n)),none) else none
 | _,_ => none
def A_strconv_Itoa:AFun:={ res:=[.t 0],body:=.prim 1 itoaH }
theorem sp_itoa (h:F 413 = some A_strconv_Itoa) {n:Int} (hn:I64 n):pureS F 413 [.i .i64 n] = some (.s (bs (itoaS n))):=by
 refine pure_of h ?_
 unfold W
 have hh:itoaH ((List.range 1).map (argEnv [.i .i64 n])) g0.hp = some (.s (bs (itoaS n)),none):=if_pos hn
 have hp:primE itoaH ((List.range 1).map (argEnv [.i .i64 n])) g0 = some (.s (bs (itoaS n)),g0):=by
  unfold primE
  rw[hh]
 refine ⟨.ret,upd (argEnv [.i .i64 n]) 0 (.s (bs (itoaS n))),g0,?_,?_⟩
 ·show codeS F (.prim 1 itoaH) _ _ = _
  rw[codeS_prim,hp]
 ·rw[retQ_ret]
  have:resE A_strconv_Itoa.res (upd (argEnv [.i .i64 n]) 0 (.s (bs (itoaS n)))) g0 = some (.s (bs (itoaS n))):=by
   show resE [ARes.t 0] _ _ = _
   rw[res_1,upd_same]
  rw[this]
  exact frz_d_s _ _
theorem itoaS_len {n:Int} (hn:I64 n):(itoaS n).length≤21:=Lib.itoa_length_le n hn.1 hn.2
inductive T where
 | num (v:Int)
 | rd (i:Int)
 | op (o:Int) (l r:T)
def tC:T→List AV
 | .num v => [.i .i64 1,.i .i64 v,.nilp,.nilp]
 | .rd i => [.i .i64 2,.i .i64 i,.nilp,.nilp]
 | .op o l r => [.i .i64 3,.i .i64 o,.ptr (tC l),.ptr (tC r)]
def tP (t:T):AV:=.ptr (tC t)
def oP:Option T→AV
 | none => .nilp
 | some t => tP t
def fixT:Option T→T
 | none => .num 0
 | some t => t
def nodes:T→Nat
 | .op _ l r => 1 + nodes l + nodes r
 | _ => 1
def OkT:T→Prop
 | .num v => I64 v
 | .rd i => I64 i
 | .op o l r => (1≤o∧o≤6)∧OkT l∧OkT r
def sgn (o:Int):List UInt8:=[([63,43,45,42,94,61,60]:List UInt8).getD o.toNat 0]
def txt:T→List UInt8
 | .num v => itoaS v
 | .rd i => [105] ++ itoaS i
 | .op o l r => [40] ++ txt l ++ [32] ++ sgn o ++ [32] ++ txt r ++ [41]
theorem txt_len:∀ {t:T},OkT t→(txt t).length≤40 * nodes t
 | .num v,h => by have:=itoaS_len (n:=v) h;simp only[txt,nodes];omega
 | .rd v,h => by have:=itoaS_len (n:=v) h;simp only[txt,nodes,List.length_append,List.length_cons,List.length_nil];omega
 | .op o l r,h => by
   have h1:=txt_len h.2.1
   have h2:=txt_len h.2.2
   simp only[txt,nodes,List.length_append,List.length_cons,List.length_nil,sgn]
   omega
theorem sgn_cut {o:Int} (h1:1≤o) (h6:o≤6) (k:IntKind) (g:G):vSslice (.s ⟨#[63,43,45,42,94,61,60]⟩) (some (.i k o)) (some (.i k (o + 1))) g = some (.s (bs (sgn o)),g):=by
 have hs:o = 1∨o = 2∨o = 3∨o = 4∨o = 5∨o = 6:=by omega
 rcases hs with rfl | rfl | rfl | rfl | rfl | rfl<;>rfl
theorem dd_small {u:Nat} (h:u < 10):Lib.decDigits u = [UInt8.ofNat (48 + u)]:=by rw[Lib.decDigits];rw[dif_pos h]
theorem dd_big {u:Nat} (h:¬ u < 10):Lib.decDigits u = Lib.decDigits (u / 10) ++ [UInt8.ofNat (48 + u % 10)]:=by rw[Lib.decDigits];rw[dif_neg h]
theorem it_pos (u:Nat):itoaS (u:Int) = Lib.decDigits u:=by
 unfold itoaS Lib.itoa
 rw[if_neg (by omega)]
 rfl
end Go.Ab
end
section
set_option linter.unusedVariables false
set_option maxRecDepth 100000
namespace Go.Proofs.YtmlfhgdpcjhnpaaDoor
open Go.Ab Go.RowKit
theorem gNamed:Tryd.prog.globalNamed (Rows.termNumbersRow.named.headD "") = some 0:=by kernel_rfl
theorem pow10_eq:(Lib.pow10Tab.map fun z => Value.int .u64 z).toArray = tab10:=by simp[tab10,Lib.pow10Tab]
theorem primItoa {num:Nat→Nat} (h1:num 413 = 39) (h2:num 1000000 = 1):PrimOk Tryd.prog num 413 A_strconv_Itoa:=by
 refine ⟨1,itoaH,rfl,rfl,⟨Tryd.f39,by rw[h1];exact Tryd.func39,by kernel_rfl,by kernel_rfl⟩,?_⟩
 intro xs g v g' hl hp c vargs hn hhp K hr
 obtain ⟨x,rfl⟩:=List.length_eq_one_iff.1 hl
 have hp:primE itoaH [x] g = some (v,g'):=hp
 have hx:∃ n,x = .i .i64 n∧I64 n∧v = .s (bs (itoaS n))∧g' = g:=by
  unfold primE itoaH at hp
  cases x with
  | i k n =>
    cases k<;>try (cases hp;done)
    simp only at hp
    by_cases hi:-9223372036854775808≤n∧n≤9223372036854775807
    ·rw[if_pos hi] at hp
     cases hp
     exact ⟨n,rfl,hi,rfl,rfl⟩
    ·rw[if_neg hi] at hp
     cases hp
  | _ => cases hp
 obtain ⟨n,rfl,hi,rfl,rfl⟩:=hx
 obtain ⟨hlen,hreps⟩:=hr
 obtain ⟨u,rfl⟩:=List.length_eq_one_iff.1 (show vargs.length = 1 by rw[←hlen];rfl)
 have hu:=rep_i (hreps 0 _ u rfl rfl)
 subst hu
 have htab:Lib.TabIs Tryd.prog c.w (Rows.termNumbersRow.named.headD "") .u64 Lib.pow10Tab:=by
  obtain ⟨_,ty,fr,hb⟩:=K.gl 0 (by rw[hn];exact h2)
  unfold Lib.TabIs World.var?
  rw[gNamed,pow10_eq]
  simp only[Option.bind_some,hb]
 rw[h1]
 refine (Any.strconv_Itoa Tryd.laysM171 n hi.1 hi.2 c.w htab).mono fun e w' h => ?_
 obtain ⟨rfl,k,os,rfl⟩:=h
 have hb:Below c.w.heap.size c.w (Go.Sort.grow (c.w.drewN k) os):=⟨rfl,rfl,rfl,by simp[Go.Sort.grow,World.drewN],fun j hj => by
  simp only[Go.Sort.grow,World.drewN]
  rw[Array.getElem?_append_left hj]⟩
 exact ⟨_,c.grow (Go.Sort.grow (c.w.drewN k) os),rfl,rfl,Evo.grow K hb,K.grow hb,hhp,.s _⟩
end Go.Proofs.YtmlfhgdpcjhnpaaDoor
end
section
namespace Go.Ab
def A_xlaw22_TermNumbers:AFun:={ res:=[.t 4],body:=(.seq (.reg false [qo 4 (.mv (.c (.b false)))])
 (.seq (.seq (.reg false [qm 8 0,qo 9 (.len (.t 8)),qo 10 (.bin .gtr (.t 9) (.c (.i .i64 40))),qm 11 10,qg 12 (.mv (.t 1)) 11 false,qg 13 (.len (.t 12)) 11 false,qg 14 (.bin .gtr (.t 13) (.c (.i .i64 10))) 11 false,qo 15 (.pick (.t 11) (.c (.b true)) (.t 14))])
 (.cond (.t 15) (.seq (.reg false [qo 16 (.call .pure (.c (.fn 509 [] [])) []),qm 4 16])
 .ret)
 .skip))
 (.seq (.reg false [qm 18 0,qo 19 (.call .pure (.c (.fn 510 [] [])) [.t 18,.c (.i .i64 0),.c (.i .i64 5)]),qm 17 19,qo 20 (.ext 0 (.t 17)),qo 21 (.ext 1 (.t 17)),qo 22 (.ext 2 (.t 17)),qm 5 20,qm 6 21,qm 7 22])
 (.seq (.reg false [qm 23 5,qo 24 (.call .pure (.c (.fn 389 [] [])) [.t 23]),qm 25 6,qo 26 (.call .pure (.c (.fn 511 [] [])) [.t 25]),qo 27 (.bin .eql (.t 24) (.t 26)),qm 28 27,qg 29 (.mv (.t 5)) 28 true,qg 30 (.call .pure (.c (.fn 384 [] [])) [.t 29]) 28 true,qg 31 (.mv (.t 6)) 28 true,qg 32 (.call .pure (.c (.fn 512 [] [])) [.t 31]) 28 true,qg 33 (.bin .eql (.t 30) (.t 32)) 28 true,qo 34 (.pick (.t 28) (.t 33) (.c (.b false))),qm 35 34,qg 36 (.mv (.t 5)) 35 true,qg 37 (.mv (.t 1)) 35 true,qg 38 (.call .pure (.c (.fn 513 [] [])) [.t 36,.t 37]) 35 true,qg 39 (.mv (.t 6)) 35 true,qg 40 (.mv (.t 1)) 35 true,qg 41 (.call .pure (.c (.fn 514 [] [])) [.t 39,.t 40]) 35 true,qg 42 (.bin .eql (.t 38) (.t 41)) 35 true,qo 43 (.pick (.t 35) (.t 42) (.c (.b false))),qm 44 43,qg 45 (.call .pure (.c (.fn 509 [] [])) []) 44 true,qo 46 (.pick (.t 44) (.t 45) (.c (.b false))),qm 4 46])
 .ret)))) }
def A_xlaw22_TermMakes:AFun:={ res:=[.t 8],body:=(.seq (.reg false [qo 8 (.mv (.c (.b false)))])
 (.seq (.reg false [qm 13 3,qo 14 (.bsl true 1 ([.i .i64 0]) [(0,1,.t 13)]),qm 9 14])
 (.seq (.reg false [qm 15 0,qm 16 1,qo 17 (.call .pure (.c (.fn 387 [] [])) [.t 16]),qm 18 2,qo 19 (.call .pure (.c (.fn 387 [] [])) [.t 18]),qo 20 (.call .pure (.c (.fn 406 [] [])) [.t 15,.t 17,.t 19]),qm 21 0,qo 22 (.call .pure (.c (.fn 408 [] [])) [.c (.i .i64 0)]),qm 23 2,qo 24 (.call .pure (.c (.fn 387 [] [])) [.t 23]),qo 25 (.call .pure (.c (.fn 406 [] [])) [.t 21,.t 22,.t 24]),qm 26 0,qm 27 1,qo 28 (.call .pure (.c (.fn 387 [] [])) [.t 27]),qo 29 (.call .pure (.c (.fn 408 [] [])) [.c (.i .i64 0)]),qo 30 (.call .pure (.c (.fn 406 [] [])) [.t 26,.t 28,.t 29]),qm 10 20,qm 11 25,qm 12 30])
 (.seq (.reg false [qm 31 10,qm 32 9,qo 33 (.call .pure (.c (.fn 513 [] [])) [.t 31,.t 32]),qm 34 0,qm 35 1,qm 36 2,qo 37 (.call .pure (.c (.fn 128 [] [])) [.t 34,.t 35,.t 36]),qo 38 (.bin .eql (.t 33) (.t 37)),qm 39 38,qg 40 (.mv (.t 11)) 39 true,qg 41 (.mv (.t 9)) 39 true,qg 42 (.call .pure (.c (.fn 513 [] [])) [.t 40,.t 41]) 39 true,qg 43 (.mv (.t 0)) 39 true,qg 44 (.mv (.t 3)) 39 true,qg 45 (.mv (.t 2)) 39 true,qg 46 (.call .pure (.c (.fn 128 [] [])) [.t 43,.t 44,.t 45]) 39 true,qg 47 (.bin .eql (.t 42) (.t 46)) 39 true,qo 48 (.pick (.t 39) (.t 47) (.c (.b false))),qm 49 48,qg 50 (.mv (.t 12)) 49 true,qg 51 (.mv (.t 9)) 49 true,qg 52 (.call .pure (.c (.fn 513 [] [])) [.t 50,.t 51]) 49 true,qg 53 (.mv (.t 0)) 49 true,qg 54 (.mv (.t 1)) 49 true,qg 55 (.mv (.t 3)) 49 true,qg 56 (.call .pure (.c (.fn 128 [] [])) [.t 53,.t 54,.t 55]) 49 true,qg 57 (.bin .eql (.t 52) (.t 56)) 49 true,qo 58 (.pick (.t 49) (.t 57) (.c (.b false))),qm 59 58,qg 60 (.mv (.t 10)) 59 true,qg 61 (.call .pure (.c (.fn 384 [] [])) [.t 60]) 59 true,qg 62 (.bin .eql (.t 61) (.c (.i .i64 1))) 59 true,qo 63 (.pick (.t 59) (.t 62) (.c (.b false))),qm 64 63,qg 65 (.mv (.t 0)) 64 true,qg 66 (.bin .neq (.t 65) (.c (.i .i64 1))) 64 true,qg 67 (.mv (.t 66)) 64 true,qg 68 (.mv (.t 0)) 67 true,qg 69 (.bin .neq (.t 68) (.c (.i .i64 3))) 67 true,qg 70 (.pick (.t 67) (.t 69) (.c (.b false))) 64 true,qg 71 (.mv (.t 70)) 64 true,qg 72 (.mv (.t 0)) 71 true,qg 73 (.bin .neq (.t 72) (.c (.i .i64 4))) 71 true,qg 74 (.pick (.t 71) (.t 73) (.c (.b false))) 64 true,qg 75 (.mv (.t 74)) 64 true,qg 76 (.mv (.t 0)) 75 true,qg 77 (.bin .neq (.t 76) (.c (.i .i64 5))) 75 true,qg 78 (.pick (.t 75) (.t 77) (.c (.b false))) 64 true,qg 79 (.mv (.t 78)) 64 true,qg 80 (.mv (.t 11)) 79 false,qg 81 (.mv (.t 0)) 79 false,qg 82 (.mv (.t 2)) 79 false,qg 83 (.call .pure (.c (.fn 387 [] [])) [.t 82]) 79 false,qg 84 (.call .pure (.c (.fn 408 [] [])) [.c (.i .i64 0)]) 79 false,qg 85 (.call .pure (.c (.fn 406 [] [])) [.t 81,.t 83,.t 84]) 79 false,qg 86 (.call .pure (.c (.fn 401 [] [])) [.t 80,.t 85]) 79 false,qg 87 (.pick (.t 79) (.c (.b true)) (.t 86)) 64 true,qo 88 (.pick (.t 64) (.t 87) (.c (.b false))),qm 89 88,qg 90 (.call .pure (.c (.fn 509 [] [])) []) 89 true,qo 91 (.pick (.t 89) (.t 90) (.c (.b false))),qm 8 91])
 .ret)))) }
def A_xlaw22_TermNorms:AFun:={ res:=[.t 6],body:=(.seq (.reg false [qo 6 (.mv (.c (.b false)))])
 (.seq (.reg false [qm 12 0,qo 13 (.call .pure (.c (.fn 10 [] [])) [.t 12,.c (.i .i64 100)]),qm 7 13])
 (.seq (.reg false [qm 14 7,qo 15 (.call .pure (.c (.fn 408 [] [])) [.t 14]),qm 16 7,qo 17 (.bin .add (.t 16) (.c (.i .i64 1))),qo 18 (.call .pure (.c (.fn 408 [] [])) [.t 17]),qm 8 15,qm 9 18])
 (.seq (.reg false [qo 10 (.mv (.c (.fn 387 [] [])))])
 (.seq (.reg false [qo 11 (.mv (.c (.fn 515 [] [])))])
 (.seq (.reg false [qm 19 11,qm 20 8,qm 21 10,qo 22 (.call .pure (.t 21) [.c (.i .i64 0)]),qo 23 (.call .pure (.t 19) [.c (.i .i64 1),.t 20,.t 22]),qm 24 8,qo 25 (.call .pure (.c (.fn 401 [] [])) [.t 23,.t 24]),qm 26 25,qg 27 (.mv (.t 11)) 26 true,qg 28 (.mv (.t 10)) 26 true,qg 29 (.call .pure (.t 28) [.c (.i .i64 0)]) 26 true,qg 30 (.mv (.t 8)) 26 true,qg 31 (.call .pure (.t 27) [.c (.i .i64 1),.t 29,.t 30]) 26 true,qg 32 (.mv (.t 8)) 26 true,qg 33 (.call .pure (.c (.fn 401 [] [])) [.t 31,.t 32]) 26 true,qo 34 (.pick (.t 26) (.t 33) (.c (.b false))),qm 35 34,qg 36 (.mv (.t 11)) 35 true,qg 37 (.mv (.t 8)) 35 true,qg 38 (.mv (.t 10)) 35 true,qg 39 (.call .pure (.t 38) [.c (.i .i64 0)]) 35 true,qg 40 (.call .pure (.t 36) [.c (.i .i64 2),.t 37,.t 39]) 35 true,qg 41 (.mv (.t 8)) 35 true,qg 42 (.call .pure (.c (.fn 401 [] [])) [.t 40,.t 41]) 35 true,qo 43 (.pick (.t 35) (.t 42) (.c (.b false))),qm 44 43,qg 45 (.mv (.t 11)) 44 true,qg 46 (.mv (.t 8)) 44 true,qg 47 (.mv (.t 10)) 44 true,qg 48 (.call .pure (.t 47) [.c (.i .i64 1)]) 44 true,qg 49 (.call .pure (.t 45) [.c (.i .i64 3),.t 46,.t 48]) 44 true,qg 50 (.mv (.t 8)) 44 true,qg 51 (.call .pure (.c (.fn 401 [] [])) [.t 49,.t 50]) 44 true,qo 52 (.pick (.t 44) (.t 51) (.c (.b false))),qm 53 52,qg 54 (.mv (.t 11)) 53 true,qg 55 (.mv (.t 10)) 53 true,qg 56 (.call .pure (.t 55) [.c (.i .i64 0)]) 53 true,qg 57 (.mv (.t 8)) 53 true,qg 58 (.call .pure (.t 54) [.c (.i .i64 3),.t 56,.t 57]) 53 true,qg 59 (.mv (.t 10)) 53 true,qg 60 (.call .pure (.t 59) [.c (.i .i64 0)]) 53 true,qg 61 (.call .pure (.c (.fn 401 [] [])) [.t 58,.t 60]) 53 true,qo 62 (.pick (.t 53) (.t 61) (.c (.b false))),qm 63 62,qg 64 (.mv (.t 11)) 63 true,qg 65 (.mv (.t 10)) 63 true,qg 66 (.call .pure (.t 65) [.c (.i .i64 0)]) 63 true,qg 67 (.mv (.t 8)) 63 true,qg 68 (.call .pure (.t 64) [.c (.i .i64 4),.t 66,.t 67]) 63 true,qg 69 (.mv (.t 8)) 63 true,qg 70 (.call .pure (.c (.fn 401 [] [])) [.t 68,.t 69]) 63 true,qo 71 (.pick (.t 63) (.t 70) (.c (.b false))),qm 72 71,qg 73 (.mv (.t 11)) 72 true,qg 74 (.mv (.t 8)) 72 true,qg 75 (.mv (.t 9)) 72 true,qg 76 (.call .pure (.t 73) [.c (.i .i64 1),.t 74,.t 75]) 72 true,qg 77 (.mv (.t 11)) 72 true,qg 78 (.mv (.t 9)) 72 true,qg 79 (.mv (.t 8)) 72 true,qg 80 (.call .pure (.t 77) [.c (.i .i64 1),.t 78,.t 79]) 72 true,qg 81 (.call .pure (.c (.fn 401 [] [])) [.t 76,.t 80]) 72 true,qo 82 (.pick (.t 72) (.t 81) (.c (.b false))),qm 83 82,qg 84 (.mv (.t 11)) 83 true,qg 85 (.mv (.t 8)) 83 true,qg 86 (.mv (.t 9)) 83 true,qg 87 (.call .pure (.t 84) [.c (.i .i64 5),.t 85,.t 86]) 83 true,qg 88 (.mv (.t 11)) 83 true,qg 89 (.mv (.t 9)) 83 true,qg 90 (.mv (.t 8)) 83 true,qg 91 (.call .pure (.t 88) [.c (.i .i64 5),.t 89,.t 90]) 83 true,qg 92 (.call .pure (.c (.fn 401 [] [])) [.t 87,.t 91]) 83 true,qo 93 (.pick (.t 83) (.t 92) (.c (.b false))),qm 94 93,qg 95 (.mv (.t 11)) 94 true,qg 96 (.mv (.t 8)) 94 true,qg 97 (.mv (.t 9)) 94 true,qg 98 (.call .pure (.t 95) [.c (.i .i64 2),.t 96,.t 97]) 94 true,qg 99 (.mv (.t 11)) 94 true,qg 100 (.mv (.t 9)) 94 true,qg 101 (.mv (.t 8)) 94 true,qg 102 (.call .pure (.t 99) [.c (.i .i64 2),.t 100,.t 101]) 94 true,qg 103 (.call .pure (.c (.fn 401 [] [])) [.t 98,.t 102]) 94 true,qg 104 (.un .not (.t 103)) 94 true,qo 105 (.pick (.t 94) (.t 104) (.c (.b false))),qm 106 105,qg 107 (.mv (.t 11)) 106 true,qg 108 (.mv (.t 8)) 106 true,qg 109 (.mv (.t 9)) 106 true,qg 110 (.call .pure (.t 107) [.c (.i .i64 6),.t 108,.t 109]) 106 true,qg 111 (.mv (.t 11)) 106 true,qg 112 (.mv (.t 9)) 106 true,qg 113 (.mv (.t 8)) 106 true,qg 114 (.call .pure (.t 111) [.c (.i .i64 6),.t 112,.t 113]) 106 true,qg 115 (.call .pure (.c (.fn 401 [] [])) [.t 110,.t 114]) 106 true,qg 116 (.un .not (.t 115)) 106 true,qo 117 (.pick (.t 106) (.t 116) (.c (.b false))),qm 118 117,qg 119 (.mv (.t 11)) 118 true,qg 120 (.mv (.t 10)) 118 true,qg 121 (.mv (.t 1)) 118 true,qg 122 (.call .pure (.t 120) [.t 121]) 118 true,qg 123 (.mv (.t 10)) 118 true,qg 124 (.mv (.t 2)) 118 true,qg 125 (.call .pure (.t 123) [.t 124]) 118 true,qg 126 (.call .pure (.t 119) [.c (.i .i64 1),.t 122,.t 125]) 118 true,qg 127 (.mv (.t 10)) 118 true,qg 128 (.mv (.t 1)) 118 true,qg 129 (.mv (.t 2)) 118 true,qg 130 (.bin .add (.t 128) (.t 129)) 118 true,qg 131 (.call .pure (.t 127) [.t 130]) 118 true,qg 132 (.call .pure (.c (.fn 401 [] [])) [.t 126,.t 131]) 118 true,qo 133 (.pick (.t 118) (.t 132) (.c (.b false))),qm 134 133,qg 135 (.mv (.t 11)) 134 true,qg 136 (.mv (.t 10)) 134 true,qg 137 (.mv (.t 1)) 134 true,qg 138 (.call .pure (.t 136) [.t 137]) 134 true,qg 139 (.mv (.t 10)) 134 true,qg 140 (.mv (.t 2)) 134 true,qg 141 (.call .pure (.t 139) [.t 140]) 134 true,qg 142 (.call .pure (.t 135) [.c (.i .i64 3),.t 138,.t 141]) 134 true,qg 143 (.mv (.t 10)) 134 true,qg 144 (.mv (.t 1)) 134 true,qg 145 (.mv (.t 2)) 134 true,qg 146 (.bin .mul (.t 144) (.t 145)) 134 true,qg 147 (.call .pure (.t 143) [.t 146]) 134 true,qg 148 (.call .pure (.c (.fn 401 [] [])) [.t 142,.t 147]) 134 true,qo 149 (.pick (.t 134) (.t 148) (.c (.b false))),qm 150 149,qg 151 (.mv (.t 11)) 150 true,qg 152 (.mv (.t 8)) 150 true,qg 153 (.call .pure (.t 151) [.c (.i .i64 1),.c (.nilp),.t 152]) 150 true,qg 154 (.mv (.t 8)) 150 true,qg 155 (.call .pure (.c (.fn 401 [] [])) [.t 153,.t 154]) 150 true,qo 156 (.pick (.t 150) (.t 155) (.c (.b false))),qm 157 156,qg 158 (.mv (.t 8)) 157 true,qg 159 (.mv (.t 9)) 157 true,qg 160 (.call .pure (.c (.fn 401 [] [])) [.t 158,.t 159]) 157 true,qg 161 (.un .not (.t 160)) 157 true,qo 162 (.pick (.t 157) (.t 161) (.c (.b false))),qm 163 162,qg 164 (.mv (.t 11)) 163 true,qg 165 (.mv (.t 8)) 163 true,qg 166 (.mv (.t 9)) 163 true,qg 167 (.call .pure (.t 164) [.c (.i .i64 2),.t 165,.t 166]) 163 true,qg 168 (.call .pure (.c (.fn 384 [] [])) [.t 167]) 163 true,qg 169 (.bin .eql (.t 168) (.c (.i .i64 3))) 163 true,qo 170 (.pick (.t 163) (.t 169) (.c (.b false))),qm 171 170,qg 172 (.call .pure (.c (.fn 509 [] [])) []) 171 true,qo 173 (.pick (.t 171) (.t 172) (.c (.b false))),qm 6 173])
 .ret)))))) }
def A_xlaw22_TermSums:AFun:={ res:=[.t 4],body:=(.seq (.reg false [qo 4 (.mv (.c (.b false)))])
 (.seq (.reg false [qm 10 0,qo 11 (.call .pure (.c (.fn 10 [] [])) [.t 10,.c (.i .i64 9)]),qo 12 (.bin .add (.c (.i .i64 1)) (.t 11)),qm 5 12])
 (.seq (.reg false [qo 13 (.call .pure (.c (.fn 408 [] [])) [.c (.i .i64 0)]),qm 6 13])
 (.seq (.reg false [qo 7 (.mv (.c (.s ⟨#[105,48]⟩))),qo 8 (.mv (.c (.i .i64 0)))])
 (.seq (.seq (.reg false [qm 14 1,qo 15 (.len (.t 14)),qo 16 (.bin .gtr (.t 15) (.c (.i .i64 0)))])
 (.cond (.t 16) (.reg false [qm 17 1,qo 18 (.ia 1 (.t 17) (.c (.i .i64 0))),qo 19 (.ld none (.t 18)),qm 8 19])
 .skip))
 (.seq (.seq (.reg false [qo 9 (.mv (.c (.i .i64 1)))])
 (.blk 0 (.loop (.seq (.seq (.reg false [qm 20 9,qm 21 5,qo 22 (.bin .lss (.t 20) (.t 21))])
 (.cond (.t 22) .skip
 (.ext 0)))
 (.seq (.blk 1 (.seq (.reg false [qm 25 6,qm 26 9,qo 27 (.call .pure (.c (.fn 408 [] [])) [.t 26]),qo 28 (.call .pure (.c (.fn 406 [] [])) [.c (.i .i64 2),.t 25,.t 27]),qm 6 28])
 (.seq (.reg false [qm 29 7,qo 30 (.bin .add (.c (.s ⟨#[40]⟩)) (.t 29)),qo 31 (.bin .add (.t 30) (.c (.s ⟨#[32,45,32,105]⟩))),qm 32 9,qo 33 (.call .pure (.c (.fn 516 [] [])) [.t 32]),qo 34 (.bin .add (.t 31) (.t 33)),qo 35 (.bin .add (.t 34) (.c (.s ⟨#[41]⟩))),qm 7 35])
 (.seq (.reg false [qm 36 9,qm 37 1,qo 38 (.len (.t 37)),qo 39 (.bin .lss (.t 36) (.t 38))])
 (.cond (.t 39) (.reg false [qm 40 8,qm 41 1,qm 42 9,qo 43 (.ia 1 (.t 41) (.t 42)),qo 44 (.ld none (.t 43)),qo 45 (.bin .sub (.t 40) (.t 44)),qm 8 45])
 .skip)))))
 (.reg false [qm 23 9,qo 24 (.bin .add (.t 23) (.c (.i .i64 1))),qm 9 24]))))))
 (.seq (.reg false [qm 46 6,qo 47 (.call .pure (.c (.fn 389 [] [])) [.t 46]),qm 48 7,qo 49 (.bin .eql (.t 47) (.t 48)),qm 50 49,qg 51 (.mv (.t 6)) 50 true,qg 52 (.call .pure (.c (.fn 384 [] [])) [.t 51]) 50 true,qg 53 (.mv (.t 5)) 50 true,qg 54 (.bin .mul (.c (.i .i64 2)) (.t 53)) 50 true,qg 55 (.bin .sub (.t 54) (.c (.i .i64 1))) 50 true,qg 56 (.bin .eql (.t 52) (.t 55)) 50 true,qo 57 (.pick (.t 50) (.t 56) (.c (.b false))),qm 58 57,qg 59 (.mv (.t 6)) 58 true,qg 60 (.mv (.t 1)) 58 true,qg 61 (.call .pure (.c (.fn 513 [] [])) [.t 59,.t 60]) 58 true,qg 62 (.mv (.t 8)) 58 true,qg 63 (.bin .eql (.t 61) (.t 62)) 58 true,qo 64 (.pick (.t 58) (.t 63) (.c (.b false))),qm 65 64,qg 66 (.call .pure (.c (.fn 509 [] [])) []) 65 true,qo 67 (.pick (.t 65) (.t 66) (.c (.b false))),qm 4 67])
 .ret))))))) }
def A_xlaw22_TermOf:AFun:={ res:=[.t 4],body:=(.seq (.reg false [qo 4 (.mv (.c (.b false)))])
 (.seq (.seq (.reg false [qm 10 0,qo 11 (.len (.t 10)),qo 12 (.bin .gtr (.t 11) (.c (.i .i64 20))),qm 13 12,qg 14 (.mv (.t 1)) 13 false,qg 15 (.len (.t 14)) 13 false,qg 16 (.bin .gtr (.t 15) (.c (.i .i64 20))) 13 false,qo 17 (.pick (.t 13) (.c (.b true)) (.t 16))])
 (.cond (.t 17) (.seq (.reg false [qo 18 (.call .pure (.c (.fn 509 [] [])) []),qm 4 18])
 .ret)
 .skip))
 (.seq (.reg false [qm 19 0,qo 20 (.call .pure (.c (.fn 517 [] [])) [.t 19,.c (.i .i64 9)]),qm 5 20])
 (.seq (.reg false [qo 6 (.mv (.c (.sl [] 0 .rig)))])
 (.seq (.reg false [qo 7 (.mv (.c (.sl [] 0 .rig)))])
 (.seq (.seq (.reg false [qo 8 (.mv (.c (.i .i64 0)))])
 (.blk 0 (.loop (.seq (.seq (.reg false [qm 21 8,qm 22 1,qo 23 (.len (.t 22)),qo 24 (.bin .lss (.t 21) (.t 23)),qm 25 24,qg 26 (.mv (.t 8)) 25 true,qg 27 (.bin .lss (.t 26) (.c (.i .i64 8))) 25 true,qo 28 (.pick (.t 25) (.t 27) (.c (.b false)))])
 (.cond (.t 28) .skip
 (.ext 0)))
 (.seq (.blk 1 (.reg true [qm 31 6,qm 32 8,qo 33 (.call .pure (.c (.fn 408 [] [])) [.t 32]),qo 34 (.bsl true 1 ([.nilp]) [(0,1,.t 33)]),qo 35 (.app 1 8 (.t 31) (.t 34)),qm 36 7,qm 37 1,qm 38 8,qo 39 (.ia 1 (.t 37) (.t 38)),qo 40 (.ld none (.t 39)),qo 41 (.bsl true 1 ([.i .i64 0]) [(0,1,.t 40)]),qp 42 (.app 1 8 (.t 36) (.t 41)) [4],qm 6 35,qm 7 42]))
 (.reg false [qm 29 8,qo 30 (.bin .add (.t 29) (.c (.i .i64 1))),qm 8 30]))))))
 (.seq (.reg false [qm 43 5,qm 44 6,qo 45 (.call .pure (.c (.fn 407 [] [])) [.t 43,.t 44]),qm 9 45])
 (.seq (.reg false [qm 46 9,qm 47 1,qo 48 (.call .pure (.c (.fn 513 [] [])) [.t 46,.t 47]),qm 49 5,qm 50 7,qo 51 (.call .pure (.c (.fn 115 [] [])) [.t 49,.t 50]),qo 52 (.bin .eql (.t 48) (.t 51)),qm 53 52,qg 54 (.mv (.t 9)) 53 true,qg 55 (.call .pure (.c (.fn 384 [] [])) [.t 54]) 53 true,qg 56 (.mv (.t 5)) 53 true,qg 57 (.len (.t 56)) 53 true,qg 58 (.bin .leq (.t 55) (.t 57)) 53 true,qo 59 (.pick (.t 53) (.t 58) (.c (.b false))),qm 60 59,qg 61 (.call .pure (.c (.fn 509 [] [])) []) 60 true,qo 62 (.pick (.t 60) (.t 61) (.c (.b false))),qm 4 62])
 .ret)))))))) }
def A_xlaw22_awake:AFun:={ res:=[.t 0],body:=(.seq (.reg false [qo 0 (.mv (.c (.b false)))])
 (.seq (.reg false [qo 2 (.call .pure (.c (.fn 408 [] [])) [.c (.i .i64 0)]),qo 3 (.call .pure (.c (.fn 387 [] [])) [.c (.i .i64 0)]),qo 4 (.call .pure (.c (.fn 406 [] [])) [.c (.i .i64 1),.t 2,.t 3]),qm 1 4])
 (.seq (.reg false [qm 5 1,qo 6 (.call .pure (.c (.fn 389 [] [])) [.t 5]),qo 7 (.bin .eql (.t 6) (.c (.s ⟨#[105,48]⟩))),qm 8 7,qg 9 (.mv (.t 1)) 8 true,qg 10 (.bsl true 1 ([.i .i64 0]) [(0,1,.c (.i .i64 7))]) 8 true,qg 11 (.call .pure (.c (.fn 513 [] [])) [.t 9,.t 10]) 8 true,qg 12 (.bin .eql (.t 11) (.c (.i .i64 7))) 8 true,qo 13 (.pick (.t 8) (.t 12) (.c (.b false))),qm 14 13,qg 15 (.mv (.t 1)) 14 true,qg 16 (.call .pure (.c (.fn 384 [] [])) [.t 15]) 14 true,qg 17 (.bin .eql (.t 16) (.c (.i .i64 1))) 14 true,qo 18 (.pick (.t 14) (.t 17) (.c (.b false))),qm 19 18,qg 20 (.mv (.t 1)) 19 true,qg 21 (.call .pure (.c (.fn 408 [] [])) [.c (.i .i64 0)]) 19 true,qg 22 (.call .pure (.c (.fn 401 [] [])) [.t 20,.t 21]) 19 true,qo 23 (.pick (.t 19) (.t 22) (.c (.b false))),qm 24 23,qg 25 (.call .pure (.c (.fn 389 [] [])) [.c (.nilp)]) 24 true,qg 26 (.bin .eql (.t 25) (.c (.s ⟨#[48]⟩))) 24 true,qo 27 (.pick (.t 24) (.t 26) (.c (.b false))),qm 0 27])
 .ret))) }
def A_xlaw22_made:AFun:={ res:=[.t 6,.t 7,.t 8],body:=(.seq (.reg false [qo 6 (.mv (.c (.nilp))),qo 7 (.mv (.c (.nilp))),qo 8 (.mv (.c (.i .i64 0)))])
 (.seq (.seq (.reg false [qm 16 1,qm 17 0,qo 18 (.len (.t 17)),qo 19 (.bin .geq (.t 16) (.t 18))])
 (.cond (.t 19) (.seq (.reg false [qm 20 1,qo 6 (.mv (.c (.nilp))),qo 7 (.mv (.c (.nilp))),qm 8 20])
 .ret)
 .skip))
 (.seq (.reg false [qm 21 0,qm 22 1,qo 23 (.ia 1 (.t 21) (.t 22)),qo 24 (.ld none (.t 23)),qo 25 (.call .pure (.c (.fn 10 [] [])) [.t 24,.c (.i .i64 1073741824)]),qm 9 25])
 (.seq (.blk 0 (.seq (.reg false [qm 27 9,qo 28 (.bin .rem (.t 27) (.c (.i .i64 4))),qo 29 (.bin .eql (.t 28) (.c (.i .i64 0))),qm 30 29,qg 31 (.mv (.t 2)) 30 false,qg 32 (.bin .eql (.t 31) (.c (.i .i64 0))) 30 false,qo 33 (.pick (.t 30) (.c (.b true)) (.t 32)),qm 26 33])
 (.cond (.t 26) (.seq (.reg false [qm 34 9,qo 35 (.bin .quo (.t 34) (.c (.i .i64 4))),qo 36 (.bin .rem (.t 35) (.c (.i .i64 4))),qo 37 (.call .pure (.c (.fn 387 [] [])) [.t 36]),qm 38 9,qo 39 (.bin .quo (.t 38) (.c (.i .i64 4))),qo 40 (.bin .rem (.t 39) (.c (.i .i64 4))),qo 41 (.call .pure (.c (.fn 518 [] [])) [.t 40]),qm 42 1,qo 43 (.bin .add (.t 42) (.c (.i .i64 1))),qm 6 37,qm 7 41,qm 8 43])
 .ret)
 (.seq (.reg false [qm 45 9,qo 46 (.bin .rem (.t 45) (.c (.i .i64 4))),qo 47 (.bin .eql (.t 46) (.c (.i .i64 1))),qm 44 47])
 (.cond (.t 44) (.seq (.reg false [qm 48 9,qo 49 (.bin .quo (.t 48) (.c (.i .i64 4))),qo 50 (.bin .rem (.t 49) (.c (.i .i64 3))),qo 51 (.call .pure (.c (.fn 408 [] [])) [.t 50]),qm 52 9,qo 53 (.bin .quo (.t 52) (.c (.i .i64 4))),qo 54 (.bin .rem (.t 53) (.c (.i .i64 3))),qo 55 (.call .pure (.c (.fn 519 [] [])) [.t 54]),qm 56 1,qo 57 (.bin .add (.t 56) (.c (.i .i64 1))),qm 6 51,qm 7 55,qm 8 57])
 .ret)
 .skip)))))
 (.seq (.reg false [qm 59 0,qm 60 1,qo 61 (.bin .add (.t 60) (.c (.i .i64 1))),qm 62 2,qo 63 (.bin .sub (.t 62) (.c (.i .i64 1))),qo 64 (.call .pure (.c (.fn 510 [] [])) [.t 59,.t 61,.t 63]),qm 58 64,qo 65 (.ext 0 (.t 58)),qo 66 (.ext 1 (.t 58)),qo 67 (.ext 2 (.t 58)),qm 10 65,qm 11 66,qm 12 67])
 (.seq (.reg false [qm 69 0,qm 70 12,qm 71 2,qo 72 (.bin .sub (.t 71) (.c (.i .i64 1))),qo 73 (.call .pure (.c (.fn 510 [] [])) [.t 69,.t 70,.t 72]),qm 68 73,qo 74 (.ext 0 (.t 68)),qo 75 (.ext 1 (.t 68)),qo 76 (.ext 2 (.t 68)),qm 13 74,qm 14 75,qm 15 76])
 (.seq (.reg false [qm 77 9,qo 78 (.bin .quo (.t 77) (.c (.i .i64 4))),qo 79 (.bin .rem (.t 78) (.c (.i .i64 8))),qm 80 10,qm 81 13,qo 82 (.call .pure (.c (.fn 406 [] [])) [.t 79,.t 80,.t 81]),qm 83 9,qo 84 (.bin .quo (.t 83) (.c (.i .i64 4))),qo 85 (.bin .rem (.t 84) (.c (.i .i64 8))),qm 86 11,qm 87 14,qo 88 (.call .pure (.c (.fn 520 [] [])) [.t 85,.t 86,.t 87]),qm 89 15,qm 6 82,qm 7 88,qm 8 89])
 .ret))))))) }
def A_xlaw22_TermNorms_1:AFun:={ res:=[.t 6],body:=(.seq (.reg false [qo 6 (.mv (.c (.nilp)))])
 (.seq (.reg false [qm 7 0,qm 8 1,qm 9 2,qo 10 (.call .pure (.c (.fn 406 [] [])) [.t 7,.t 8,.t 9]),qm 6 10])
 .ret)) }
end Go.Ab
end
section
set_option maxRecDepth 100000
set_option linter.unusedVariables false
namespace Go.Proofs.YtmlfhgdpcjhnpaaDoor
open Go.Ab
def tab:List (Nat × Nat × AFun):=[(10,24,A_xlaw00_Place),
 (108,47,A_xlaw00_num),
 (109,48,A_xref02_Check),
 (115,29,A_xref02_Eval),
 (123,46,A_xlaw00_reg),
 (124,45,A_xlaw00_op),
 (125,60,A_xref02_word),
 (128,22,A_xref02_Do),
 (308,69,A_expr_Check),
 (331,82,A_expr_may),
 (358,59,A_expr_Eval),
 (361,70,A_expr_ops),
 (362,83,A_expr_ops_1),
 (363,84,A_expr_ops_2),
 (364,85,A_expr_ops_3),
 (365,86,A_expr_ops_4),
 (366,87,A_expr_ops_5),
 (367,88,A_expr_one),
 (368,89,A_expr_ops_6),
 (384,15,A_term_Size),
 (387,20,A_term_Num),
 (389,13,A_term_Text),
 (390,42,A_term_Size_1),
 (391,37,A_term_known),
 (400,38,A_term_sign),
 (401,23,A_term_Same),
 (406,19,A_term_Make),
 (407,28,A_term_Of),
 (408,21,A_term_Read),
 (410,43,A_term_value),
 (411,44,A_term_isNum),
 (493,41,A_xref02_Digits),
 (504,3,A_xlaw22_TermNumbers),
 (505,4,A_xlaw22_TermMakes),
 (506,5,A_xlaw22_TermNorms),
 (507,6,A_xlaw22_TermSums),
 (508,7,A_xlaw22_TermOf),
 (509,11,A_xlaw22_awake),
 (510,12,A_xlaw22_made),
 (511,14,A_xref22_Text),
 (512,16,A_xref22_Size),
 (513,17,A_term_Eval),
 (514,18,A_xref22_Eval),
 (515,25,A_xlaw22_TermNorms_1),
 (516,26,A_xlaw00_Digits),
 (517,27,A_xlaw00_Wide),
 (518,34,A_xref22_Num),
 (519,35,A_xref22_Read),
 (520,36,A_xref22_Make),
 (521,40,A_xref22_Fix),
 (522,57,A_xref22_num)]
def num (f:Nat):Nat:=((tab.find? (fun r => r.1 == f)).map (·.2.1)).getD ((([(413,39),(1000000,1)]:List (Nat × Nat)).find? (fun r => r.1 == f)).map (·.2) |>.getD 0)
def funs:Funs:=fun f => match tab.find? (fun r => r.1 == f) with
 | some r => some r.2.2
 | none => if f == 413 then some A_strconv_Itoa else none
theorem c10:funB Tryd.prog num Tryd.f24 A_xlaw00_Place = true:=by kernel_rfl
theorem c108:funB Tryd.prog num Tryd.f47 A_xlaw00_num = true:=by kernel_rfl
theorem c109:funB Tryd.prog num Tryd.f48 A_xref02_Check = true:=by kernel_rfl
theorem c115:funB Tryd.prog num Tryd.f29 A_xref02_Eval = true:=by kernel_rfl
theorem c123:funB Tryd.prog num Tryd.f46 A_xlaw00_reg = true:=by kernel_rfl
theorem c124:funB Tryd.prog num Tryd.f45 A_xlaw00_op = true:=by kernel_rfl
theorem c125:funB Tryd.prog num Tryd.f60 A_xref02_word = true:=by kernel_rfl
theorem c128:funB Tryd.prog num Tryd.f22 A_xref02_Do = true:=by kernel_rfl
theorem c308:funB Tryd.prog num Tryd.f69 A_expr_Check = true:=by kernel_rfl
theorem c331:funB Tryd.prog num Tryd.f82 A_expr_may = true:=by kernel_rfl
theorem c358:funB Tryd.prog num Tryd.f59 A_expr_Eval = true:=by kernel_rfl
theorem c361:funB Tryd.prog num Tryd.f70 A_expr_ops = true:=by kernel_rfl
theorem c362:funB Tryd.prog num Tryd.f83 A_expr_ops_1 = true:=by kernel_rfl
theorem c363:funB Tryd.prog num Tryd.f84 A_expr_ops_2 = true:=by kernel_rfl
theorem c364:funB Tryd.prog num Tryd.f85 A_expr_ops_3 = true:=by kernel_rfl
theorem c365:funB Tryd.prog num Tryd.f86 A_expr_ops_4 = true:=by kernel_rfl
theorem c366:funB Tryd.prog num Tryd.f87 A_expr_ops_5 = true:=by kernel_rfl
theorem c367:funB Tryd.prog num Tryd.f88 A_expr_one = true:=by kernel_rfl
theorem c368:funB Tryd.prog num Tryd.f89 A_expr_ops_6 = true:=by kernel_rfl
theorem c384:funB Tryd.prog num Tryd.f15 A_term_Size = true:=by kernel_rfl
theorem c387:funB Tryd.prog num Tryd.f20 A_term_Num = true:=by kernel_rfl
theorem c389:funB Tryd.prog num Tryd.f13 A_term_Text = true:=by kernel_rfl
theorem c390:funB Tryd.prog num Tryd.f42 A_term_Size_1 = true:=by kernel_rfl
theorem c391:funB Tryd.prog num Tryd.f37 A_term_known = true:=by kernel_rfl
theorem c400:funB Tryd.prog num Tryd.f38 A_term_sign = true:=by kernel_rfl
theorem c401:funB Tryd.prog num Tryd.f23 A_term_Same = true:=by kernel_rfl
theorem c406:funB Tryd.prog num Tryd.f19 A_term_Make = true:=by kernel_rfl
theorem c407:funB Tryd.prog num Tryd.f28 A_term_Of = true:=by kernel_rfl
theorem c408:funB Tryd.prog num Tryd.f21 A_term_Read = true:=by kernel_rfl
theorem c410:funB Tryd.prog num Tryd.f43 A_term_value = true:=by kernel_rfl
theorem c411:funB Tryd.prog num Tryd.f44 A_term_isNum = true:=by kernel_rfl
theorem c493:funB Tryd.prog num Tryd.f41 A_xref02_Digits = true:=by kernel_rfl
theorem c504:funB Tryd.prog num Tryd.f3 A_xlaw22_TermNumbers = true:=by kernel_rfl
theorem c505:funB Tryd.prog num Tryd.f4 A_xlaw22_TermMakes = true:=by kernel_rfl
theorem c506:funB Tryd.prog num Tryd.f5 A_xlaw22_TermNorms = true:=by kernel_rfl
theorem c507:funB Tryd.prog num Tryd.f6 A_xlaw22_TermSums = true:=by kernel_rfl
theorem c508:funB Tryd.prog num Tryd.f7 A_xlaw22_TermOf = true:=by kernel_rfl
theorem c509:funB Tryd.prog num Tryd.f11 A_xlaw22_awake = true:=by kernel_rfl
theorem c510:funB Tryd.prog num Tryd.f12 A_xlaw22_made = true:=by kernel_rfl
theorem c511:funB Tryd.prog num Tryd.f14 A_xref22_Text = true:=by kernel_rfl
theorem c512:funB Tryd.prog num Tryd.f16 A_xref22_Size = true:=by kernel_rfl
theorem c513:funB Tryd.prog num Tryd.f17 A_term_Eval = true:=by kernel_rfl
theorem c514:funB Tryd.prog num Tryd.f18 A_xref22_Eval = true:=by kernel_rfl
theorem c515:funB Tryd.prog num Tryd.f25 A_xlaw22_TermNorms_1 = true:=by kernel_rfl
theorem c516:funB Tryd.prog num Tryd.f26 A_xlaw00_Digits = true:=by kernel_rfl
theorem c517:funB Tryd.prog num Tryd.f27 A_xlaw00_Wide = true:=by kernel_rfl
theorem c518:funB Tryd.prog num Tryd.f34 A_xref22_Num = true:=by kernel_rfl
theorem c519:funB Tryd.prog num Tryd.f35 A_xref22_Read = true:=by kernel_rfl
theorem c520:funB Tryd.prog num Tryd.f36 A_xref22_Make = true:=by kernel_rfl
theorem c521:funB Tryd.prog num Tryd.f40 A_xref22_Fix = true:=by kernel_rfl
theorem c522:funB Tryd.prog num Tryd.f57 A_xref22_num = true:=by kernel_rfl
def Good (r:Nat × Nat × AFun):Prop:=num r.1 = r.2.1∧∃ fn,Tryd.prog.funcs[r.2.1]? = some fn∧funB Tryd.prog num fn r.2.2 = true
theorem good:∀ r∈tab,Good r:=by
 intro r hr
 unfold tab at hr
 rcases List.mem_cons.1 hr with rfl | hr
 ·exact ⟨by kernel_rfl,_,Tryd.func24,c10⟩
 rcases List.mem_cons.1 hr with rfl | hr
 ·exact ⟨by kernel_rfl,_,Tryd.func47,c108⟩
 rcases List.mem_cons.1 hr with rfl | hr
 ·exact ⟨by kernel_rfl,_,Tryd.func48,c109⟩
 rcases List.mem_cons.1 hr with rfl | hr
 ·exact ⟨by kernel_rfl,_,Tryd.func29,c115⟩
 rcases List.mem_cons.1 hr with rfl | hr
 ·exact ⟨by kernel_rfl,_,Tryd.func46,c123⟩
 rcases List.mem_cons.1 hr with rfl | hr
 ·exact ⟨by kernel_rfl,_,Tryd.func45,c124⟩
 rcases List.mem_cons.1 hr with rfl | hr
 ·exact ⟨by kernel_rfl,_,Tryd.func60,c125⟩
 rcases List.mem_cons.1 hr with rfl | hr
 ·exact ⟨by kernel_rfl,_,Tryd.func22,c128⟩
 rcases List.mem_cons.1 hr with rfl | hr
 ·exact ⟨by kernel_rfl,_,Tryd.func69,c308⟩
 rcases List.mem_cons.1 hr with rfl | hr
 ·exact ⟨by kernel_rfl,_,Tryd.func82,c331⟩
 rcases List.mem_cons.1 hr with rfl | hr
 ·exact ⟨by kernel_rfl,_,Tryd.func59,c358⟩
 rcases List.mem_cons.1 hr with rfl | hr
 ·exact ⟨by kernel_rfl,_,Tryd.func70,c361⟩
 rcases List.mem_cons.1 hr with rfl | hr
 ·exact ⟨by kernel_rfl,_,Tryd.func83,c362⟩
 rcases List.mem_cons.1 hr with rfl | hr
 ·exact ⟨by kernel_rfl,_,Tryd.func84,c363⟩
 rcases List.mem_cons.1 hr with rfl | hr
 ·exact ⟨by kernel_rfl,_,Tryd.func85,c364⟩
 rcases List.mem_cons.1 hr with rfl | hr
 ·exact ⟨by kernel_rfl,_,Tryd.func86,c365⟩
 rcases List.mem_cons.1 hr with rfl | hr
 ·exact ⟨by kernel_rfl,_,Tryd.func87,c366⟩
 rcases List.mem_cons.1 hr with rfl | hr
 ·exact ⟨by kernel_rfl,_,Tryd.func88,c367⟩
 rcases List.mem_cons.1 hr with rfl | hr
 ·exact ⟨by kernel_rfl,_,Tryd.func89,c368⟩
 rcases List.mem_cons.1 hr with rfl | hr
 ·exact ⟨by kernel_rfl,_,Tryd.func15,c384⟩
 rcases List.mem_cons.1 hr with rfl | hr
 ·exact ⟨by kernel_rfl,_,Tryd.func20,c387⟩
 rcases List.mem_cons.1 hr with rfl | hr
 ·exact ⟨by kernel_rfl,_,Tryd.func13,c389⟩
 rcases List.mem_cons.1 hr with rfl | hr
 ·exact ⟨by kernel_rfl,_,Tryd.func42,c390⟩
 rcases List.mem_cons.1 hr with rfl | hr
 ·exact ⟨by kernel_rfl,_,Tryd.func37,c391⟩
 rcases List.mem_cons.1 hr with rfl | hr
 ·exact ⟨by kernel_rfl,_,Tryd.func38,c400⟩
 rcases List.mem_cons.1 hr with rfl | hr
 ·exact ⟨by kernel_rfl,_,Tryd.func23,c401⟩
 rcases List.mem_cons.1 hr with rfl | hr
 ·exact ⟨by kernel_rfl,_,Tryd.func19,c406⟩
 rcases List.mem_cons.1 hr with rfl | hr
 ·exact ⟨by kernel_rfl,_,Tryd.func28,c407⟩
 rcases List.mem_cons.1 hr with rfl | hr
 ·exact ⟨by kernel_rfl,_,Tryd.func21,c408⟩
 rcases List.mem_cons.1 hr with rfl | hr
 ·exact ⟨by kernel_rfl,_,Tryd.func43,c410⟩
 rcases List.mem_cons.1 hr with rfl | hr
 ·exact ⟨by kernel_rfl,_,Tryd.func44,c411⟩
 rcases List.mem_cons.1 hr with rfl | hr
 ·exact ⟨by kernel_rfl,_,Tryd.func41,c493⟩
 rcases List.mem_cons.1 hr with rfl | hr
 ·exact ⟨by kernel_rfl,_,Tryd.func3,c504⟩
 rcases List.mem_cons.1 hr with rfl | hr
 ·exact ⟨by kernel_rfl,_,Tryd.func4,c505⟩
 rcases List.mem_cons.1 hr with rfl | hr
 ·exact ⟨by kernel_rfl,_,Tryd.func5,c506⟩
 rcases List.mem_cons.1 hr with rfl | hr
 ·exact ⟨by kernel_rfl,_,Tryd.func6,c507⟩
 rcases List.mem_cons.1 hr with rfl | hr
 ·exact ⟨by kernel_rfl,_,Tryd.func7,c508⟩
 rcases List.mem_cons.1 hr with rfl | hr
 ·exact ⟨by kernel_rfl,_,Tryd.func11,c509⟩
 rcases List.mem_cons.1 hr with rfl | hr
 ·exact ⟨by kernel_rfl,_,Tryd.func12,c510⟩
 rcases List.mem_cons.1 hr with rfl | hr
 ·exact ⟨by kernel_rfl,_,Tryd.func14,c511⟩
 rcases List.mem_cons.1 hr with rfl | hr
 ·exact ⟨by kernel_rfl,_,Tryd.func16,c512⟩
 rcases List.mem_cons.1 hr with rfl | hr
 ·exact ⟨by kernel_rfl,_,Tryd.func17,c513⟩
 rcases List.mem_cons.1 hr with rfl | hr
 ·exact ⟨by kernel_rfl,_,Tryd.func18,c514⟩
 rcases List.mem_cons.1 hr with rfl | hr
 ·exact ⟨by kernel_rfl,_,Tryd.func25,c515⟩
 rcases List.mem_cons.1 hr with rfl | hr
 ·exact ⟨by kernel_rfl,_,Tryd.func26,c516⟩
 rcases List.mem_cons.1 hr with rfl | hr
 ·exact ⟨by kernel_rfl,_,Tryd.func27,c517⟩
 rcases List.mem_cons.1 hr with rfl | hr
 ·exact ⟨by kernel_rfl,_,Tryd.func34,c518⟩
 rcases List.mem_cons.1 hr with rfl | hr
 ·exact ⟨by kernel_rfl,_,Tryd.func35,c519⟩
 rcases List.mem_cons.1 hr with rfl | hr
 ·exact ⟨by kernel_rfl,_,Tryd.func36,c520⟩
 rcases List.mem_cons.1 hr with rfl | hr
 ·exact ⟨by kernel_rfl,_,Tryd.func40,c521⟩
 rcases List.mem_cons.1 hr with rfl | hr
 ·exact ⟨by kernel_rfl,_,Tryd.func57,c522⟩
 cases hr
theorem table:Table Tryd.prog num funs:=by
 intro f A h
 unfold funs at h
 cases hf:tab.find? (fun r => r.1 == f) with
 | none =>
   rw[hf] at h
   simp only at h
   by_cases c413:(f == 413) = true
   ·rw[if_pos c413] at h
    cases h
    have:f = 413:=by simpa using c413
    subst this
    exact .inr (primItoa (by kernel_rfl) (by kernel_rfl))
   rw[if_neg c413] at h
   cases h
 | some r =>
   rw[hf] at h;cases h
   have h1:=List.find?_some hf
   simp only[beq_iff_eq] at h1
   subst h1
   obtain ⟨h2,h3⟩:=good r (List.mem_of_find?_eq_some hf)
   rw[h2];exact .inl h3
end Go.Proofs.YtmlfhgdpcjhnpaaDoor
end
section
set_option linter.unusedVariables false
set_option linter.unusedSimpArgs false
namespace Go.Ab
variable {F:Funs}
structure TermF (F:Funs):Prop where
 e:ExprF F
 size:F 384 = some A_term_Size
 num:F 387 = some A_term_Num
 text:F 389 = some A_term_Text
 size1:F 390 = some A_term_Size_1
 known:F 391 = some A_term_known
 sign:F 400 = some A_term_sign
 same:F 401 = some A_term_Same
 make:F 406 = some A_term_Make
 read:F 408 = some A_term_Read
 value:F 410 = some A_term_value
 isNum:F 411 = some A_term_isNum
 itoa:F 413 = some A_strconv_Itoa
def kT:T→Int
 | .num _ => 1
 | .rd _ => 2
 | .op _ _ _ => 3
def vT:T→Int
 | .num v => v
 | .rd v => v
 | .op o _ _ => o
def lT:T→AV
 | .op _ l _ => tP l
 | _ => .nilp
def rT:T→AV
 | .op _ _ r => tP r
 | _ => .nilp
theorem tC_eq (t:T):tC t = [.i .i64 (kT t),.i .i64 (vT t),lT t,rT t]:=by cases t<;>rfl
theorem tP_eq (t:T):tP t = .ptr [.i .i64 (kT t),.i .i64 (vT t),lT t,rT t]:=by rw[tP,tC_eq]
theorem sp_tnum (A:TermF F) (v:Int):pureS F 387 [.i .i64 v] = some (tP (.num v)):=by
 refine pure_of A.num ?_
 simp (disch:=omega) only[A_term_Num,wp,qa,qb,qc]
 rfl
theorem sp_tread (A:TermF F) (v:Int):pureS F 408 [.i .i64 v] = some (tP (.rd v)):=by
 refine pure_of A.read ?_
 simp (disch:=omega) only[A_term_Read,wp,qa,qb,qc]
 rfl
theorem sp_known (A:TermF F) (x:Option T):pureS F 391 [oP x] = some (tP (fixT x)):=by
 refine pure_of A.known ?_
 have hz:=sp_tnum A 0
 rw[tP_eq] at hz
 cases x with
 | none =>
   simp (disch:=omega) only[A_term_known,wp,qa,qb,qc,oP,fixT,tP_eq,hz]
   try rfl
 | some t =>
   simp (disch:=omega) only[A_term_known,wp,qa,qb,qc,oP,fixT,tP_eq]
   try rfl
theorem sp_isNum (A:TermF F) (t:T) (v:Int):pureS F 411 [tP t,.i .i64 v] = some (.b (kT t == 1 && vT t == v)):=by
 refine pure_of A.isNum ?_
 cases c:(kT t == 1) with
 | false => simp (disch:=omega) only[A_term_isNum,wp,qa,qb,qc,tP_eq,c,List.drop_succ_cons,List.drop_zero]
 | true => simp (disch:=omega) only[A_term_isNum,wp,qa,qb,qc,tP_eq,c,List.drop_succ_cons,List.drop_zero]
theorem sp_sign (A:TermF F) {o:Int} (h1:1≤o) (h6:o≤6):pureS F 400 [.i .i64 o] = some (.s (bs (sgn o))):=by
 refine pure_of A.sign ?_
 have c1:¬ o < 0:=by omega
 have c2:¬ 7≤o:=by omega
 have hw:IntKind.i64.wrap (o + 1) = o + 1:=i64_wrap (by omega) (by omega)
 have hc:=fun g => sgn_cut h1 h6 .i64 g
 simp (disch:=omega) only[A_term_sign,wp,qa,qb,qc,c1,c2,hw,oSslice,evoS,hc]
theorem sp_value (A:TermF F) {o:Int} (h1:1≤o) (h6:o≤6) (a b:Int):pureS F 410 [.i .i64 o,.i .i64 a,.i .i64 b] = some (.i .i64 (doX o a b)):=by
 refine pure_of A.value ?_
 have r6:∀ x:AV,List.replicate 6 x = [x,x,x,x,x,x]:=fun _ => rfl
 have s6a:∀ b1 b2 b3 b4 b5 b6 c1 c2:AV,splice [b1,b2,b3,b4,b5,b6] 0 [c1,c2] = [c1,c2,b3,b4,b5,b6]:=fun _ _ _ _ _ _ _ _ => rfl
 have s6b:∀ b1 b2 b3 b4 b5 b6 c1 c2:AV,splice [b1,b2,b3,b4,b5,b6] 2 [c1,c2] = [b1,b2,c1,c2,b5,b6]:=fun _ _ _ _ _ _ _ _ => rfl
 have s6c:∀ b1 b2 b3 b4 b5 b6 c1 c2:AV,splice [b1,b2,b3,b4,b5,b6] 4 [c1,c2] = [b1,b2,b3,b4,c1,c2]:=fun _ _ _ _ _ _ _ _ => rfl
 have hev:evX [(2,0),(2,1),(3,o)] [a,b] = doX o a b:=by
  have hc:chkX [(2,0),(2,1),(3,o)] = true:=by
   have hw:wdB (3,o) = true:=by simp[wdB];omega
   have h0:wdB (2,0) = true:=rfl
   have h1:wdB (2,1) = true:=rfl
   unfold chkX
   simp[chkG,hw,h0,h1]
  unfold evX
  rw[if_pos hc]
  simp[evE]
 have he:=sp_exprEval A.e [(2,0),(2,1),(3,o)] [a,b] (by simp) (by simp)
 rw[hev] at he
 have he2:pureS F 358 [.sl [.i .i64 2,.i .i64 0,.i .i64 2,.i .i64 1,.i .i64 3,.i .i64 o] 3 .non,.sl [.i .i64 a,.i .i64 b] 2 .non] = some (.i .i64 (doX o a b)):=he
 simp (disch:=omega) only[A_term_value,wp,qa,qb,qc,r6,s6a,s6b,s6c,he2]
theorem lit40:(⟨#[40]⟩:ByteArray) = bs [40]:=rfl
theorem lit41:(⟨#[41]⟩:ByteArray) = bs [41]:=rfl
theorem lit32:(⟨#[32]⟩:ByteArray) = bs [32]:=rfl
theorem lit105:(⟨#[105]⟩:ByteArray) = bs [105]:=rfl
theorem sp_text (A:TermF F):∀ {t:T},OkT t→nodes t≤1000000→pureS F 389 [tP t] = some (.s (bs (txt t)))
 | .num v,h,_ => by
   refine pure_of A.text ?_
   have hk:=sp_known A (some (.num v))
   have hi:=sp_itoa A.itoa (n:=v) h
   simp only[oP,fixT,tP,tC] at hk
   simp (disch:=omega) only[A_term_Text,wp,qa,qb,qc,tP,tC,hk,hi,List.drop_succ_cons,List.drop_zero,Int.reduceBEq]
   rfl
 | .rd v,h,_ => by
   refine pure_of A.text ?_
   have hk:=sp_known A (some (.rd v))
   have hi:=sp_itoa A.itoa (n:=v) h
   have hl:=itoaS_len (n:=v) h
   simp only[oP,fixT,tP,tC] at hk
   simp (disch:=first | omega | (simp only[List.length_cons,List.length_nil];omega)) only[A_term_Text,wp,qa,qb,qc,tP,tC,hk,hi,List.drop_succ_cons,List.drop_zero,Int.reduceBEq,lit105,b_sadd]
   rfl
 | .op o l r,h,hn => by
   refine pure_of A.text ?_
   simp only[nodes] at hn
   have hk:=sp_known A (some (.op o l r))
   have hl:=sp_text A (t:=l) h.2.1 (by omega)
   have hr:=sp_text A (t:=r) h.2.2 (by omega)
   have hs:=sp_sign A h.1.1 h.1.2
   have ll:=txt_len h.2.1
   have lr:=txt_len h.2.2
   have ls:(sgn o).length = 1:=rfl
   simp only[oP,fixT,tP,tC] at hk hl hr
   simp (disch:=first | omega | (simp only[List.length_append,List.length_cons,List.length_nil];omega)) only[A_term_Text,wp,qa,qb,qc,tP,tC,hk,hl,hr,hs,List.drop_succ_cons,List.drop_zero,Int.reduceBEq,lit40,lit41,lit32,b_sadd]
   rfl
end Go.Ab
end
section
set_option linter.unusedVariables false
set_option linter.unusedSimpArgs false
namespace Go.Ab
variable {F:Funs}
def isN (t:T) (v:Int):Bool:=kT t == 1 && vT t == v
def mkN (o:Int) (a b:T):T:=
 if (o == 1 || o == 4) && isN a 0 then b else if (o == 1 || o == 4 || o == 2) && isN b 0 then a else if o == 3 && (isN a 0 || isN b 1) then a else if o == 3 && (isN b 0 || isN a 1) then b else .op o a b
def turnB (o:Int):Bool:=o == 1 || o == 3 || o == 4 || o == 5
def mkT (o:Int) (a b:T):T:=
 if o < 1∨6 < o then .num 0 else if kT a = 1∧kT b = 1 then .num (doX o (vT a) (vT b)) else
  if turnB o && Op.bytesLess (txt b) (txt a) then mkN o b a else mkN o a b
theorem sp_isNum' (A:TermF F) (t:T) (v:Int):pureS F 411 [tP t,.i .i64 v] = some (.b (isN t v)):=sp_isNum A t v
theorem f_tP (hp) (t:T):frz hp depth (tP t) = some (tP t):=frz_d_ptr _ _
theorem v_tP (hp) (t:T):vis hp depth (tP t) = []:=by
 show vis hp (8 + 1) _ = _
 simp only[tP,vis]
theorem ld_k (t:T):part (tC t) 0 none = some (.i .i64 (kT t)):=by rw[tC_eq];rfl
theorem f_oP (hp) (t:Option T):frz hp depth (oP t) = some (oP t):=by cases t<;>first | exact frz_d_nilp _ | exact frz_d_ptr _ _
theorem v_oP (hp) (t:Option T):vis hp depth (oP t) = []:=by
 show vis hp (8 + 1) _ = _
 cases t<;>simp only[oP,tP,vis]
theorem cellsP (t:T):cellsOf (tP t) = [tP t]:=rfl
theorem oneP (t:T):one (tP t) = true:=rfl
theorem ld_v (a b c:AV):part [a,b,c] 0 none = some a:=rfl
theorem fa0 (t:T) (g:G):vFa 0 (tP t) g = some (.ptr (tC t),g):=by rw[tP_eq,tC_eq];rfl
theorem fa1 (t:T) (g:G):vFa 1 (tP t) g = some (.ptr [.i .i64 (vT t),lT t,rT t],g):=by rw[tP_eq];rfl
theorem frz_node (hp:Nat→Option Blk) (o:Int) (a b:T):Option.map AV.ptr (frzB hp 0 [.i .i64 3,.i .i64 o,tP a,tP b] (flat (tP a) && flat (tP b))) = some (tP (.op o a b)):=by
 unfold frzB
 rw[if_neg (by simp[tP,flat])]
 show Option.map _ (frzL _ (7 + 1) _) = _
 simp only[tP,List.drop_zero,frzL,frz,Option.map_some,tC]
theorem oa (g:G) (t:T):vNil (tP t) g = some (tP t,g):=rfl
theorem sp_make (A:TermF F) (o:Int) {x y:Option T} (hx:OkT (fixT x)) (hy:OkT (fixT y)) (nx:nodes (fixT x)≤1000000) (ny:nodes (fixT y)≤1000000):pureS F 406 [.i .i64 o,oP x,oP y] = some (tP (mkT o (fixT x) (fixT y))):=by
 refine pure_of A.make ?_
 have kx:=sp_known A x
 have ky:=sp_known A y
 have tx:=sp_text A hx nx
 have ty:=sp_text A hy ny
 have hz:=sp_tnum A 0
 have hi:=sp_isNum' A
 have hnum:=sp_tnum A
 have hval:∀ o:Int,1≤o→o≤6→∀ a b:T,pureS F 410 [.i .i64 o,.i .i64 (vT a),.i .i64 (vT b)] = some (.i .i64 (doX o (vT a) (vT b))):=fun o h1 h6 a b => sp_value A h1 h6 _ _
 generalize fixT x = a at *
 generalize fixT y = b at *
 by_cases c0:o < 1∨6 < o
 ·have hm:mkT o a b = .num 0:=if_pos c0
  have q1:(o == 1) = false:=by rw[beq_eq_false_iff_ne];omega
  have q3:(o == 3) = false:=by rw[beq_eq_false_iff_ne];omega
  have q4:(o == 4) = false:=by rw[beq_eq_false_iff_ne];omega
  have q5:(o == 5) = false:=by rw[beq_eq_false_iff_ne];omega
  rw[hm]
  by_cases c1:o < 1
  ·simp (disch:=omega) only[A_term_Make,wp,qa,qb,qc,f_oP,v_oP,f_tP,v_tP,kx,ky,hz,c1,q1,q3,q4,q5]
  ·have c2:6 < o:=by omega
   simp (disch:=omega) only[A_term_Make,wp,qa,qb,qc,f_oP,v_oP,f_tP,v_tP,kx,ky,hz,c1,c2,q1,q3,q4,q5]
 ·have hm:mkT o a b = if kT a = 1∧kT b = 1 then .num (doX o (vT a) (vT b)) else if turnB o && Op.bytesLess (txt b) (txt a) then mkN o b a else mkN o a b:=if_neg c0
  rw[hm]
  clear hm
  have hs:o = 1∨o = 2∨o = 3∨o = 4∨o = 5∨o = 6:=by omega
  generalize hM:(if kT a = 1∧kT b = 1 then T.num (doX o (vT a) (vT b)) else if turnB o && Op.bytesLess (txt b) (txt a) then mkN o b a else mkN o a b) = M
  rcases hs with rfl | rfl | rfl | rfl | rfl | rfl
  ·cases k1:(kT a == 1) with
   | true =>
     have k1':kT a = 1:=by simpa using k1
     cases k2:(kT b == 1) with
     | true =>
       have k2':kT b = 1:=by simpa using k2
       have hv:=hval 1 (by omega) (by omega) a b
       have hm:M = .num (doX 1 (vT a) (vT b)):=by rw[←hM];exact if_pos ⟨k1',k2'⟩
       rw[hm]
       simp (disch:=omega) only[A_term_Make,wp,qa,qb,qc,f_oP,v_oP,f_tP,v_tP,kx,ky,tx,ty,b_slss,fa0,fa1,ld_k,ld_v,hi,oa,cellsP,oneP,Int.reduceBEq,Int.reduceLT,Int.reduceLE,Int.reduceGT,k1,k2,hv,hnum]
     | false =>
       have k2':kT b≠1:=by simpa using k2
       cases hl:Op.bytesLess (txt b) (txt a) with
       | true =>
         cases nb0:isN b 0 with
         | true =>
           have hm:M = a:=by rw[←hM];simp[mkN,turnB,k1',k2',k1,k2,hl,nb0]
           rw[hm]
           simp (disch:=omega) only[A_term_Make,wp,qa,qb,qc,f_oP,v_oP,f_tP,v_tP,kx,ky,tx,ty,b_slss,fa0,fa1,ld_k,ld_v,hi,oa,cellsP,oneP,Int.reduceBEq,Int.reduceLT,Int.reduceLE,Int.reduceGT,k1',k2',k1,k2,hl,nb0]
         | false =>
           cases na0:isN a 0 with
           | true =>
             have hm:M = b:=by rw[←hM];simp[mkN,turnB,k1',k2',k1,k2,hl,nb0,na0]
             rw[hm]
             simp (disch:=omega) only[A_term_Make,wp,qa,qb,qc,f_oP,v_oP,f_tP,v_tP,kx,ky,tx,ty,b_slss,fa0,fa1,ld_k,ld_v,hi,oa,cellsP,oneP,Int.reduceBEq,Int.reduceLT,Int.reduceLE,Int.reduceGT,k1',k2',k1,k2,hl,nb0,na0]
           | false =>
             have hm:M = .op 1 b a:=by rw[←hM];simp[mkN,turnB,k1',k2',k1,k2,hl,nb0,na0]
             rw[hm]
             simp (disch:=omega) only[A_term_Make,wp,qa,qb,qc,f_oP,v_oP,f_tP,v_tP,kx,ky,tx,ty,b_slss,fa0,fa1,ld_k,ld_v,hi,oa,cellsP,oneP,Int.reduceBEq,Int.reduceLT,Int.reduceLE,Int.reduceGT,k1',k2',k1,k2,hl,nb0,na0]
             exact frz_node _ _ _ _
       | false =>
         cases na0:isN a 0 with
         | true =>
           have hm:M = b:=by rw[←hM];simp[mkN,turnB,k1',k2',k1,k2,hl,na0]
           rw[hm]
           simp (disch:=omega) only[A_term_Make,wp,qa,qb,qc,f_oP,v_oP,f_tP,v_tP,kx,ky,tx,ty,b_slss,fa0,fa1,ld_k,ld_v,hi,oa,cellsP,oneP,Int.reduceBEq,Int.reduceLT,Int.reduceLE,Int.reduceGT,k1',k2',k1,k2,hl,na0]
         | false =>
           cases nb0:isN b 0 with
           | true =>
             have hm:M = a:=by rw[←hM];simp[mkN,turnB,k1',k2',k1,k2,hl,na0,nb0]
             rw[hm]
             simp (disch:=omega) only[A_term_Make,wp,qa,qb,qc,f_oP,v_oP,f_tP,v_tP,kx,ky,tx,ty,b_slss,fa0,fa1,ld_k,ld_v,hi,oa,cellsP,oneP,Int.reduceBEq,Int.reduceLT,Int.reduceLE,Int.reduceGT,k1',k2',k1,k2,hl,na0,nb0]
           | false =>
             have hm:M = .op 1 a b:=by rw[←hM];simp[mkN,turnB,k1',k2',k1,k2,hl,na0,nb0]
             rw[hm]
             simp (disch:=omega) only[A_term_Make,wp,qa,qb,qc,f_oP,v_oP,f_tP,v_tP,kx,ky,tx,ty,b_slss,fa0,fa1,ld_k,ld_v,hi,oa,cellsP,oneP,Int.reduceBEq,Int.reduceLT,Int.reduceLE,Int.reduceGT,k1',k2',k1,k2,hl,na0,nb0]
             exact frz_node _ _ _ _
   | false =>
     have k1':kT a≠1:=by simpa using k1
     cases hl:Op.bytesLess (txt b) (txt a) with
     | true =>
       cases nb0:isN b 0 with
       | true =>
         have hm:M = a:=by rw[←hM];simp[mkN,turnB,k1',k1,hl,nb0]
         rw[hm]
         simp (disch:=omega) only[A_term_Make,wp,qa,qb,qc,f_oP,v_oP,f_tP,v_tP,kx,ky,tx,ty,b_slss,fa0,fa1,ld_k,ld_v,hi,oa,cellsP,oneP,Int.reduceBEq,Int.reduceLT,Int.reduceLE,Int.reduceGT,k1',k1,hl,nb0]
       | false =>
         cases na0:isN a 0 with
         | true =>
           have hm:M = b:=by rw[←hM];simp[mkN,turnB,k1',k1,hl,nb0,na0]
           rw[hm]
           simp (disch:=omega) only[A_term_Make,wp,qa,qb,qc,f_oP,v_oP,f_tP,v_tP,kx,ky,tx,ty,b_slss,fa0,fa1,ld_k,ld_v,hi,oa,cellsP,oneP,Int.reduceBEq,Int.reduceLT,Int.reduceLE,Int.reduceGT,k1',k1,hl,nb0,na0]
         | false =>
           have hm:M = .op 1 b a:=by rw[←hM];simp[mkN,turnB,k1',k1,hl,nb0,na0]
           rw[hm]
           simp (disch:=omega) only[A_term_Make,wp,qa,qb,qc,f_oP,v_oP,f_tP,v_tP,kx,ky,tx,ty,b_slss,fa0,fa1,ld_k,ld_v,hi,oa,cellsP,oneP,Int.reduceBEq,Int.reduceLT,Int.reduceLE,Int.reduceGT,k1',k1,hl,nb0,na0]
           exact frz_node _ _ _ _
     | false =>
       cases na0:isN a 0 with
       | true =>
         have hm:M = b:=by rw[←hM];simp[mkN,turnB,k1',k1,hl,na0]
         rw[hm]
         simp (disch:=omega) only[A_term_Make,wp,qa,qb,qc,f_oP,v_oP,f_tP,v_tP,kx,ky,tx,ty,b_slss,fa0,fa1,ld_k,ld_v,hi,oa,cellsP,oneP,Int.reduceBEq,Int.reduceLT,Int.reduceLE,Int.reduceGT,k1',k1,hl,na0]
       | false =>
         cases nb0:isN b 0 with
         | true =>
           have hm:M = a:=by rw[←hM];simp[mkN,turnB,k1',k1,hl,na0,nb0]
           rw[hm]
           simp (disch:=omega) only[A_term_Make,wp,qa,qb,qc,f_oP,v_oP,f_tP,v_tP,kx,ky,tx,ty,b_slss,fa0,fa1,ld_k,ld_v,hi,oa,cellsP,oneP,Int.reduceBEq,Int.reduceLT,Int.reduceLE,Int.reduceGT,k1',k1,hl,na0,nb0]
         | false =>
           have hm:M = .op 1 a b:=by rw[←hM];simp[mkN,turnB,k1',k1,hl,na0,nb0]
           rw[hm]
           simp (disch:=omega) only[A_term_Make,wp,qa,qb,qc,f_oP,v_oP,f_tP,v_tP,kx,ky,tx,ty,b_slss,fa0,fa1,ld_k,ld_v,hi,oa,cellsP,oneP,Int.reduceBEq,Int.reduceLT,Int.reduceLE,Int.reduceGT,k1',k1,hl,na0,nb0]
           exact frz_node _ _ _ _
  ·cases k1:(kT a == 1) with
   | true =>
     have k1':kT a = 1:=by simpa using k1
     cases k2:(kT b == 1) with
     | true =>
       have k2':kT b = 1:=by simpa using k2
       have hv:=hval 2 (by omega) (by omega) a b
       have hm:M = .num (doX 2 (vT a) (vT b)):=by rw[←hM];exact if_pos ⟨k1',k2'⟩
       rw[hm]
       simp (disch:=omega) only[A_term_Make,wp,qa,qb,qc,f_oP,v_oP,f_tP,v_tP,kx,ky,tx,ty,b_slss,fa0,fa1,ld_k,ld_v,hi,oa,cellsP,oneP,Int.reduceBEq,Int.reduceLT,Int.reduceLE,Int.reduceGT,k1,k2,hv,hnum]
     | false =>
       have k2':kT b≠1:=by simpa using k2
       cases nb0:isN b 0 with
       | true =>
         have hm:M = a:=by rw[←hM];simp[mkN,turnB,k1',k2',k1,k2,nb0]
         rw[hm]
         simp (disch:=omega) only[A_term_Make,wp,qa,qb,qc,f_oP,v_oP,f_tP,v_tP,kx,ky,tx,ty,b_slss,fa0,fa1,ld_k,ld_v,hi,oa,cellsP,oneP,Int.reduceBEq,Int.reduceLT,Int.reduceLE,Int.reduceGT,k1',k2',k1,k2,nb0]
       | false =>
         have hm:M = .op 2 a b:=by rw[←hM];simp[mkN,turnB,k1',k2',k1,k2,nb0]
         rw[hm]
         simp (disch:=omega) only[A_term_Make,wp,qa,qb,qc,f_oP,v_oP,f_tP,v_tP,kx,ky,tx,ty,b_slss,fa0,fa1,ld_k,ld_v,hi,oa,cellsP,oneP,Int.reduceBEq,Int.reduceLT,Int.reduceLE,Int.reduceGT,k1',k2',k1,k2,nb0]
         exact frz_node _ _ _ _
   | false =>
     have k1':kT a≠1:=by simpa using k1
     cases nb0:isN b 0 with
     | true =>
       have hm:M = a:=by rw[←hM];simp[mkN,turnB,k1',k1,nb0]
       rw[hm]
       simp (disch:=omega) only[A_term_Make,wp,qa,qb,qc,f_oP,v_oP,f_tP,v_tP,kx,ky,tx,ty,b_slss,fa0,fa1,ld_k,ld_v,hi,oa,cellsP,oneP,Int.reduceBEq,Int.reduceLT,Int.reduceLE,Int.reduceGT,k1',k1,nb0]
     | false =>
       have hm:M = .op 2 a b:=by rw[←hM];simp[mkN,turnB,k1',k1,nb0]
       rw[hm]
       simp (disch:=omega) only[A_term_Make,wp,qa,qb,qc,f_oP,v_oP,f_tP,v_tP,kx,ky,tx,ty,b_slss,fa0,fa1,ld_k,ld_v,hi,oa,cellsP,oneP,Int.reduceBEq,Int.reduceLT,Int.reduceLE,Int.reduceGT,k1',k1,nb0]
       exact frz_node _ _ _ _
  ·cases k1:(kT a == 1) with
   | true =>
     have k1':kT a = 1:=by simpa using k1
     cases k2:(kT b == 1) with
     | true =>
       have k2':kT b = 1:=by simpa using k2
       have hv:=hval 3 (by omega) (by omega) a b
       have hm:M = .num (doX 3 (vT a) (vT b)):=by rw[←hM];exact if_pos ⟨k1',k2'⟩
       rw[hm]
       simp (disch:=omega) only[A_term_Make,wp,qa,qb,qc,f_oP,v_oP,f_tP,v_tP,kx,ky,tx,ty,b_slss,fa0,fa1,ld_k,ld_v,hi,oa,cellsP,oneP,Int.reduceBEq,Int.reduceLT,Int.reduceLE,Int.reduceGT,k1,k2,hv,hnum]
     | false =>
       have k2':kT b≠1:=by simpa using k2
       cases hl:Op.bytesLess (txt b) (txt a) with
       | true =>
         cases nb0:isN b 0 with
         | true =>
           have hm:M = b:=by rw[←hM];simp[mkN,turnB,k1',k2',k1,k2,hl,nb0]
           rw[hm]
           simp (disch:=omega) only[A_term_Make,wp,qa,qb,qc,f_oP,v_oP,f_tP,v_tP,kx,ky,tx,ty,b_slss,fa0,fa1,ld_k,ld_v,hi,oa,cellsP,oneP,Int.reduceBEq,Int.reduceLT,Int.reduceLE,Int.reduceGT,k1',k2',k1,k2,hl,nb0]
         | false =>
           cases na1:isN a 1 with
           | true =>
             have hm:M = b:=by rw[←hM];simp[mkN,turnB,k1',k2',k1,k2,hl,nb0,na1]
             rw[hm]
             simp (disch:=omega) only[A_term_Make,wp,qa,qb,qc,f_oP,v_oP,f_tP,v_tP,kx,ky,tx,ty,b_slss,fa0,fa1,ld_k,ld_v,hi,oa,cellsP,oneP,Int.reduceBEq,Int.reduceLT,Int.reduceLE,Int.reduceGT,k1',k2',k1,k2,hl,nb0,na1]
           | false =>
             cases na0:isN a 0 with
             | true =>
               have hm:M = a:=by rw[←hM];simp[mkN,turnB,k1',k2',k1,k2,hl,nb0,na1,na0]
               rw[hm]
               simp (disch:=omega) only[A_term_Make,wp,qa,qb,qc,f_oP,v_oP,f_tP,v_tP,kx,ky,tx,ty,b_slss,fa0,fa1,ld_k,ld_v,hi,oa,cellsP,oneP,Int.reduceBEq,Int.reduceLT,Int.reduceLE,Int.reduceGT,k1',k2',k1,k2,hl,nb0,na1,na0]
             | false =>
               cases nb1:isN b 1 with
               | true =>
                 have hm:M = a:=by rw[←hM];simp[mkN,turnB,k1',k2',k1,k2,hl,nb0,na1,na0,nb1]
                 rw[hm]
                 simp (disch:=omega) only[A_term_Make,wp,qa,qb,qc,f_oP,v_oP,f_tP,v_tP,kx,ky,tx,ty,b_slss,fa0,fa1,ld_k,ld_v,hi,oa,cellsP,oneP,Int.reduceBEq,Int.reduceLT,Int.reduceLE,Int.reduceGT,k1',k2',k1,k2,hl,nb0,na1,na0,nb1]
               | false =>
                 have hm:M = .op 3 b a:=by rw[←hM];simp[mkN,turnB,k1',k2',k1,k2,hl,nb0,na1,na0,nb1]
                 rw[hm]
                 simp (disch:=omega) only[A_term_Make,wp,qa,qb,qc,f_oP,v_oP,f_tP,v_tP,kx,ky,tx,ty,b_slss,fa0,fa1,ld_k,ld_v,hi,oa,cellsP,oneP,Int.reduceBEq,Int.reduceLT,Int.reduceLE,Int.reduceGT,k1',k2',k1,k2,hl,nb0,na1,na0,nb1]
                 exact frz_node _ _ _ _
       | false =>
         cases na0:isN a 0 with
         | true =>
           have hm:M = a:=by rw[←hM];simp[mkN,turnB,k1',k2',k1,k2,hl,na0]
           rw[hm]
           simp (disch:=omega) only[A_term_Make,wp,qa,qb,qc,f_oP,v_oP,f_tP,v_tP,kx,ky,tx,ty,b_slss,fa0,fa1,ld_k,ld_v,hi,oa,cellsP,oneP,Int.reduceBEq,Int.reduceLT,Int.reduceLE,Int.reduceGT,k1',k2',k1,k2,hl,na0]
         | false =>
           cases nb1:isN b 1 with
           | true =>
             have hm:M = a:=by rw[←hM];simp[mkN,turnB,k1',k2',k1,k2,hl,na0,nb1]
             rw[hm]
             simp (disch:=omega) only[A_term_Make,wp,qa,qb,qc,f_oP,v_oP,f_tP,v_tP,kx,ky,tx,ty,b_slss,fa0,fa1,ld_k,ld_v,hi,oa,cellsP,oneP,Int.reduceBEq,Int.reduceLT,Int.reduceLE,Int.reduceGT,k1',k2',k1,k2,hl,na0,nb1]
           | false =>
             cases nb0:isN b 0 with
             | true =>
               have hm:M = b:=by rw[←hM];simp[mkN,turnB,k1',k2',k1,k2,hl,na0,nb1,nb0]
               rw[hm]
               simp (disch:=omega) only[A_term_Make,wp,qa,qb,qc,f_oP,v_oP,f_tP,v_tP,kx,ky,tx,ty,b_slss,fa0,fa1,ld_k,ld_v,hi,oa,cellsP,oneP,Int.reduceBEq,Int.reduceLT,Int.reduceLE,Int.reduceGT,k1',k2',k1,k2,hl,na0,nb1,nb0]
             | false =>
               cases na1:isN a 1 with
               | true =>
                 have hm:M = b:=by rw[←hM];simp[mkN,turnB,k1',k2',k1,k2,hl,na0,nb1,nb0,na1]
                 rw[hm]
                 simp (disch:=omega) only[A_term_Make,wp,qa,qb,qc,f_oP,v_oP,f_tP,v_tP,kx,ky,tx,ty,b_slss,fa0,fa1,ld_k,ld_v,hi,oa,cellsP,oneP,Int.reduceBEq,Int.reduceLT,Int.reduceLE,Int.reduceGT,k1',k2',k1,k2,hl,na0,nb1,nb0,na1]
               | false =>
                 have hm:M = .op 3 a b:=by rw[←hM];simp[mkN,turnB,k1',k2',k1,k2,hl,na0,nb1,nb0,na1]
                 rw[hm]
                 simp (disch:=omega) only[A_term_Make,wp,qa,qb,qc,f_oP,v_oP,f_tP,v_tP,kx,ky,tx,ty,b_slss,fa0,fa1,ld_k,ld_v,hi,oa,cellsP,oneP,Int.reduceBEq,Int.reduceLT,Int.reduceLE,Int.reduceGT,k1',k2',k1,k2,hl,na0,nb1,nb0,na1]
                 exact frz_node _ _ _ _
   | false =>
     have k1':kT a≠1:=by simpa using k1
     cases hl:Op.bytesLess (txt b) (txt a) with
     | true =>
       cases nb0:isN b 0 with
       | true =>
         have hm:M = b:=by rw[←hM];simp[mkN,turnB,k1',k1,hl,nb0]
         rw[hm]
         simp (disch:=omega) only[A_term_Make,wp,qa,qb,qc,f_oP,v_oP,f_tP,v_tP,kx,ky,tx,ty,b_slss,fa0,fa1,ld_k,ld_v,hi,oa,cellsP,oneP,Int.reduceBEq,Int.reduceLT,Int.reduceLE,Int.reduceGT,k1',k1,hl,nb0]
       | false =>
         cases na1:isN a 1 with
         | true =>
           have hm:M = b:=by rw[←hM];simp[mkN,turnB,k1',k1,hl,nb0,na1]
           rw[hm]
           simp (disch:=omega) only[A_term_Make,wp,qa,qb,qc,f_oP,v_oP,f_tP,v_tP,kx,ky,tx,ty,b_slss,fa0,fa1,ld_k,ld_v,hi,oa,cellsP,oneP,Int.reduceBEq,Int.reduceLT,Int.reduceLE,Int.reduceGT,k1',k1,hl,nb0,na1]
         | false =>
           cases na0:isN a 0 with
           | true =>
             have hm:M = a:=by rw[←hM];simp[mkN,turnB,k1',k1,hl,nb0,na1,na0]
             rw[hm]
             simp (disch:=omega) only[A_term_Make,wp,qa,qb,qc,f_oP,v_oP,f_tP,v_tP,kx,ky,tx,ty,b_slss,fa0,fa1,ld_k,ld_v,hi,oa,cellsP,oneP,Int.reduceBEq,Int.reduceLT,Int.reduceLE,Int.reduceGT,k1',k1,hl,nb0,na1,na0]
           | false =>
             cases nb1:isN b 1 with
             | true =>
               have hm:M = a:=by rw[←hM];simp[mkN,turnB,k1',k1,hl,nb0,na1,na0,nb1]
               rw[hm]
               simp (disch:=omega) only[A_term_Make,wp,qa,qb,qc,f_oP,v_oP,f_tP,v_tP,kx,ky,tx,ty,b_slss,fa0,fa1,ld_k,ld_v,hi,oa,cellsP,oneP,Int.reduceBEq,Int.reduceLT,Int.reduceLE,Int.reduceGT,k1',k1,hl,nb0,na1,na0,nb1]
             | false =>
               have hm:M = .op 3 b a:=by rw[←hM];simp[mkN,turnB,k1',k1,hl,nb0,na1,na0,nb1]
               rw[hm]
               simp (disch:=omega) only[A_term_Make,wp,qa,qb,qc,f_oP,v_oP,f_tP,v_tP,kx,ky,tx,ty,b_slss,fa0,fa1,ld_k,ld_v,hi,oa,cellsP,oneP,Int.reduceBEq,Int.reduceLT,Int.reduceLE,Int.reduceGT,k1',k1,hl,nb0,na1,na0,nb1]
               exact frz_node _ _ _ _
     | false =>
       cases na0:isN a 0 with
       | true =>
         have hm:M = a:=by rw[←hM];simp[mkN,turnB,k1',k1,hl,na0]
         rw[hm]
         simp (disch:=omega) only[A_term_Make,wp,qa,qb,qc,f_oP,v_oP,f_tP,v_tP,kx,ky,tx,ty,b_slss,fa0,fa1,ld_k,ld_v,hi,oa,cellsP,oneP,Int.reduceBEq,Int.reduceLT,Int.reduceLE,Int.reduceGT,k1',k1,hl,na0]
       | false =>
         cases nb1:isN b 1 with
         | true =>
           have hm:M = a:=by rw[←hM];simp[mkN,turnB,k1',k1,hl,na0,nb1]
           rw[hm]
           simp (disch:=omega) only[A_term_Make,wp,qa,qb,qc,f_oP,v_oP,f_tP,v_tP,kx,ky,tx,ty,b_slss,fa0,fa1,ld_k,ld_v,hi,oa,cellsP,oneP,Int.reduceBEq,Int.reduceLT,Int.reduceLE,Int.reduceGT,k1',k1,hl,na0,nb1]
         | false =>
           cases nb0:isN b 0 with
           | true =>
             have hm:M = b:=by rw[←hM];simp[mkN,turnB,k1',k1,hl,na0,nb1,nb0]
             rw[hm]
             simp (disch:=omega) only[A_term_Make,wp,qa,qb,qc,f_oP,v_oP,f_tP,v_tP,kx,ky,tx,ty,b_slss,fa0,fa1,ld_k,ld_v,hi,oa,cellsP,oneP,Int.reduceBEq,Int.reduceLT,Int.reduceLE,Int.reduceGT,k1',k1,hl,na0,nb1,nb0]
           | false =>
             cases na1:isN a 1 with
             | true =>
               have hm:M = b:=by rw[←hM];simp[mkN,turnB,k1',k1,hl,na0,nb1,nb0,na1]
               rw[hm]
               simp (disch:=omega) only[A_term_Make,wp,qa,qb,qc,f_oP,v_oP,f_tP,v_tP,kx,ky,tx,ty,b_slss,fa0,fa1,ld_k,ld_v,hi,oa,cellsP,oneP,Int.reduceBEq,Int.reduceLT,Int.reduceLE,Int.reduceGT,k1',k1,hl,na0,nb1,nb0,na1]
             | false =>
               have hm:M = .op 3 a b:=by rw[←hM];simp[mkN,turnB,k1',k1,hl,na0,nb1,nb0,na1]
               rw[hm]
               simp (disch:=omega) only[A_term_Make,wp,qa,qb,qc,f_oP,v_oP,f_tP,v_tP,kx,ky,tx,ty,b_slss,fa0,fa1,ld_k,ld_v,hi,oa,cellsP,oneP,Int.reduceBEq,Int.reduceLT,Int.reduceLE,Int.reduceGT,k1',k1,hl,na0,nb1,nb0,na1]
               exact frz_node _ _ _ _
  ·cases k1:(kT a == 1) with
   | true =>
     have k1':kT a = 1:=by simpa using k1
     cases k2:(kT b == 1) with
     | true =>
       have k2':kT b = 1:=by simpa using k2
       have hv:=hval 4 (by omega) (by omega) a b
       have hm:M = .num (doX 4 (vT a) (vT b)):=by rw[←hM];exact if_pos ⟨k1',k2'⟩
       rw[hm]
       simp (disch:=omega) only[A_term_Make,wp,qa,qb,qc,f_oP,v_oP,f_tP,v_tP,kx,ky,tx,ty,b_slss,fa0,fa1,ld_k,ld_v,hi,oa,cellsP,oneP,Int.reduceBEq,Int.reduceLT,Int.reduceLE,Int.reduceGT,k1,k2,hv,hnum]
     | false =>
       have k2':kT b≠1:=by simpa using k2
       cases hl:Op.bytesLess (txt b) (txt a) with
       | true =>
         cases nb0:isN b 0 with
         | true =>
           have hm:M = a:=by rw[←hM];simp[mkN,turnB,k1',k2',k1,k2,hl,nb0]
           rw[hm]
           simp (disch:=omega) only[A_term_Make,wp,qa,qb,qc,f_oP,v_oP,f_tP,v_tP,kx,ky,tx,ty,b_slss,fa0,fa1,ld_k,ld_v,hi,oa,cellsP,oneP,Int.reduceBEq,Int.reduceLT,Int.reduceLE,Int.reduceGT,k1',k2',k1,k2,hl,nb0]
         | false =>
           cases na0:isN a 0 with
           | true =>
             have hm:M = b:=by rw[←hM];simp[mkN,turnB,k1',k2',k1,k2,hl,nb0,na0]
             rw[hm]
             simp (disch:=omega) only[A_term_Make,wp,qa,qb,qc,f_oP,v_oP,f_tP,v_tP,kx,ky,tx,ty,b_slss,fa0,fa1,ld_k,ld_v,hi,oa,cellsP,oneP,Int.reduceBEq,Int.reduceLT,Int.reduceLE,Int.reduceGT,k1',k2',k1,k2,hl,nb0,na0]
           | false =>
             have hm:M = .op 4 b a:=by rw[←hM];simp[mkN,turnB,k1',k2',k1,k2,hl,nb0,na0]
             rw[hm]
             simp (disch:=omega) only[A_term_Make,wp,qa,qb,qc,f_oP,v_oP,f_tP,v_tP,kx,ky,tx,ty,b_slss,fa0,fa1,ld_k,ld_v,hi,oa,cellsP,oneP,Int.reduceBEq,Int.reduceLT,Int.reduceLE,Int.reduceGT,k1',k2',k1,k2,hl,nb0,na0]
             exact frz_node _ _ _ _
       | false =>
         cases na0:isN a 0 with
         | true =>
           have hm:M = b:=by rw[←hM];simp[mkN,turnB,k1',k2',k1,k2,hl,na0]
           rw[hm]
           simp (disch:=omega) only[A_term_Make,wp,qa,qb,qc,f_oP,v_oP,f_tP,v_tP,kx,ky,tx,ty,b_slss,fa0,fa1,ld_k,ld_v,hi,oa,cellsP,oneP,Int.reduceBEq,Int.reduceLT,Int.reduceLE,Int.reduceGT,k1',k2',k1,k2,hl,na0]
         | false =>
           cases nb0:isN b 0 with
           | true =>
             have hm:M = a:=by rw[←hM];simp[mkN,turnB,k1',k2',k1,k2,hl,na0,nb0]
             rw[hm]
             simp (disch:=omega) only[A_term_Make,wp,qa,qb,qc,f_oP,v_oP,f_tP,v_tP,kx,ky,tx,ty,b_slss,fa0,fa1,ld_k,ld_v,hi,oa,cellsP,oneP,Int.reduceBEq,Int.reduceLT,Int.reduceLE,Int.reduceGT,k1',k2',k1,k2,hl,na0,nb0]
           | false =>
             have hm:M = .op 4 a b:=by rw[←hM];simp[mkN,turnB,k1',k2',k1,k2,hl,na0,nb0]
             rw[hm]
             simp (disch:=omega) only[A_term_Make,wp,qa,qb,qc,f_oP,v_oP,f_tP,v_tP,kx,ky,tx,ty,b_slss,fa0,fa1,ld_k,ld_v,hi,oa,cellsP,oneP,Int.reduceBEq,Int.reduceLT,Int.reduceLE,Int.reduceGT,k1',k2',k1,k2,hl,na0,nb0]
             exact frz_node _ _ _ _
   | false =>
     have k1':kT a≠1:=by simpa using k1
     cases hl:Op.bytesLess (txt b) (txt a) with
     | true =>
       cases nb0:isN b 0 with
       | true =>
         have hm:M = a:=by rw[←hM];simp[mkN,turnB,k1',k1,hl,nb0]
         rw[hm]
         simp (disch:=omega) only[A_term_Make,wp,qa,qb,qc,f_oP,v_oP,f_tP,v_tP,kx,ky,tx,ty,b_slss,fa0,fa1,ld_k,ld_v,hi,oa,cellsP,oneP,Int.reduceBEq,Int.reduceLT,Int.reduceLE,Int.reduceGT,k1',k1,hl,nb0]
       | false =>
         cases na0:isN a 0 with
         | true =>
           have hm:M = b:=by rw[←hM];simp[mkN,turnB,k1',k1,hl,nb0,na0]
           rw[hm]
           simp (disch:=omega) only[A_term_Make,wp,qa,qb,qc,f_oP,v_oP,f_tP,v_tP,kx,ky,tx,ty,b_slss,fa0,fa1,ld_k,ld_v,hi,oa,cellsP,oneP,Int.reduceBEq,Int.reduceLT,Int.reduceLE,Int.reduceGT,k1',k1,hl,nb0,na0]
         | false =>
           have hm:M = .op 4 b a:=by rw[←hM];simp[mkN,turnB,k1',k1,hl,nb0,na0]
           rw[hm]
           simp (disch:=omega) only[A_term_Make,wp,qa,qb,qc,f_oP,v_oP,f_tP,v_tP,kx,ky,tx,ty,b_slss,fa0,fa1,ld_k,ld_v,hi,oa,cellsP,oneP,Int.reduceBEq,Int.reduceLT,Int.reduceLE,Int.reduceGT,k1',k1,hl,nb0,na0]
           exact frz_node _ _ _ _
     | false =>
       cases na0:isN a 0 with
       | true =>
         have hm:M = b:=by rw[←hM];simp[mkN,turnB,k1',k1,hl,na0]
         rw[hm]
         simp (disch:=omega) only[A_term_Make,wp,qa,qb,qc,f_oP,v_oP,f_tP,v_tP,kx,ky,tx,ty,b_slss,fa0,fa1,ld_k,ld_v,hi,oa,cellsP,oneP,Int.reduceBEq,Int.reduceLT,Int.reduceLE,Int.reduceGT,k1',k1,hl,na0]
       | false =>
         cases nb0:isN b 0 with
         | true =>
           have hm:M = a:=by rw[←hM];simp[mkN,turnB,k1',k1,hl,na0,nb0]
           rw[hm]
           simp (disch:=omega) only[A_term_Make,wp,qa,qb,qc,f_oP,v_oP,f_tP,v_tP,kx,ky,tx,ty,b_slss,fa0,fa1,ld_k,ld_v,hi,oa,cellsP,oneP,Int.reduceBEq,Int.reduceLT,Int.reduceLE,Int.reduceGT,k1',k1,hl,na0,nb0]
         | false =>
           have hm:M = .op 4 a b:=by rw[←hM];simp[mkN,turnB,k1',k1,hl,na0,nb0]
           rw[hm]
           simp (disch:=omega) only[A_term_Make,wp,qa,qb,qc,f_oP,v_oP,f_tP,v_tP,kx,ky,tx,ty,b_slss,fa0,fa1,ld_k,ld_v,hi,oa,cellsP,oneP,Int.reduceBEq,Int.reduceLT,Int.reduceLE,Int.reduceGT,k1',k1,hl,na0,nb0]
           exact frz_node _ _ _ _
  ·cases k1:(kT a == 1) with
   | true =>
     have k1':kT a = 1:=by simpa using k1
     cases k2:(kT b == 1) with
     | true =>
       have k2':kT b = 1:=by simpa using k2
       have hv:=hval 5 (by omega) (by omega) a b
       have hm:M = .num (doX 5 (vT a) (vT b)):=by rw[←hM];exact if_pos ⟨k1',k2'⟩
       rw[hm]
       simp (disch:=omega) only[A_term_Make,wp,qa,qb,qc,f_oP,v_oP,f_tP,v_tP,kx,ky,tx,ty,b_slss,fa0,fa1,ld_k,ld_v,hi,oa,cellsP,oneP,Int.reduceBEq,Int.reduceLT,Int.reduceLE,Int.reduceGT,k1,k2,hv,hnum]
     | false =>
       have k2':kT b≠1:=by simpa using k2
       cases hl:Op.bytesLess (txt b) (txt a) with
       | true =>
         have hm:M = .op 5 b a:=by rw[←hM];simp[mkN,turnB,k1',k2',k1,k2,hl]
         rw[hm]
         simp (disch:=omega) only[A_term_Make,wp,qa,qb,qc,f_oP,v_oP,f_tP,v_tP,kx,ky,tx,ty,b_slss,fa0,fa1,ld_k,ld_v,hi,oa,cellsP,oneP,Int.reduceBEq,Int.reduceLT,Int.reduceLE,Int.reduceGT,k1',k2',k1,k2,hl]
         exact frz_node _ _ _ _
       | false =>
         have hm:M = .op 5 a b:=by rw[←hM];simp[mkN,turnB,k1',k2',k1,k2,hl]
         rw[hm]
         simp (disch:=omega) only[A_term_Make,wp,qa,qb,qc,f_oP,v_oP,f_tP,v_tP,kx,ky,tx,ty,b_slss,fa0,fa1,ld_k,ld_v,hi,oa,cellsP,oneP,Int.reduceBEq,Int.reduceLT,Int.reduceLE,Int.reduceGT,k1',k2',k1,k2,hl]
         exact frz_node _ _ _ _
   | false =>
     have k1':kT a≠1:=by simpa using k1
     cases hl:Op.bytesLess (txt b) (txt a) with
     | true =>
       have hm:M = .op 5 b a:=by rw[←hM];simp[mkN,turnB,k1',k1,hl]
       rw[hm]
       simp (disch:=omega) only[A_term_Make,wp,qa,qb,qc,f_oP,v_oP,f_tP,v_tP,kx,ky,tx,ty,b_slss,fa0,fa1,ld_k,ld_v,hi,oa,cellsP,oneP,Int.reduceBEq,Int.reduceLT,Int.reduceLE,Int.reduceGT,k1',k1,hl]
       exact frz_node _ _ _ _
     | false =>
       have hm:M = .op 5 a b:=by rw[←hM];simp[mkN,turnB,k1',k1,hl]
       rw[hm]
       simp (disch:=omega) only[A_term_Make,wp,qa,qb,qc,f_oP,v_oP,f_tP,v_tP,kx,ky,tx,ty,b_slss,fa0,fa1,ld_k,ld_v,hi,oa,cellsP,oneP,Int.reduceBEq,Int.reduceLT,Int.reduceLE,Int.reduceGT,k1',k1,hl]
       exact frz_node _ _ _ _
  ·cases k1:(kT a == 1) with
   | true =>
     have k1':kT a = 1:=by simpa using k1
     cases k2:(kT b == 1) with
     | true =>
       have k2':kT b = 1:=by simpa using k2
       have hv:=hval 6 (by omega) (by omega) a b
       have hm:M = .num (doX 6 (vT a) (vT b)):=by rw[←hM];exact if_pos ⟨k1',k2'⟩
       rw[hm]
       simp (disch:=omega) only[A_term_Make,wp,qa,qb,qc,f_oP,v_oP,f_tP,v_tP,kx,ky,tx,ty,b_slss,fa0,fa1,ld_k,ld_v,hi,oa,cellsP,oneP,Int.reduceBEq,Int.reduceLT,Int.reduceLE,Int.reduceGT,k1,k2,hv,hnum]
     | false =>
       have k2':kT b≠1:=by simpa using k2
       have hm:M = .op 6 a b:=by rw[←hM];simp[mkN,turnB,k1',k2',k1,k2]
       rw[hm]
       simp (disch:=omega) only[A_term_Make,wp,qa,qb,qc,f_oP,v_oP,f_tP,v_tP,kx,ky,tx,ty,b_slss,fa0,fa1,ld_k,ld_v,hi,oa,cellsP,oneP,Int.reduceBEq,Int.reduceLT,Int.reduceLE,Int.reduceGT,k1',k2',k1,k2]
       exact frz_node _ _ _ _
   | false =>
     have k1':kT a≠1:=by simpa using k1
     have hm:M = .op 6 a b:=by rw[←hM];simp[mkN,turnB,k1',k1]
     rw[hm]
     simp (disch:=omega) only[A_term_Make,wp,qa,qb,qc,f_oP,v_oP,f_tP,v_tP,kx,ky,tx,ty,b_slss,fa0,fa1,ld_k,ld_v,hi,oa,cellsP,oneP,Int.reduceBEq,Int.reduceLT,Int.reduceLE,Int.reduceGT,k1',k1]
     exact frz_node _ _ _ _
end Go.Ab
end
section
set_option linter.unusedVariables false
set_option linter.unusedSimpArgs false
namespace Go.Ab
variable {F:Funs}
structure RefTF (F:Funs):Prop where
 do_:F 128 = some A_xref02_Do
 digits:F 493 = some A_xref02_Digits
 text:F 511 = some A_xref22_Text
 size:F 512 = some A_xref22_Size
 eval:F 514 = some A_xref22_Eval
 num:F 518 = some A_xref22_Num
 read:F 519 = some A_xref22_Read
 make:F 520 = some A_xref22_Make
 fix:F 521 = some A_xref22_Fix
 isNum:F 522 = some A_xref22_num
end Go.Ab
end
section
set_option linter.unusedVariables false
set_option linter.unusedSimpArgs false
namespace Go.Ab
variable {F:Funs}
def evT (reads:List Int):T→Int
 | .num v => v
 | .rd i => if 0≤i∧i < reads.length then reads.getD i.toNat 0 else 0
 | .op o l r => doX o (evT reads l) (evT reads r)
theorem sp_teval (A:TermF F) (h513:F 513 = some A_term_Eval) (reads:List Int) (hr:reads.length≤9223372036854775807) (w:Tok):∀ {t:T},OkT t→pureS F 513 [tP t,.sl (intsC reads) reads.length w] = some (.i .i64 (evT reads t))
 | .num v,h => by
   refine pure_of h513 ?_
   have hk:=sp_known A (some (.num v))
   simp only[oP,fixT,tP,tC] at hk
   simp (disch:=omega) only[A_term_Eval,wp,qa,qb,qc,tP,tC,hk,List.drop_succ_cons,List.drop_zero,Int.reduceBEq,Int.reduceBNe]
   rfl
 | .rd i,h => by
   refine pure_of h513 ?_
   have hk:=sp_known A (some (.rd i))
   simp only[oP,fixT,tP,tC] at hk
   unfold evT
   by_cases c1:i < 0
   ·rw[if_neg (by omega)]
    simp (disch:=omega) only[A_term_Eval,wp,qa,qb,qc,tP,tC,hk,c1,List.drop_succ_cons,List.drop_zero,Int.reduceBEq,Int.reduceBNe]
   ·by_cases c2:((reads.length:Nat):Int)≤i
    ·rw[if_neg (by omega)]
     simp (disch:=omega) only[A_term_Eval,wp,qa,qb,qc,tP,tC,hk,c1,c2,List.drop_succ_cons,List.drop_zero,Int.reduceBEq,Int.reduceBNe]
    ·rw[if_pos (by omega)]
     have hp:=ints_part (l:=reads) (k:=i.toNat) (by omega)
     simp (disch:=omega) only[A_term_Eval,wp,qa,qb,qc,tP,tC,hk,c1,c2,hp,List.drop_succ_cons,List.drop_zero,Int.reduceBEq,Int.reduceBNe]
 | .op o l r,h => by
   refine pure_of h513 ?_
   have hk:=sp_known A (some (.op o l r))
   have hl:=sp_teval A h513 reads hr .non (t:=l) h.2.1
   have hrr:=sp_teval A h513 reads hr .non (t:=r) h.2.2
   have hv:=sp_value A h.1.1 h.1.2 (evT reads l) (evT reads r)
   simp only[oP,fixT,tP,tC] at hk hl hrr
   simp (disch:=omega) only[A_term_Eval,wp,qa,qb,qc,tP,tC,hk,hl,hrr,hv,List.drop_succ_cons,List.drop_zero,Int.reduceBEq,Int.reduceBNe]
   rfl
def sameT:T→T→Bool
 | .num a,.num b => a == b
 | .rd a,.rd b => a == b
 | .op o l r,.op p m s => o == p && (sameT l m && sameT r s)
 | _,_ => false
theorem sp_tsame (A:TermF F):∀ (x y:T),pureS F 401 [tP x,tP y] = some (.b (sameT x y))
 | .op o l r,.op p m s => by
   refine pure_of A.same ?_
   have kx:=sp_known A (some (.op o l r))
   have ky:=sp_known A (some (.op p m s))
   have h1:=sp_tsame A l m
   have h2:=sp_tsame A r s
   simp only[oP,fixT,tP,tC] at kx ky h1 h2
   unfold sameT
   cases c1:(o == p) with
   | false =>
     have c1':(o != p) = true:=by rw[bne,c1];rfl
     simp (disch:=omega) only[A_term_Same,wp,qa,qb,qc,tP,tC,kx,ky,h1,h2,c1',List.drop_succ_cons,List.drop_zero,bne_self_eq_false]
   | true =>
     have c1':(o != p) = false:=by rw[bne,c1];rfl
     cases c2:sameT l m with
     | false =>
       rw[c2] at h1
       simp (disch:=omega) only[A_term_Same,wp,qa,qb,qc,tP,tC,kx,ky,h1,h2,c1',List.drop_succ_cons,List.drop_zero,bne_self_eq_false]
     | true =>
       rw[c2] at h1
       simp (disch:=omega) only[A_term_Same,wp,qa,qb,qc,tP,tC,kx,ky,h1,h2,c1',List.drop_succ_cons,List.drop_zero,bne_self_eq_false]
 | .num a,.num b => by
   refine pure_of A.same ?_
   have kx:=sp_known A (some (.num a))
   have ky:=sp_known A (some (.num b))
   simp only[oP,fixT,tP,tC] at kx ky
   unfold sameT
   cases c1:(a == b) with
   | false =>
     have c1':(a != b) = true:=by rw[bne,c1];rfl
     simp (disch:=omega) only[A_term_Same,wp,qa,qb,qc,tP,tC,kx,ky,c1',List.drop_succ_cons,List.drop_zero,bne_self_eq_false]
   | true =>
     have c1':(a != b) = false:=by rw[bne,c1];rfl
     simp (disch:=omega) only[A_term_Same,wp,qa,qb,qc,tP,tC,kx,ky,c1',List.drop_succ_cons,List.drop_zero,bne_self_eq_false,Int.reduceBNe]
 | .rd a,.rd b => by
   refine pure_of A.same ?_
   have kx:=sp_known A (some (.rd a))
   have ky:=sp_known A (some (.rd b))
   simp only[oP,fixT,tP,tC] at kx ky
   unfold sameT
   cases c1:(a == b) with
   | false =>
     have c1':(a != b) = true:=by rw[bne,c1];rfl
     simp (disch:=omega) only[A_term_Same,wp,qa,qb,qc,tP,tC,kx,ky,c1',List.drop_succ_cons,List.drop_zero,bne_self_eq_false]
   | true =>
     have c1':(a != b) = false:=by rw[bne,c1];rfl
     simp (disch:=omega) only[A_term_Same,wp,qa,qb,qc,tP,tC,kx,ky,c1',List.drop_succ_cons,List.drop_zero,bne_self_eq_false,Int.reduceBNe]
 | .num a,.rd b => by
   refine pure_of A.same ?_
   have kx:=sp_known A (some (.num a))
   have ky:=sp_known A (some (.rd b))
   simp only[oP,fixT,tP,tC] at kx ky
   simp (disch:=omega) only[A_term_Same,wp,qa,qb,qc,tP,tC,kx,ky,List.drop_succ_cons,List.drop_zero,Int.reduceBNe]
   rfl
 | .num a,.op p m s => by
   refine pure_of A.same ?_
   have kx:=sp_known A (some (.num a))
   have ky:=sp_known A (some (.op p m s))
   simp only[oP,fixT,tP,tC] at kx ky
   simp (disch:=omega) only[A_term_Same,wp,qa,qb,qc,tP,tC,kx,ky,List.drop_succ_cons,List.drop_zero,Int.reduceBNe]
   rfl
 | .rd a,.num b => by
   refine pure_of A.same ?_
   have kx:=sp_known A (some (.rd a))
   have ky:=sp_known A (some (.num b))
   simp only[oP,fixT,tP,tC] at kx ky
   simp (disch:=omega) only[A_term_Same,wp,qa,qb,qc,tP,tC,kx,ky,List.drop_succ_cons,List.drop_zero,Int.reduceBNe]
   rfl
 | .rd a,.op p m s => by
   refine pure_of A.same ?_
   have kx:=sp_known A (some (.rd a))
   have ky:=sp_known A (some (.op p m s))
   simp only[oP,fixT,tP,tC] at kx ky
   simp (disch:=omega) only[A_term_Same,wp,qa,qb,qc,tP,tC,kx,ky,List.drop_succ_cons,List.drop_zero,Int.reduceBNe]
   rfl
 | .op o l r,.num b => by
   refine pure_of A.same ?_
   have kx:=sp_known A (some (.op o l r))
   have ky:=sp_known A (some (.num b))
   simp only[oP,fixT,tP,tC] at kx ky
   simp (disch:=omega) only[A_term_Same,wp,qa,qb,qc,tP,tC,kx,ky,List.drop_succ_cons,List.drop_zero,Int.reduceBNe]
   rfl
 | .op o l r,.rd b => by
   refine pure_of A.same ?_
   have kx:=sp_known A (some (.op o l r))
   have ky:=sp_known A (some (.rd b))
   simp only[oP,fixT,tP,tC] at kx ky
   simp (disch:=omega) only[A_term_Same,wp,qa,qb,qc,tP,tC,kx,ky,List.drop_succ_cons,List.drop_zero,Int.reduceBNe]
   rfl
end Go.Ab
end
section
set_option linter.unusedVariables false
set_option linter.unusedSimpArgs false
namespace Go.Ab
variable {F:Funs}
def szF (a b:Nat):AV:=.fn 390 [] [.mp a 0,.mp b 0]
structure SzP (g:G) (a b:Nat) (n:Int):Prop where
 ha:g.hp a = some (.cells [.i .i64 n] false)
 hb:g.hp b = some (.cells [szF a b] false)
 ne:a≠b
 la:a < g.nx
 lb:b < g.nx
structure SzK (g g':G) (a:Nat) (n:Int):Prop where
 nx:g.nx≤g'.nx
 ha:g'.hp a = some (.cells [.i .i64 n] false)
 keep:∀ i,i < g.nx→i≠a→g'.hp i = g.hp i
theorem rp_size1 (A:TermF F) (a b:Nat):∀ (t:T) (x:Option T) (n:Nat) (g:G),fixT x = t→SzP g a b (n:Int)→n + nodes t≤1000000→∃ v g',callS F 390 [oP x,.mp a 0,.mp b 0] g = some (v,g')∧v = .tup []∧SzK g g' a ((n + nodes t:Nat):Int):=by
 intro t
 induction t with
 | num v =>
   intro x n g hx hg hn
   obtain ⟨ha,hb,ne,la,lb⟩:=hg
   unfold szF at hb
   simp only[nodes] at hn ⊢
   refine raw_of (P:=fun v' g' => v' = .tup []∧SzK g g' a ((n + 1:Nat):Int)) A.size1 ?_
   have hk:=sp_known A x
   rw[hx] at hk
   have c:¬ (1000000:Int)≤(n:Int):=by omega
   have hw:=succ_wrap (k:=n) (by omega)
   simp only[tP,tC] at hk
   simp (disch:=omega) only[A_term_Size_1,wp,qa,qb,qc,gl,ha,hb,hw,c,f_oP,v_oP,hk,List.drop_succ_cons,List.drop_zero,Int.reduceBEq]
   refine ⟨_,rfl,rfl,by dsimp only;omega,?_,fun i hi hia => ?_⟩
   ·simp (disch:=omega) only[upd_same]
   ·simp (disch:=omega) only[upd_ne]
 | rd v =>
   intro x n g hx hg hn
   obtain ⟨ha,hb,ne,la,lb⟩:=hg
   unfold szF at hb
   simp only[nodes] at hn ⊢
   refine raw_of (P:=fun v' g' => v' = .tup []∧SzK g g' a ((n + 1:Nat):Int)) A.size1 ?_
   have hk:=sp_known A x
   rw[hx] at hk
   have c:¬ (1000000:Int)≤(n:Int):=by omega
   have hw:=succ_wrap (k:=n) (by omega)
   simp only[tP,tC] at hk
   simp (disch:=omega) only[A_term_Size_1,wp,qa,qb,qc,gl,ha,hb,hw,c,f_oP,v_oP,hk,List.drop_succ_cons,List.drop_zero,Int.reduceBEq]
   refine ⟨_,rfl,rfl,by dsimp only;omega,?_,fun i hi hia => ?_⟩
   ·simp (disch:=omega) only[upd_same]
   ·simp (disch:=omega) only[upd_ne]
 | op o l r ihl ihr =>
   intro x n g hx hg hn
   have hg0:=hg
   obtain ⟨ha,hb,ne,la,lb⟩:=hg
   unfold szF at hb
   simp only[nodes] at hn ⊢
   refine raw_of (P:=fun v' g' => v' = .tup []∧SzK g g' a ((n + (1 + nodes l + nodes r):Nat):Int)) A.size1 ?_
   have hk:=sp_known A x
   rw[hx] at hk
   have c:¬ (1000000:Int)≤(n:Int):=by omega
   have hw:=succ_wrap (k:=n) (by omega)
   simp only[tP,tC] at hk
   simp (disch:=omega) only[A_term_Size_1,wp,qa,qb,qc,gl,ha,hb,hw,c,f_oP,v_oP,hk,List.drop_succ_cons,List.drop_zero,Int.reduceBEq]
   refine bindO_call _ (ihl (some l) (n + 1) _ rfl ⟨?_,?_,ne,?_,?_⟩ (by omega)) ?_
   ·simp (disch:=omega) only[upd_same,upd_ne]
   ·simp (disch:=omega) only[upd_same,upd_ne,hb];rfl
   ·dsimp only;omega
   ·dsimp only;omega
   rintro v1 g1 ⟨rfl,nx1,ha1,kp1⟩
   dsimp only at nx1
   have hb1:g1.hp b = some (.cells [szF a b] false):=by
    rw[kp1 b (by dsimp only;omega) (fun h => ne h.symm)]
    simp (disch:=omega) only[upd_same,upd_ne,hb];rfl
   have hb1':=hb1
   unfold szF at hb1'
   simp (disch:=omega) only[wp,qa,qb,qc,gl,ha1,hb1',List.drop_succ_cons,List.drop_zero,Int.reduceBEq]
   refine bindO_call _ (ihr (some r) (n + 1 + nodes l) _ rfl ⟨ha1,hb1,ne,?_,?_⟩ (by omega)) ?_
   ·dsimp only;omega
   ·dsimp only;omega
   rintro v2 g2 ⟨rfl,nx2,ha2,kp2⟩
   dsimp only at nx2
   simp (disch:=omega) only[wp,qa,qb,qc,gl]
   refine ⟨_,rfl,rfl,by omega,?_,fun i hi hia => ?_⟩
   ·rw[ha2,show n + 1 + nodes l + nodes r = n + (1 + nodes l + nodes r) by omega]
   ·rw[kp2 i (by dsimp only;omega) hia]
    dsimp only
    rw[kp1 i (by dsimp only;omega) hia]
    simp (disch:=omega) only[upd_ne]
theorem sp_tsize (A:TermF F) {t:T} (hn:nodes t≤1000000):pureS F 384 [tP t] = some (.i .i64 ((nodes t:Nat):Int)):=by
 refine pure_of A.size ?_
 simp (disch:=omega) only[A_term_Size,wp,qa,qb,qc,gl]
 refine bindO_call _ (rp_size1 A 1 3 t (some t) 0 _ rfl ⟨?_,?_,by omega,?_,?_⟩ (by omega)) ?_
 ·simp (disch:=omega) only[upd_same,upd_ne];rfl
 ·simp (disch:=omega) only[upd_same,upd_ne];rfl
 ·dsimp only;omega
 ·dsimp only;omega
 rintro v1 g1 ⟨rfl,nx1,ha1,kp1⟩
 simp (disch:=omega) only[wp,qa,qb,qc,gl,ha1]
end Go.Ab
end
section
set_option linter.unusedVariables false
set_option linter.unusedSimpArgs false
namespace Go.Ab
theorem i64_wr (n:Int):I64 (IntKind.i64.wrap n):=by
 unfold I64
 simp[IntKind.wrap,IntKind.bits,IntKind.signed]
 omega
theorem doX_i64 (o a b:Int):I64 (doX o a b):=by
 unfold doX xorI
 split
 ·exact i64_wr _
 split
 ·exact i64_wr _
 split
 ·exact i64_wr _
 split
 ·exact i64_wr _
 split
 ·split<;>exact ⟨by omega,by omega⟩
 split
 ·split<;>exact ⟨by omega,by omega⟩
 ·exact ⟨by omega,by omega⟩
theorem isN_iff {t:T} {v:Int}:isN t v = true↔t = .num v:=by
 unfold isN
 cases t<;>simp[kT,vT]
theorem kT_one {t:T}:kT t = 1↔t = .num (vT t):=by cases t<;>simp[kT,vT]
theorem okT_mkN {o:Int} {a b:T} (ho:1≤o∧o≤6) (ha:OkT a) (hb:OkT b):OkT (mkN o a b):=by
 unfold mkN
 repeat' split
 all_goals first | exact ha | exact hb | exact ⟨ho,ha,hb⟩
theorem okT_mk {o:Int} {a b:T} (ha:OkT a) (hb:OkT b):OkT (mkT o a b):=by
 unfold mkT
 split
 ·exact ⟨by omega,by omega⟩
 split
 ·exact doX_i64 _ _ _
 split<;>exact okT_mkN (by omega) (by assumption) (by assumption)
theorem nodes_mkN (o:Int) (a b:T):nodes (mkN o a b)≤1 + nodes a + nodes b:=by
 unfold mkN
 repeat' split
 all_goals first | omega | (simp only[nodes];omega)
theorem nodes_mk (o:Int) (a b:T):nodes (mkT o a b)≤1 + nodes a + nodes b:=by
 unfold mkT
 split
 ·simp only[nodes];omega
 split
 ·simp only[nodes];omega
 split
 ·have:=nodes_mkN o b a;omega
 ·exact nodes_mkN o a b
theorem evT_i64 {reads:List Int} (hr:∀ v∈reads,I64 v):∀ {t:T},OkT t→I64 (evT reads t)
 | .num v,h => h
 | .rd i,h => by
   unfold evT
   split
   ·rename_i hi
    rw[List.getD_eq_getElem?_getD,List.getElem?_eq_getElem (by omega)]
    exact hr _ (List.getElem_mem _)
   ·exact ⟨by omega,by omega⟩
 | .op o l r,h => doX_i64 _ _ _
theorem wr_i64 {n:Int} (h:I64 n):IntKind.i64.wrap n = n:=i64_wrap h.1 h.2
theorem xorI_comm (a b:Int):xorI a b = xorI b a:=by unfold xorI;rw[BitVec.xor_comm]
theorem ofInt_wr {n:Int} (h:I64 n):IntKind.i64.wrap ((BitVec.ofInt 64 n).toNat:Int) = n:=by
 rw[BitVec.toNat_ofInt]
 unfold I64 at h
 simp[IntKind.wrap,IntKind.bits,IntKind.signed]
 omega
theorem xorI_zero {a:Int} (h:I64 a):xorI 0 a = a:=by
 have e:xorI 0 a = IntKind.i64.wrap ((BitVec.ofInt 64 a).toNat:Int):=by
  unfold xorI
  have:(BitVec.ofInt IntKind.i64.bits 0 ^^^ BitVec.ofInt IntKind.i64.bits a) = BitVec.ofInt 64 a:=by
   show (BitVec.ofInt 64 0 ^^^ BitVec.ofInt 64 a) = _
   simp
  exact congrArg (fun (x:BitVec 64) => IntKind.i64.wrap ((x.toNat:Nat):Int)) this
 rw[e,ofInt_wr h]
theorem doX_comm {o:Int} (h:turnB o = true) (a b:Int):doX o a b = doX o b a:=by
 unfold turnB at h
 simp only[Bool.or_eq_true,beq_iff_eq] at h
 rcases h with ((rfl | rfl) | rfl) | rfl
 ·simp[doX,Int.add_comm]
 ·simp[doX,Int.mul_comm]
 ·simp[doX,xorI_comm]
 ·simp[doX,eq_comm]
theorem ev_mkN {reads:List Int} (hr:∀ v∈reads,I64 v) {o:Int} {a b:T} (ho:1≤o∧o≤6) (ha:OkT a) (hb:OkT b):evT reads (mkN o a b) = doX o (evT reads a) (evT reads b):=by
 have va:=evT_i64 hr ha
 have vb:=evT_i64 hr hb
 unfold mkN
 split
 ·rename_i h
  simp only[Bool.and_eq_true,Bool.or_eq_true,beq_iff_eq,isN_iff] at h
  obtain ⟨h1,rfl⟩:=h
  rcases h1 with rfl | rfl
  ·simp[doX,evT,wr_i64 vb]
  ·simp[doX,evT,xorI_zero vb]
 split
 ·rename_i h
  simp only[Bool.and_eq_true,Bool.or_eq_true,beq_iff_eq,isN_iff] at h
  obtain ⟨h1,rfl⟩:=h
  rcases h1 with (rfl | rfl) | rfl
  ·simp[doX,evT,wr_i64 va]
  ·simp[doX,evT,xorI_comm _ 0,xorI_zero va]
  ·simp[doX,evT,wr_i64 va]
 split
 ·rename_i h
  simp only[Bool.and_eq_true,Bool.or_eq_true,beq_iff_eq,isN_iff] at h
  obtain ⟨rfl,h1 | h1⟩:=h
  ·subst h1;simp[doX,evT];rfl
  ·subst h1;simp[doX,evT,wr_i64 va]
 split
 ·rename_i h
  simp only[Bool.and_eq_true,Bool.or_eq_true,beq_iff_eq,isN_iff] at h
  obtain ⟨rfl,h1 | h1⟩:=h
  ·subst h1;simp[doX,evT];rfl
  ·subst h1;simp[doX,evT,wr_i64 vb]
 ·rfl
theorem doX_bad {o:Int} (h:o < 1∨6 < o) (a b:Int):doX o a b = 0:=by
 unfold doX
 rw[if_neg (by omega),if_neg (by omega),if_neg (by omega),if_neg (by omega),if_neg (by omega),if_neg (by omega)]
theorem ev_mk {reads:List Int} (hr:∀ v∈reads,I64 v) (o:Int) {a b:T} (ha:OkT a) (hb:OkT b):evT reads (mkT o a b) = doX o (evT reads a) (evT reads b):=by
 unfold mkT
 split
 ·rename_i h
  rw[doX_bad h];rfl
 split
 ·rename_i h
  rw[kT_one,kT_one] at h
  rw[h.1,h.2];rfl
 split
 ·rename_i h
  simp only[Bool.and_eq_true] at h
  rw[ev_mkN hr (by omega) hb ha,doX_comm h.1]
 ·exact ev_mkN hr (by omega) ha hb
theorem dd_head (u:Nat):∃ d l,Lib.decDigits u = d :: l∧48≤d.toNat∧d.toNat≤57:=by
 induction u using Nat.strongRecOn with
 | _ u ih =>
   by_cases h:u < 10
   ·rw[dd_small h]
    exact ⟨_,_,rfl,by simp only[UInt8.toNat_ofNat'];omega,by simp only[UInt8.toNat_ofNat'];omega⟩
   ·rw[dd_big h]
    obtain ⟨d,l,e,h1,h2⟩:=ih (u / 10) (by omega)
    rw[e]
    exact ⟨d,_,rfl,h1,h2⟩
theorem itoa_head (n:Int):∃ d l,itoaS n = d :: l∧d.toNat≤57:=by
 unfold itoaS Lib.itoa
 split
 ·exact ⟨_,_,rfl,by decide⟩
 ·obtain ⟨d,l,e,_,h2⟩:=dd_head n.toNat
  exact ⟨d,l,e,h2⟩
theorem num_rd (n:Int) (i:Int):Op.bytesLess (txt (.num n)) (txt (.rd i)) = true:=by
 obtain ⟨d,l,e,h⟩:=itoa_head n
 simp only[txt,e,List.cons_append,List.nil_append,Op.bytesLess,Bool.or_eq_true,decide_eq_true_eq]
 refine .inl ?_
 show d.toNat < (105:UInt8).toNat
 have:(105:UInt8).toNat = 105:=rfl
 omega
end Go.Ab
end
section
set_option linter.unusedVariables false
set_option linter.unusedSimpArgs false
namespace Go.Ab
variable {F:Funs}
structure LawT (F:Funs):Prop where
 t:TermF F
 r:RefTF F
 teval:F 513 = some A_term_Eval
 place:F 10 = some A_xlaw00_Place
 awake:F 509 = some A_xlaw22_awake
 made:F 510 = some A_xlaw22_made
theorem it_zero:itoaS 0 = [48]:=by
 have:=it_pos 0
 rw[dd_small (by omega)] at this
 exact this
theorem sp_text_nil (A:TermF F):pureS F 389 [.nilp] = some (.s (bs [48])):=by
 refine pure_of A.text ?_
 have hk:=sp_known A none
 have hi:=sp_itoa A.itoa (n:=0) ⟨by omega,by omega⟩
 rw[it_zero] at hi
 simp only[oP,fixT,tP,tC] at hk
 simp (disch:=omega) only[A_term_Text,wp,qa,qb,qc,hk,hi,List.drop_succ_cons,List.drop_zero,Int.reduceBEq]
theorem mk_zero:mkT 1 (.rd 0) (.num 0) = .rd 0:=by
 have h:=num_rd 0 0
 unfold mkT
 rw[if_neg (by omega),if_neg (by simp[kT]),h]
 rfl
theorem litI0:(⟨#[105,48]⟩:ByteArray) = bs [105,48]:=rfl
theorem lit48:(⟨#[48]⟩:ByteArray) = bs [48]:=rfl
theorem sp_awake22 (A:LawT F):pureS F 509 [] = some (.b true):=by
 refine pure_of A.awake ?_
 have h1:=sp_tread A.t 0
 have h2:=sp_tnum A.t 0
 have ok:OkT (.rd 0):=⟨by omega,by omega⟩
 have h3:=sp_make A.t 1 (x:=some (.rd 0)) (y:=some (.num 0)) ok ⟨by omega,by omega⟩ (by simp[fixT,nodes]) (by simp[fixT,nodes])
 simp only[fixT,mk_zero] at h3
 have h4:=sp_text A.t ok (by simp[nodes])
 have ht:txt (.rd 0) = [105,48]:=by simp[txt,it_zero]
 rw[ht] at h4
 have h5:=sp_teval A.t A.teval [7] (by simp) .non ok
 have he:evT [7] (.rd 0) = 7:=rfl
 rw[he] at h5
 have h6:=sp_tsize A.t (t:=.rd 0) (by simp[nodes])
 have h7:=sp_tsame A.t (.rd 0) (.rd 0)
 have hs:sameT (.rd 0) (.rd 0) = true:=rfl
 rw[hs] at h7
 have h8:=sp_text_nil A.t
 have hn:nodes (.rd 0) = 1:=rfl
 rw[hn] at h6
 have i7:intsC [7] = [.i .i64 7]:=rfl
 have l7:([7]:List Int).length = 1:=rfl
 have e1:(([105,48]:List UInt8) == [105,48]) = true:=rfl
 have e2:(([48]:List UInt8) == [48]) = true:=rfl
 rw[i7,l7] at h5
 simp only[oP,tP,tC] at h1 h2 h3 h4 h5 h6 h7
 simp (disch:=omega) only[A_xlaw22_awake,wp,qa,qb,qc,h1,h2,h3,h4,h5,h6,h7,h8,litI0,lit48,b_seql,e1,e2,Int.reduceBEq,List.drop_succ_cons,List.drop_zero,Int.natCast_one]
theorem b_quoC {c:Int} (hc:c≠0) (v:Int):abin .quo (.i .i64 v) (.i .i64 c) = some (.i .i64 (IntKind.i64.wrap (v.tdiv c))):=by
 show ibin .quo .i64 v c = _
 simp[ibin,hc]
theorem b_remC {c:Int} (hc:c≠0) (v:Int):abin .rem (.i .i64 v) (.i .i64 c) = some (.i .i64 (v.tmod c)):=by
 show ibin .rem .i64 v c = _
 simp[ibin,hc]
end Go.Ab
end
section
set_option linter.unusedVariables false
set_option linter.unusedSimpArgs false
namespace Go.Ab
variable {F:Funs}
theorem retV_ret {rs:List ARes} {P:AV→Prop} {e:Env} {g:G}:retV rs P .ret e g = (∃ v,(match resE rs e g with | some v0 => frz g.hp depth v0 | none => none) = some v∧P v):=rfl
end Go.Ab
end
section
set_option linter.unusedVariables false
set_option maxRecDepth 100000
namespace Go.Proofs.YtmlfhgdpcjhnpaaDoor
open Go.Ab
theorem exprF:ExprF funs:=⟨rfl,rfl,rfl,rfl,rfl,rfl,rfl,rfl,rfl,rfl,rfl⟩
theorem termF:TermF funs:=⟨exprF,rfl,rfl,rfl,rfl,rfl,rfl,rfl,rfl,rfl,rfl,rfl,rfl⟩
theorem refTF:RefTF funs:=⟨rfl,rfl,rfl,rfl,rfl,rfl,rfl,rfl,rfl,rfl⟩
theorem lawT:LawT funs:=⟨termF,refTF,rfl,rfl,rfl,rfl⟩
theorem i64_of {n:Int} (h:(Lit.int .i64 n).wf = true):I64 n:=by
 unfold I64
 simp only[Lit.wf,Bool.and_eq_true,decide_eq_true_eq] at h
 have h1:IntKind.i64.min = -9223372036854775808:=rfl
 have h2:IntKind.i64.max = 9223372036854775807:=rfl
 omega
end Go.Proofs.YtmlfhgdpcjhnpaaDoor
end
section
namespace Go.Ab
def A_cmp_Compare_int:AFun:={ res:=[.t 4],body:=(.seq (.reg false [qo 4 (.mv (.c (.i .i64 0)))])
 (.seq (.reg false [qm 7 0,qo 8 (.call .pure (.c (.fn 266 [] [])) [.t 7]),qm 5 8])
 (.seq (.reg false [qm 9 1,qo 10 (.call .pure (.c (.fn 266 [] [])) [.t 9]),qm 6 10])
 (.seq (.seq (.reg false [qm 11 5])
 (.cond (.t 11) (.seq (.seq (.reg false [qm 12 6])
 (.cond (.t 12) (.seq (.reg false [qo 4 (.mv (.c (.i .i64 0)))])
 .ret)
 .skip))
 (.seq (.reg false [qo 4 (.mv (.c (.i .i64 (-1))))])
 .ret))
 .skip))
 (.seq (.seq (.reg false [qm 13 6])
 (.cond (.t 13) (.seq (.reg false [qo 4 (.mv (.c (.i .i64 1)))])
 .ret)
 .skip))
 (.seq (.seq (.reg false [qm 14 0,qm 15 1,qo 16 (.bin .lss (.t 14) (.t 15))])
 (.cond (.t 16) (.seq (.reg false [qo 4 (.mv (.c (.i .i64 (-1))))])
 .ret)
 .skip))
 (.seq (.seq (.reg false [qm 17 0,qm 18 1,qo 19 (.bin .gtr (.t 17) (.t 18))])
 (.cond (.t 19) (.seq (.reg false [qo 4 (.mv (.c (.i .i64 1)))])
 .ret)
 .skip))
 (.seq (.reg false [qo 4 (.mv (.c (.i .i64 0)))])
 .ret)))))))) }
def A_cmp_Or_int:AFun:={ res:=[.t 2],body:=(.seq (.reg false [qo 2 (.mv (.c (.i .i64 0)))])
 (.seq (.reg false [qo 3 (.mv (.c (.i .i64 0)))])
 (.seq (.seq (.reg false [qm 6 0,qo 7 (.len (.t 6)),qo 8 (.mv (.c (.i .i64 0)))])
 (.blk 0 (.loop (.seq (.reg false [qo 9 (.bin .lss (.t 8) (.t 7))])
 (.seq (.cond (.t 9) .skip
 (.ext 0))
 (.seq (.blk 1 (.seq (.reg false [qo 10 (.ia 1 (.t 6) (.t 8)),qo 11 (.ld none (.t 10)),qm 5 11])
 (.seq (.reg false [qm 12 5,qm 13 3,qo 14 (.bin .neq (.t 12) (.t 13))])
 (.cond (.t 14) (.seq (.reg false [qm 15 5,qm 2 15])
 .ret)
 .skip))))
 (.reg false [qo 16 (.bin .add (.t 8) (.c (.i .i64 1))),qm 8 16])))))))
 (.seq (.reg false [qm 17 3,qm 2 17])
 .ret)))) }
def A_cmp_isNaN_int:AFun:={ res:=[.t 2],body:=(.seq (.reg false [qo 2 (.mv (.c (.b false)))])
 (.seq (.reg false [qm 3 0,qm 4 0,qo 5 (.bin .neq (.t 3) (.t 4)),qm 2 5])
 .ret)) }
structure Pk_cmp (F:Funs):Prop where
 cmp_Compare_int:F 248 = some A_cmp_Compare_int
 cmp_Or_int:F 249 = some A_cmp_Or_int
 cmp_isNaN_int:F 266 = some A_cmp_isNaN_int
end Go.Ab
end
section
set_option linter.unusedVariables false
set_option linter.unusedSimpArgs false
namespace Go.Ab
variable {F:Funs}
structure LenG (X:Gr):Prop where
 fl:X.co.flatten.length≤1000
 col:X.co.length≤1000
 cos:∀ k,(X.co.getD k []).length≤1000
 rmw:X.rmw.length≤1000
 data:X.data.length≤1000
 ctrl:X.ctrl.length≤1000
 ctrli:X.ctrli.length≤1000
theorem flat_le:∀ {l:List (List Int)} {m:Nat},(∀ c∈l,c.length≤m)→l.flatten.length≤l.length * m
 | [],_,_ => by simp
 | c :: l,m,h => by
   have h1:=flat_le (l:=l) (m:=m) fun c hc => h c (List.mem_cons_of_mem _ hc)
   have h2:=h c (List.mem_cons_self ..)
   rw[List.flatten_cons,List.length_append,List.length_cons,Nat.succ_mul]
   omega
theorem FewG.len {X:Gr} (h:FewG X):LenG X:=by
 have h1:=flat_le h.cos
 have h2:=h.co
 have h3:X.co.length * 50≤6 * 50:=Nat.mul_le_mul_right _ h2
 refine ⟨by omega,by omega,fun k => ?_,by have:=h.rmw;omega,by have:=h.data;omega,by have:=h.ctrl;omega,by have:=h.ctrli;omega⟩
 by_cases hk:k < X.co.length
 ·have hm:X.co.getD k []∈X.co:=by
   rw[List.getD_eq_getElem?_getD,List.getElem?_eq_getElem hk];exact List.getElem_mem hk
  have:=h.cos _ hm;omega
 ·rw[List.getD_eq_getElem?_getD,List.getElem?_eq_none (by omega)];simp
end Go.Ab
end
section
set_option linter.unusedVariables false
set_option linter.unusedSimpArgs false
namespace Go.Ab
def wE (i:Nat):Ev:=⟨0,2,0,(i:Int),0,false⟩
end Go.Ab
end
section
set_option linter.unusedVariables false
set_option linter.unusedSimpArgs false
namespace Go.Ab
def EvS (e:Ev):Prop:=(e.kd = 1∧(e.lc = 0∨e.lc = 1)∧(e.md = 0∨e.md = 1))∨(e.kd = 2∧(e.lc = 0∨e.lc = 1)∧(e.md = 0∨e.md = 2))∨(e.kd = 3∧1≤e.md∧e.md≤4∧e.lc = 0∧e.vl = 0∧e.ex = false)
structure SkInv (X:Gr) (t:Int):Prop where
 locs:X.locs = 2
 two:∃ rest,X.evs = [wE 0,wE 1] ++ rest∧∀ e∈rest,1≤e.th∧e.th≤t∧EvS e
 th:X.evs.Pairwise fun a b => a.th≤b.th
 rmw:RmL X.evs X.rmw
 data:DpL X.evs X.data
 ctrl:DpL X.evs X.ctrl
 ctrli:X.ctrli = []
 dl:X.data.length≤X.evs.length * X.evs.length
 cl:X.ctrl.length≤X.evs.length * X.evs.length
theorem pw_rising {l:List (Int × Int)} (h:l.Pairwise lessP):Rising l:=by
 intro i hi
 rw[List.getD_eq_getElem?_getD,List.getD_eq_getElem?_getD,List.getElem?_eq_getElem (by omega),List.getElem?_eq_getElem hi]
 exact List.pairwise_iff_getElem.1 h i (i + 1) (by omega) hi (by omega)
theorem getD_mem {α:Type} {l:List α} {i:Nat} {d:α} (h:i < l.length):l.getD i d∈l:=by
 rw[List.getD_eq_getElem?_getD,List.getElem?_eq_getElem h]
 exact List.getElem_mem h
theorem SkInv.ev {X:Gr} {t:Int} (h:SkInv X t) (h4:t≤4) {i:Nat} (hi:i < X.evs.length):EvOk X.locs i (X.evs.getD (i - 1) ev0) (X.evs.getD i ev0):=by
 obtain ⟨rest,h2,h3⟩:=h.two
 rw[h.locs]
 refine ⟨fun hl => ?_,fun hl => ?_⟩
 ·have:i = 0∨i = 1:=by omega
  rw[h2]
  rcases this with rfl | rfl<;>exact ⟨rfl,rfl,rfl,rfl,rfl,rfl⟩
 ·obtain ⟨j,rfl⟩:∃ j,i = 2 + j:=⟨i - 2,by omega⟩
  have he:X.evs.getD (2 + j) ev0 = rest.getD j ev0:=by
   rw[h2];exact getD_r (es:=[wE 0,wE 1])
  have hj:j < rest.length:=by rw[h2] at hi;simp at hi;omega
  obtain ⟨a,b,c⟩:=h3 _ (getD_mem (d:=ev0) hj)
  have hp:(X.evs.getD (2 + j - 1) ev0).th≤(X.evs.getD (2 + j) ev0).th:=by
   rw[List.getD_eq_getElem?_getD,List.getD_eq_getElem?_getD,List.getElem?_eq_getElem (by omega),List.getElem?_eq_getElem hi]
   exact List.pairwise_iff_getElem.1 h.th (2 + j - 1) (2 + j) (by omega) hi (by omega)
  rw[he] at hp ⊢
  refine ⟨a,by omega,hp,?_⟩
  rcases c with ⟨c1,c2,c3⟩ | ⟨c1,c2,c3⟩ | c
  ·exact .inl ⟨c1,by omega,by omega,c3⟩
  ·exact .inr (.inl ⟨c1,by omega,by omega,c3⟩)
  ·exact .inr (.inr c)
theorem DpL.ok {X:Gr} {l} (h:DpL X.evs l):DepsOk X l:=⟨fun i hi => h.1 _ (getD_mem hi),pw_rising h.2⟩
theorem SkInv.ok {X:Gr} {t:Int} (h:SkInv X t) (h4:t≤4) (hn:X.evs.length≤14) (hr:X.rf.length = X.evs.length) (hrf:∀ i,i < X.evs.length→RfOk X i) (hc:X.co.length = 2) (hco:∀ i,i < 2→CoOk X i):FewG X∧GraphOk X:=by
 have hl2:2≤X.evs.length:=by obtain ⟨rest,h2,_⟩:=h.two;rw[h2];simp
 have hm:=h.rmw.len
 have hsq:X.evs.length * X.evs.length≤14 * 14:=Nat.mul_le_mul hn hn
 have hd:=h.dl
 have hcl:=h.cl
 refine ⟨⟨by omega,by omega,by omega,fun c hc' => ?_,by omega,by omega,by omega,by rw[h.ctrli];simp⟩,⟨by rw[h.locs];omega,by rw[h.locs];omega,by rw[h.locs];omega,by omega,hr,by rw[h.locs,hc];rfl,fun i hi => h.ev h4 hi,hrf,fun i hi => hco i (by omega),⟨fun j hj => ?_,fun i hi => h.rmw.once i hi,pw_rising h.rmw.rise⟩,h.data.ok,h.ctrl.ok,by rw[h.ctrli];exact ⟨fun i hi => absurd hi (Nat.not_lt_zero _),fun i hi => absurd hi (Nat.not_lt_zero _)⟩⟩⟩
 ·obtain ⟨i,hi,rfl⟩:=List.mem_iff_getElem.1 hc'
  have h1:=(hco i (by omega)).len
  rw[List.getD_eq_getElem?_getD,List.getElem?_eq_getElem hi] at h1
  simp only[Option.getD_some] at h1
  have h2:=cntW_le X i X.evs.length
  omega
 ·obtain ⟨a,b,c,d⟩:=h.rmw.pairs _ (getD_mem (d:=(0,0)) hj)
  exact ⟨a,by omega,b,d⟩
end Go.Ab
end
section
set_option linter.unusedVariables false
set_option linter.unusedSimpArgs false
namespace Go.Ab
variable {F:Funs}
def TkOk (esz:Nat) (g:G) (t:Tok):Prop:=t = .rig∨∃ i,t = .own i esz∧g.hp i = some (.tok true)∧i < g.nx
def TkNe (t u:Tok):Prop:=∀ i e f,t = .own i e→u≠.own i f
theorem TkNe.rig_l {u:Tok}:TkNe .rig u:=fun _ _ _ h => by cases h
theorem TkNe.symm {t u:Tok} (h:TkNe t u):TkNe u t:=fun i e f h1 h2 => h i f e h2 h1
structure AppR (esz id:Nat) (t t':Tok) (g:G) (hp':Nat→Option Blk):Prop where
 tok:t' = .rig∨(t' = .own id esz∧hp' id = some (.tok true))
 keep:∀ i,i≠id→(∀ e,t≠.own i e)→hp' i = g.hp i
theorem bindO_app1 {d:Bool} {b j:Nat} {dst:Option Nat} {os:List AOper} {e:Env} {K:Env→G→Prop} {al:Nat→Bool} {id esz bytes n m:Nat} {cs ds:List AV} {t t2:Tok} {g:G}
  (ht:TkOk esz g t) (hal:∀ i,t = .own i esz→al i = true) (hc:bytes≤1000∧n + m≤1000000∧cs.length = n * esz∧ds.length = m * esz)
  (hk:∀ t' hp',AppR esz id t t' g hp'→(0 < m→t' = .own id esz∧hp' id = some (.tok true))→WR F d b j os (put e dst (.sl (cs ++ ds) (n + m) t')) ⟨hp',g.nx⟩ K):bindO F d b j dst os e K (vApp al id esz bytes (.sl cs n t) (.sl ds m t2) g):=by
 obtain ⟨h1,h2,h3,h4⟩:=hc
 have h5:(n + m) * bytes≤2 ^ 46:=Nat.le_trans (Nat.mul_le_mul h2 h1) (by omega)
 have h6:n + m≤2 ^ 62:=Nat.le_trans h2 (by omega)
 rcases ht with rfl | ⟨i,rfl,hi,hlt⟩
 ·by_cases hm:m = 0
  ·subst hm
   have hd:ds = []:=List.length_eq_zero_iff.1 (by omega)
   subst hd
   rw[vApp_rig0,appD_ok ⟨h5,h6,h3,h4⟩]
   have:=hk .rig g.hp ⟨.inl rfl,fun _ _ _ => rfl⟩ (fun h => absurd h (Nat.lt_irrefl 0))
   rw[List.append_nil,Nat.add_zero] at this
   exact this
  ·rw[vApp_rig hm,appD_ok ⟨h5,h6,h3,h4⟩]
   exact hk (.own id esz) _ ⟨.inr ⟨rfl,by simp[upd]⟩,fun i hi _ => by simp[upd,hi]⟩ (fun _ => ⟨rfl,by simp[upd]⟩)
 ·rw[vApp_own,appD_ok ⟨h5,h6,h3,h4⟩,hal i rfl,selB_true,hi,appK_ok]
  exact hk (.own id esz) _ ⟨.inr ⟨rfl,by simp[upd]⟩,fun k hk' hne => by
   have:k≠i:=fun h => hne esz (by rw[h])
   simp[upd,hk',this]⟩ (fun _ => ⟨rfl,by simp[upd]⟩)
theorem bindO_app {d:Bool} {b j:Nat} {dst:Option Nat} {os:List AOper} {e:Env} {K:Env→G→Prop} {al:Nat→Bool} {id esz bytes n m:Nat} {cs ds:List AV} {t t2:Tok} {g:G}
  (ht:TkOk esz g t) (hal:∀ i,t = .own i esz→al i = true) (hc:bytes≤1000∧n + m≤1000000∧cs.length = n * esz∧ds.length = m * esz)
  (hk:∀ t' hp',AppR esz id t t' g hp'→WR F d b j os (put e dst (.sl (cs ++ ds) (n + m) t')) ⟨hp',g.nx⟩ K):bindO F d b j dst os e K (vApp al id esz bytes (.sl cs n t) (.sl ds m t2) g):=
 bindO_app1 ht hal hc fun t' hp' h _ => hk t' hp' h
theorem TkOk.mono {esz:Nat} {g:G} {t:Tok} {hp':Nat→Option Blk} {m:Nat} (h:TkOk esz g t) (hk:∀ i,t = .own i esz→hp' i = g.hp i) (hm:g.nx≤m):TkOk esz ⟨hp',m⟩ t:=by
 rcases h with rfl | ⟨i,rfl,h1,h2⟩
 ·exact .inl rfl
 ·exact .inr ⟨i,rfl,by show hp' i = _;rw[hk i rfl,h1],by show i < m;omega⟩
theorem AppR.ok {esz id:Nat} {t t':Tok} {g:G} {hp':Nat→Option Blk} (h:AppR esz id t t' g hp') {m:Nat} (hm:id < m):TkOk esz ⟨hp',m⟩ t':=by
 rcases h.tok with rfl | ⟨rfl,h1⟩
 ·exact .inl rfl
 ·exact .inr ⟨id,rfl,h1,hm⟩
theorem AppR.ne {esz id:Nat} {t t' u:Tok} {g:G} {hp':Nat→Option Blk} (h:AppR esz id t t' g hp') (hu:∀ e,u≠.own id e):TkNe t' u:=by
 rcases h.tok with rfl | ⟨rfl,_⟩
 ·exact TkNe.rig_l
 ·intro i e f h1 h2
  cases h1
  exact hu f h2
end Go.Ab
end
section
set_option linter.unusedVariables false
set_option linter.unusedSimpArgs false
namespace Go.Ab
variable {F:Funs}
theorem chkG_app:∀ (a b:List (Int × Int)) (d:Nat),chkG (a ++ b) d = (chkG a d).bind (chkG b)
 | [],b,d => by simp[chkG]
 | p :: a,b,d => by
   rw[List.cons_append,chkG_cons,chkG_cons]
   split
   ·split
    ·split
     ·rfl
     ·exact chkG_app a b _
    ·exact chkG_app a b _
   ·rfl
theorem chk_push {ex:List (Int × Int)} {d:Nat} {p:Int × Int} (h:chkG ex 0 = some d) (hw:wdB p = true) (h3:p.1≠3):chkG (ex ++ [p]) 0 = some (d + 1):=by
 rw[chkG_app,h]
 simp[chkG,hw,h3]
theorem chk_op {ex:List (Int × Int)} {d:Nat} {v:Int} (h:chkG ex 0 = some d) (hd:2≤d) (hv:1≤v∧v≤6):chkG (ex ++ [(3,v)]) 0 = some (d - 1):=by
 rw[chkG_app,h]
 have hw:wdB (3,v) = true:=by simp[wdB];omega
 simp[chkG,hw]
 omega
theorem tkC_app (a b:List (Int × Int)):tkC (a ++ b) = tkC a ++ tkC b:=by simp[tkC]
def pl40 (v:Int):Nat:=(place v 1099511627776).toNat
theorem place40 (v:Int):place v 1099511627776 = ((pl40 v:Nat):Int)∧pl40 v < 1099511627776:=by
 have:=place_lt (v:=v) (n:=1099511627776) (by omega)
 unfold pl40
 omega
structure WideF (F:Funs):Prop where
 place:F 10 = some A_xlaw00_Place
 num:F 108 = some A_xlaw00_num
 reg:F 123 = some A_xlaw00_reg
 op:F 124 = some A_xlaw00_op
 wide:F 517 = some A_xlaw00_Wide
structure WdI (l:List Int) (tl:Tok) (i:Nat) (ex:List (Int × Int)) (d:Nat) (t:Tok) (e:Env) (g:G):Prop where
 hi:i≤l.length
 e0:e 0 = .sl (intsC l) l.length tl
 e1:e 1 = .i .i64 9
 e5:e 5 = .sl (tkC ex) ex.length t
 e6:e 6 = .i .i64 ((d:Nat):Int)
 e7:e 7 = .i .i64 ((i:Nat):Int)
 tk:TkOk 2 g t
 hc:chkG ex 0 = some d
 hb:ex.length + d≤10
structure WdJ (ex:List (Int × Int)) (d:Nat) (t:Tok) (e:Env) (g:G):Prop where
 hd:1≤d
 e5:e 5 = .sl (tkC ex) ex.length t
 e6:e 6 = .i .i64 ((d:Nat):Int)
 tk:TkOk 2 g t
 hc:chkG ex 0 = some d
 hb:ex.length + d≤10
theorem sp_wide (A:WideF F) (l:List Int) (tl:Tok) (hl:l.length≤100000):∃ v,pureS F 517 [.sl (intsC l) l.length tl,.i .i64 9] = some v∧∃ ex,v = exV ex∧chkX ex = true:=by
 refine pureV_of (P:=fun v => ∃ ex,v = exV ex∧chkX ex = true) A.wide ?_
 have fin:∀ (ex:List (Int × Int)) (t:Tok) (hp:Nat→Option Blk),frz hp depth (.sl (tkC ex) ex.length t) = some (exV ex):=fun ex t hp => by
  rw[frz_d_sl];rfl
 have n1:=sp_num A.num
 have n2:=sp_reg A.reg
 have n3:=sp_op A.op
 simp (disch:=omega) only[A_xlaw00_Wide,wp,qa,qb,qc]
 refine blk_cut (fun e g => ∃ (ex:List (Int × Int)) (d:Nat) (t:Tok),e 5 = .sl (tkC ex) ex.length t∧e 6 = .i .i64 ((d:Nat):Int)∧TkOk 2 g t∧chkG ex 0 = some d∧ex.length + d≤10) ?_ ?_
 ·refine W_loop (fun q e g => ∃ (i:Nat) (ex:List (Int × Int)) (d:Nat) (t:Tok),q = l.length - i∧WdI l tl i ex d t e g) l.length ?_ ?_
  ·exact ⟨0,[],0,.rig,rfl,Nat.zero_le _,rfl,rfl,rfl,rfl,rfl,.inl rfl,rfl,by simp⟩
  ·rintro q e g ⟨i,ex,d,t,rfl,hi,e0,e1,e5,e6,e7,tk,hc,hb⟩
   by_cases c1:i < l.length
   ·have c1':((i:Nat):Int) < ((l.length:Nat):Int):=by omega
    have hw1:IntKind.i64.wrap (((ex.length:Nat):Int) + ((d:Nat):Int)) = ((ex.length + d:Nat):Int):=by rw[i64_wrap (by omega) (by omega)];omega
    by_cases c2:ex.length + d < 9
    ·have c2':((ex.length + d:Nat):Int) < 9:=by omega
     have hp:=ints_part (l:=l) (k:=i) (by omega)
     have hpl:=sp_place A.place (v:=l.getD i 0) (n:=1099511627776) (by omega) (by omega)
     obtain ⟨p1,p2⟩:=place40 (l.getD i 0)
     rw[p1] at hpl
     generalize pl40 (l.getD i 0) = k at hpl p2
     have hwi:=succ_wrap (k:=i) (by omega)
     have hq3:IntKind.i64.wrap ((k:Int).tdiv 3) = ((k / 3:Nat):Int):=i64_wrap (show -9223372036854775808≤((k / 3:Nat):Int) by omega) (show ((k / 3:Nat):Int)≤9223372036854775807 by omega)
     have hr3:(k:Int).tmod 3 = ((k % 3:Nat):Int):=rfl
     have hr6:((k / 3:Nat):Int).tmod 6 = ((k / 3 % 6:Nat):Int):=rfl
     have hr8:((k / 3:Nat):Int).tmod 8 = ((k / 3 % 8:Nat):Int):=rfl
     have hr32:((k / 3:Nat):Int).tmod 4294967296 = ((k / 3 % 4294967296:Nat):Int):=rfl
     have hcl:(tkC ex).length = ex.length * 2:=tkC_len ex
     have step:∀ (p:Int × Int) (d':Nat) (hc':chkG (ex ++ [p]) 0 = some d') (hb':ex.length + 1 + d'≤10) (e':Env) (g':G) (t':Tok),e' 0 = .sl (intsC l) l.length tl→e' 1 = .i .i64 9→e' 5 = .sl (tkC ex ++ [.i .i64 p.1,.i .i64 p.2]) (ex.length + 1) t'→e' 6 = .i .i64 ((d':Nat):Int)→e' 7 = .i .i64 ((i + 1:Nat):Int)→TkOk 2 g' t' →
       ∃ m',m' < l.length - i∧∃ (i:Nat) (ex:List (Int × Int)) (d:Nat) (t:Tok),m' = l.length - i∧WdI l tl i ex d t e' g':=by
      intro p d' hc' hb' e' g' t' a0 a1 a5 a6 a7 atk
      refine ⟨l.length - (i + 1),by omega,i + 1,ex ++ [p],d',t',rfl,by omega,a0,a1,?_,a6,a7,atk,hc',by simp;omega⟩
      rw[a5,tkC_app,List.length_append]
      rfl
     by_cases c3:2≤d∧k % 3 = 0
     ·have c3a:(2:Int)≤((d:Nat):Int):=by omega
      have c3b:(((k % 3:Nat):Int) == 0) = true:=by rw[c3.2];rfl
      have hwo:IntKind.i64.wrap (1 + ((k / 3 % 6:Nat):Int)) = ((1 + k / 3 % 6:Nat):Int):=by rw[i64_wrap (by omega) (by omega)];omega
      have hwd:IntKind.i64.wrap (((d:Nat):Int) - 1) = ((d - 1:Nat):Int):=by rw[i64_wrap (by omega) (by omega)];omega
      have s2:∀ b1 b2 c1 c2:AV,splice [b1,b2] 0 [c1,c2] = [c1,c2]:=fun _ _ _ _ => rfl
      simp (disch:=omega) only[wp,qa,qb,qc,e0,e1,e5,e6,e7,c1',hw1,c2',hp,hpl,c3a,c3b,b_remC,b_quoC,hq3,hr3,hr6,hwo,n3,s2]
      refine bindO_app (esz:=2) (tk.mono (fun j hj => rfl) (by first | omega | (dsimp only;omega))) (fun j hj => allow_no _ _ _) ⟨by omega,by omega,hcl,rfl⟩ ?_
      intro t2 hp2 ar2
      simp (disch:=omega) only[wp,qa,qb,qc,e6,e7,hwd,hwi]
      refine step (3,((1 + k / 3 % 6:Nat):Int)) (d - 1) (chk_op hc c3.1 ⟨by omega,by omega⟩) (by omega) _ _ t2 ?_ ?_ ?_ ?_ ?_ ?_<;>first | exact e0 | exact e1 | rfl | exact ar2.ok (by first | omega | (dsimp only;omega))
     ·have s2:∀ b1 b2 c1 c2:AV,splice [b1,b2] 0 [c1,c2] = [c1,c2]:=fun _ _ _ _ => rfl
      have hwu:=succ_wrap (k:=d) (by omega)
      have hws:IntKind.i64.wrap (((k / 3 % 4294967296:Nat):Int) - 2147483648) = ((k / 3 % 4294967296:Nat):Int) - 2147483648:=i64_wrap (by omega) (by omega)
      by_cases c3a:2≤d
      ·have c3c:(2:Int)≤((d:Nat):Int):=by omega
       have c3b:(((k % 3:Nat):Int) == 0) = false:=by rw[beq_eq_false_iff_ne];omega
       by_cases c4:k % 3 = 1
       ·have c4a:(((k % 3:Nat):Int) == 1) = true:=by rw[c4];rfl
        simp (disch:=omega) only[wp,qa,qb,qc,e0,e1,e5,e6,e7,c1',hw1,c2',hp,hpl,c3c,c3b,c4a,b_remC,b_quoC,hq3,hr3,hr8,n2,s2]
        refine bindO_app (esz:=2) (tk.mono (fun j hj => rfl) (by first | omega | (dsimp only;omega))) (fun j hj => allow_no _ _ _) ⟨by omega,by omega,hcl,rfl⟩ ?_
        intro t2 hp2 ar2
        simp (disch:=omega) only[wp,qa,qb,qc,e6,e7,hwu,hwi]
        refine step (2,((k / 3 % 8:Nat):Int)) (d + 1) (chk_push hc (by simp[wdB];omega) (by simp)) (by omega) _ _ t2 ?_ ?_ ?_ ?_ ?_ ?_<;>first | exact e0 | exact e1 | rfl | exact ar2.ok (by first | omega | (dsimp only;omega))
       ·have c4a:(((k % 3:Nat):Int) == 1) = false:=by rw[beq_eq_false_iff_ne];omega
        simp (disch:=omega) only[wp,qa,qb,qc,e0,e1,e5,e6,e7,c1',hw1,c2',hp,hpl,c3c,c3b,c4a,b_remC,b_quoC,hq3,hr3,hr32,hws,n1,s2]
        refine bindO_app (esz:=2) (tk.mono (fun j hj => rfl) (by first | omega | (dsimp only;omega))) (fun j hj => allow_no _ _ _) ⟨by omega,by omega,hcl,rfl⟩ ?_
        intro t2 hp2 ar2
        simp (disch:=omega) only[wp,qa,qb,qc,e6,e7,hwu,hwi]
        refine step (1,((k / 3 % 4294967296:Nat):Int) - 2147483648) (d + 1) (chk_push hc (by simp[wdB];omega) (by simp)) (by omega) _ _ t2 ?_ ?_ ?_ ?_ ?_ ?_<;>first | exact e0 | exact e1 | rfl | exact ar2.ok (by first | omega | (dsimp only;omega))
      ·have c3c:¬ (2:Int)≤((d:Nat):Int):=by omega
       by_cases c4:k % 3 = 1
       ·have c4a:(((k % 3:Nat):Int) == 1) = true:=by rw[c4];rfl
        simp (disch:=omega) only[wp,qa,qb,qc,e0,e1,e5,e6,e7,c1',hw1,c2',hp,hpl,c3c,c4a,b_remC,b_quoC,hq3,hr3,hr8,n2,s2]
        refine bindO_app (esz:=2) (tk.mono (fun j hj => rfl) (by first | omega | (dsimp only;omega))) (fun j hj => allow_no _ _ _) ⟨by omega,by omega,hcl,rfl⟩ ?_
        intro t2 hp2 ar2
        simp (disch:=omega) only[wp,qa,qb,qc,e6,e7,hwu,hwi]
        refine step (2,((k / 3 % 8:Nat):Int)) (d + 1) (chk_push hc (by simp[wdB];omega) (by simp)) (by omega) _ _ t2 ?_ ?_ ?_ ?_ ?_ ?_<;>first | exact e0 | exact e1 | rfl | exact ar2.ok (by first | omega | (dsimp only;omega))
       ·have c4a:(((k % 3:Nat):Int) == 1) = false:=by rw[beq_eq_false_iff_ne];omega
        simp (disch:=omega) only[wp,qa,qb,qc,e0,e1,e5,e6,e7,c1',hw1,c2',hp,hpl,c3c,c4a,b_remC,b_quoC,hq3,hr3,hr32,hws,n1,s2]
        refine bindO_app (esz:=2) (tk.mono (fun j hj => rfl) (by first | omega | (dsimp only;omega))) (fun j hj => allow_no _ _ _) ⟨by omega,by omega,hcl,rfl⟩ ?_
        intro t2 hp2 ar2
        simp (disch:=omega) only[wp,qa,qb,qc,e6,e7,hwu,hwi]
        refine step (1,((k / 3 % 4294967296:Nat):Int) - 2147483648) (d + 1) (chk_push hc (by simp[wdB];omega) (by simp)) (by omega) _ _ t2 ?_ ?_ ?_ ?_ ?_ ?_<;>first | exact e0 | exact e1 | rfl | exact ar2.ok (by first | omega | (dsimp only;omega))
    ·have c2':¬ ((ex.length + d:Nat):Int) < 9:=by omega
     simp (disch:=omega) only[wp,qa,qb,qc,e0,e1,e5,e6,e7,c1',hw1,c2']
     exact ⟨ex,d,t,rfl,rfl,tk.mono (fun j hj => rfl) (by first | omega | (dsimp only;omega)),hc,hb⟩
   ·have c1':¬ ((i:Nat):Int) < ((l.length:Nat):Int):=by omega
    simp (disch:=omega) only[wp,qa,qb,qc,e0,e1,e5,e6,e7,c1']
    exact ⟨ex,d,t,rfl,rfl,tk.mono (fun j hj => rfl) (by first | omega | (dsimp only;omega)),hc,hb⟩
 ·rintro e g ⟨ex,d,t,e5,e6,tk,hc,hb⟩
  have s2:∀ b1 b2 c1 c2:AV,splice [b1,b2] 0 [c1,c2] = [c1,c2]:=fun _ _ _ _ => rfl
  by_cases c0:d = 0
  ·subst c0
   simp (disch:=omega) only[wp,qa,qb,qc,e5,e6,n1,s2,retV_ret,Int.natCast_zero]
   exact ⟨_,rfl,[(1,0)],rfl,rfl⟩
  ·have c0':(((d:Nat):Int) == 0) = false:=by rw[beq_eq_false_iff_ne];omega
   simp (disch:=omega) only[wp,qa,qb,qc,e5,e6,c0']
   refine blk_cut (fun e g => ∃ (ex:List (Int × Int)) (t:Tok),e 5 = .sl (tkC ex) ex.length t∧chkX ex = true) ?_ ?_
   ·refine W_loop (fun q e g => ∃ (ex:List (Int × Int)) (d:Nat) (t:Tok),q = d∧WdJ ex d t e g) d ?_ ?_
    ·exact ⟨ex,d,t,rfl,by omega,e5,e6,tk.mono (fun j hj => rfl) (by first | omega | (dsimp only;omega)),hc,hb⟩
    ·clear hb hc tk e5 e6 c0 c0'
     clear e g ex t
     rintro q e g ⟨ex,n,t,hq,hd,e5,e6,tk,hc,hb⟩
     by_cases c1:1 < n
     ·have c1':(1:Int) < ((n:Nat):Int):=by omega
      have hr6:((ex.length:Nat):Int).tmod 6 = ((ex.length % 6:Nat):Int):=rfl
      have hwo:IntKind.i64.wrap (1 + ((ex.length % 6:Nat):Int)) = ((1 + ex.length % 6:Nat):Int):=by rw[i64_wrap (by omega) (by omega)];omega
      have hwd:IntKind.i64.wrap (((n:Nat):Int) - 1) = ((n - 1:Nat):Int):=by rw[i64_wrap (by omega) (by omega)];omega
      have hcl:(tkC ex).length = ex.length * 2:=tkC_len ex
      simp (disch:=omega) only[wp,qa,qb,qc,e5,e6,c1',b_remC,hr6,hwo,n3,s2]
      refine bindO_app (esz:=2) (tk.mono (fun j hj => rfl) (by first | omega | (dsimp only;omega))) (fun j hj => allow_no _ _ _) ⟨by omega,by omega,hcl,rfl⟩ ?_
      intro t2 hp2 ar2
      simp (disch:=omega) only[wp,qa,qb,qc,e6,hwd]
      refine ⟨n - 1,by omega,ex ++ [(3,((1 + ex.length % 6:Nat):Int))],n - 1,t2,rfl,by omega,?_,rfl,ar2.ok (by first | omega | (dsimp only;omega)),chk_op hc (by omega) ⟨by omega,by omega⟩,by simp;omega⟩
      rw[tkC_app,List.length_append]
      rfl
     ·have c1':¬ (1:Int) < ((n:Nat):Int):=by omega
      obtain rfl:n = 1:=by omega
      simp (disch:=omega) only[wp,qa,qb,qc,e5,e6,c1']
      refine ⟨ex,t,rfl,?_⟩
      unfold chkX
      rw[hc]
      simp
      omega
   ·rintro e g ⟨ex,t,e5,hx⟩
    simp (disch:=omega) only[wp,qa,qb,qc,e5,retV_ret]
    exact ⟨_,rfl,ex,rfl,hx⟩
end Go.Ab
end
section
set_option linter.unusedVariables false
set_option linter.unusedSimpArgs false
namespace Go.Ab
variable {F:Funs}
def tsC (l:List T):List AV:=l.map tP
def osC (l:List (Option T)):List AV:=l.map oP
def z0:T:=.num 0
def ofE (R:List (Option T)):List (Int × Int)→List T→List T
 | [],st => st
 | p :: l,st => if p.1 = 3 then ofE R l (mkT p.2 (st.getD 1 z0) (st.getD 0 z0) :: st.drop 2)
   else if p.1 = 2 then ofE R l ((if p.2 < R.length then fixT (R.getD p.2.toNat none) else z0) :: st)
   else ofE R l (.num p.2 :: st)
theorem ofE_cons (R p l st):ofE R (p :: l) st = if p.1 = 3 then ofE R l (mkT p.2 (st.getD 1 z0) (st.getD 0 z0) :: st.drop 2)
  else if p.1 = 2 then ofE R l ((if p.2 < R.length then fixT (R.getD p.2.toNat none) else z0) :: st)
  else ofE R l (.num p.2 :: st):=by simp only[ofE]
theorem ofE_nil (R st):ofE R [] st = st:=by simp only[ofE]
def ofX (ex:List (Int × Int)) (R:List (Option T)):T:=(ofE R ex []).headD z0
def sumN (st:List T):Nat:=(st.map nodes).sum
theorem sumN_cons (a:T) (st:List T):sumN (a :: st) = nodes a + sumN st:=by simp[sumN]
theorem tsC_len (l:List T):(tsC l).length = l.length:=by simp[tsC]
theorem tsC_at {l:List T} {k:Nat} (h:k < l.length):part (tsC l) (k * 1) none = some (tP (l.getD k z0)):=by
 rw[Nat.mul_one]
 simp only[part,tsC,List.getElem?_map,List.getElem?_eq_getElem h,Option.map_some,List.getD_eq_getElem?_getD,Option.getD_some]
theorem osC_at {l:List (Option T)} {k:Nat} (h:k < l.length):part ((osC l).drop (k * 1)) 0 none = some (oP (l.getD k none)):=by
 rw[Nat.mul_one]
 simp only[part,osC,List.getElem?_drop,List.getElem?_map,Nat.add_zero,List.getElem?_eq_getElem h,Option.map_some,List.getD_eq_getElem?_getD,Option.getD_some]
def StkT (st:List T) (v:AV) (g:G):Prop:=(st = []∧v = .sl [] 0 .rig)∨(st≠[]∧∃ id,v = .ms id 0 st.length∧g.hp id = some (.cells (tsC st.reverse) false)∧id < g.nx)
structure OfJ (ex:List (Int × Int)) (R:List (Option T)) (w:Tok) (B:Nat) (k:Nat) (st:List T) (e:Env) (g:G):Prop where
 hk:k≤ex.length
 hs:st.length≤k
 e1:e 1 = .sl (osC R) R.length w
 e5:StkT st (e 5) g
 e12:e 9 = .sl (tkC ex) ex.length .non
 e13:e 10 = .i .i64 ((ex.length:Nat):Int)
 e6:e 11 = .i .i64 ((k:Nat):Int)
 hc:chkG (ex.drop k) st.length = some 1
 ev:ofE R (ex.drop k) st = ofE R ex []
 ok:∀ t∈st,OkT t
 sz:sumN st≤k * B
theorem sp_tof (A:TermF F) (h407:F 407 = some A_term_Of) (ex:List (Int × Int)) (R:List (Option T)) (w:Tok) (B:Nat) (hB:1≤B∧B≤10000) (c0:chkX ex = true) (hR:∀ x∈R,OkT (fixT x)∧nodes (fixT x)≤B) (hrl:R.length≤1000000):
  pureS F 407 [exV ex,.sl (osC R) R.length w] = some (tP (ofX ex R))∧OkT (ofX ex R)∧nodes (ofX ex R)≤ex.length * B:=by
 have key:∃ v,pureS F 407 [exV ex,.sl (osC R) R.length w] = some v∧(v = tP (ofX ex R)∧OkT (ofX ex R)∧nodes (ofX ex R)≤ex.length * B):=by
  refine pureV_of (P:=fun v => v = tP (ofX ex R)∧OkT (ofX ex R)∧nodes (ofX ex R)≤ex.length * B) h407 ?_
  have s2:∀ b1 b2 c1 c2:AV,splice [b1,b2] 0 [c1,c2] = [c1,c2]:=fun _ _ _ _ => rfl
  have hz:=sp_tnum A 0
  obtain ⟨hc0,hl9⟩:=chkX_inv c0
  unfold exV
  simp (disch:=omega) only[A_term_Of,wp,qa,qb,qc]
  refine blk_cut (fun e g => ∃ (id:Nat),e 5 = .ms id 0 1∧g.hp id = some (.cells [tP (ofX ex R)] false)∧id < g.nx∧OkT (ofX ex R)∧nodes (ofX ex R)≤ex.length * B) ?_ ?_
  ·refine W_loop (fun q e g => ∃ (k:Nat) (st:List T),q = ex.length - k∧OfJ ex R w B k st e g) ex.length ?_ ?_
   ·exact ⟨0,[],rfl,Nat.zero_le _,Nat.le_refl _,rfl,.inl ⟨rfl,rfl⟩,rfl,rfl,rfl,hc0,rfl,fun t h => absurd h (List.not_mem_nil),Nat.zero_le _⟩
   ·rintro q e g ⟨k,st,rfl,hk,hsl,e1,e5,e12,e13,e6,hc,hev,hok,hsz⟩
    by_cases c1:k < ex.length
    ·have c1':((k:Nat):Int) < ((ex.length:Nat):Int):=by omega
     have ha:=tk_ag c1
     have hw:=succ_wrap (k:=k) (by omega)
     have hdc:=drop_cons (d:=((0,0):Int × Int)) c1
     rw[hdc] at hc hev
     rw[chkG_cons] at hc
     rw[ofE_cons] at hev
     generalize ex.getD k (0,0) = p at ha hc hev
     cases c2:wdB p with
     | false => rw[c2] at hc;simp at hc
     | true =>
       rw[c2] at hc
       rw[if_pos rfl] at hc
       have hkB:(k + 1) * B = k * B + B:=by rw[Nat.add_mul,Nat.one_mul]
       have next:∀ (st':List T) (e':Env) (g':G),chkG (ex.drop (k + 1)) st'.length = some 1→ofE R (ex.drop (k + 1)) st' = ofE R ex []→st'.length≤k + 1→(∀ t∈st',OkT t)→sumN st'≤k * B + B→e' 1 = .sl (osC R) R.length w→StkT st' (e' 5) g'→e' 9 = .sl (tkC ex) ex.length .non→e' 10 = .i .i64 ((ex.length:Nat):Int)→e' 11 = .i .i64 ((k + 1:Nat):Int) →
         ∃ m',m' < ex.length - k∧∃ (k:Nat) (st:List T),m' = ex.length - k∧OfJ ex R w B k st e' g':=
        fun st' e' g' a1 a2 a3 a4 a4b a5 a6 a8 a9 a7 => ⟨ex.length - (k + 1),by omega,k + 1,st',rfl,⟨by omega,a3,a5,a6,a8,a9,a7,a1,a2,a4,by omega⟩⟩
       have hsl2:((st.length:Nat):Int) = ((st.length:Nat):Int):=rfl
       by_cases c3:p.1 = 3
       ·have c3b:(p.1 == 3) = true:=by simpa using c3
        rw[if_pos c3] at hc hev
        by_cases c5:st.length < 2
        ·rw[if_pos c5] at hc;cases hc
        ·rw[if_neg c5] at hc
         obtain ⟨y,x,r,rfl⟩:∃ y x r,st = y :: x :: r:=by
          match st,c5 with
          | [],h => exact absurd (by simp) h
          | [_],h => exact absurd (by simp) h
          | y :: x :: r,_ => exact ⟨y,x,r,rfl⟩
         rcases e5 with ⟨h,_⟩ | ⟨hne,b,e5,hb,hlt⟩
         ·cases h
         ·have hrev:(y :: x :: r).reverse = r.reverse ++ [x,y]:=by simp
          rw[hrev] at hb
          simp only[List.length_cons] at e5 hc hsl
          have hcl:(tsC (r.reverse ++ [x,y])).length = (r.length + 1 + 1) * 1:=by rw[tsC_len];simp
          have hpx:part (tsC (r.reverse ++ [x,y])) (r.length * 1) none = some (tP x):=by
           rw[tsC_at (by simp),List.getD_eq_getElem?_getD,List.getElem?_append_right (by simp)];simp
          have hpy:part (tsC (r.reverse ++ [x,y])) ((r.length + 1) * 1) none = some (tP y):=by
           rw[tsC_at (by simp),List.getD_eq_getElem?_getD,List.getElem?_append_right (by simp)];simp
          have hs2:IntKind.i64.wrap (((r.length + 1 + 1:Nat):Int) - 2) = ((r.length:Nat):Int):=by rw[i64_wrap (by omega) (by omega)];omega
          have hs1:IntKind.i64.wrap (((r.length + 1 + 1:Nat):Int) - 1) = ((r.length + 1:Nat):Int):=by rw[i64_wrap (by omega) (by omega)];omega
          have hge:(2:Int)≤((r.length + 1 + 1:Nat):Int):=by omega
          have okx:OkT x:=hok x (by simp)
          have oky:OkT y:=hok y (by simp)
          have hk9:k * B≤9 * 10000:=Nat.mul_le_mul (by omega) hB.2
          simp only[sumN_cons] at hsz
          have hmk:=sp_make A p.2 (x:=some x) (y:=some y) okx oky (by simp only[fixT];omega) (by simp only[fixT];omega)
          simp only[oP,fixT] at hmk
          simp (disch:=omega) only[wp,qa,qb,qc,e1,e5,e6,e12,e13,s2,part_22,c1',ha,c3b,hw,hb,hge,hs1,hs2,hpx,hpy,hmk,f_tP,v_tP,cellsP,oneP,oSlice,evoN,evoS,slHiM,o_appM,vAppM_C,apcS_ok]
          refine next (mkT p.2 x y :: r) _ _ hc hev ?_ ?_ ?_ ?_ ?_ e12 e13 ?_
          ·simp;omega
          ·intro t ht
           rcases List.mem_cons.1 ht with rfl | ht
           ·exact okT_mk okx oky
           ·exact hok t (by simp[ht])
          ·rw[sumN_cons]
           have:=nodes_mk p.2 x y
           omega
          ·exact e1
          ·refine .inr ⟨by simp,_,rfl,?_,?_⟩
           ·(simp (disch:=omega) only[upd_same,upd_ne]);try rfl
            rw[show (tsC (r.reverse ++ [x,y])).take (r.length * 1) = tsC r.reverse by unfold tsC;rw[←List.map_take,Nat.mul_one,List.take_append_of_le_length (by simp),List.take_of_length_le (by simp)]]
            simp[tsC]
           ·dsimp only;omega
          ·rfl
       ·have c3a:(p.1 == 3) = false:=by simpa using c3
        rw[if_neg c3] at hc hev
        have push:∀ (a:T) (e':Env) (g':G),OkT a→nodes a≤B→ofE R (ex.drop (k + 1)) (a :: st) = ofE R ex []→e' 1 = .sl (osC R) R.length w→StkT (a :: st) (e' 5) g'→e' 9 = .sl (tkC ex) ex.length .non→e' 10 = .i .i64 ((ex.length:Nat):Int)→e' 11 = .i .i64 ((k + 1:Nat):Int) →
          ∃ m',m' < ex.length - k∧∃ (k:Nat) (st:List T),m' = ex.length - k∧OfJ ex R w B k st e' g':=fun a e' g' h1 h2 h3 h4 h5 h6 h7 h8 =>
         next (a :: st) e' g' hc h3 (by simp;omega) (fun t ht => by rcases List.mem_cons.1 ht with rfl | ht;· exact h1
                                                                    ·exact hok t ht) (by rw[sumN_cons];omega) h4 h5 h6 h7 h8
        have fin1:∀ (a:T) (g':G) (id:Nat),st = []→g'.hp id = some (.cells [tP a] false)→id < g'.nx→StkT (a :: st) (.ms id 0 1) g':=fun a g' id h1 h2 h3 => by
         subst h1
         exact .inr ⟨by simp,id,rfl,h2,h3⟩
        have fin2:∀ (a:T) (g':G) (id:Nat),g'.hp id = some (.cells (tsC st.reverse ++ [tP a]) false)→id < g'.nx→StkT (a :: st) (.ms id 0 (st.length + 1)) g':=fun a g' id h2 h3 => by
         refine .inr ⟨by simp,id,rfl,?_,h3⟩
         rw[h2];simp[tsC]
        by_cases c4:p.1 = 2
        ·have c4a:(p.1 == 2) = true:=by simpa using c4
         rw[if_pos c4] at hev
         have hv0:0≤p.2∧p.2 < 8:=by
          unfold wdB at c2
          rw[if_neg (by omega),if_pos c4] at c2
          simpa using c2
         have hv0':(0:Int)≤p.2:=hv0.1
         by_cases c6:p.2 < (R.length:Int)
         ·rw[if_pos c6] at hev
          have hpr:=osC_at (l:=R) (k:=p.2.toNat) (by omega)
          have hkn:=sp_known A (R.getD p.2.toNat none)
          have hRm:=hR (R.getD p.2.toNat none) (by rw[List.getD_eq_getElem?_getD,List.getElem?_eq_getElem (by omega)];exact List.getElem_mem _)
          generalize R.getD p.2.toNat none = x at hpr hkn hRm hev
          rcases e5 with ⟨hst,e5⟩ | ⟨hne,b,e5,hb,hlt⟩
          ·simp (disch:=omega) only[wp,qa,qb,qc,e1,e5,e6,e12,e13,s2,part_22,c1',ha,c3a,c4a,hv0',c6,hpr,hkn,hw,f_oP,v_oP,f_tP,v_tP,cellsP,oneP,o_appM,vAppM_rig,apmR_ok]
           refine push (fixT x) _ _ hRm.1 hRm.2 hev e1 ?_ e12 e13 ?_
           ·refine fin1 _ _ _ hst ?_ ?_
            ·(simp (disch:=omega) only[upd_same,upd_ne]);try rfl
            ·dsimp only;omega
           ·rfl
          ·have h1:1≤st.length:=by cases st with | nil => exact absurd rfl hne | cons _ _ => simp
           have hcl:(tsC st.reverse).length = st.length * 1:=by rw[tsC_len,List.length_reverse,Nat.mul_one]
           simp (disch:=omega) only[wp,qa,qb,qc,e1,e5,e6,e12,e13,s2,part_22,c1',ha,c3a,c4a,hv0',c6,hpr,hkn,hw,hb,f_oP,v_oP,f_tP,v_tP,cellsP,oneP,o_appM,vAppM_S,apmS_ok]
           refine push (fixT x) _ _ hRm.1 hRm.2 hev e1 ?_ e12 e13 ?_
           ·refine fin2 _ _ _ ?_ ?_
            ·(simp (disch:=omega) only[upd_same,upd_ne]);try rfl
            ·dsimp only;omega
           ·rfl
         ·rw[if_neg c6] at hev
          have c7:(p.1 == 1) = false:=by rw[beq_eq_false_iff_ne];omega
          rcases e5 with ⟨hst,e5⟩ | ⟨hne,b,e5,hb,hlt⟩
          ·simp (disch:=omega) only[wp,qa,qb,qc,e1,e5,e6,e12,e13,s2,part_22,c1',ha,c3a,c4a,hv0',c6,c7,hz,hw,f_oP,v_oP,f_tP,v_tP,cellsP,oneP,o_appM,vAppM_rig,apmR_ok]
           refine push (z0) _ _ ⟨by omega,by omega⟩ hB.1 hev e1 ?_ e12 e13 ?_
           ·refine fin1 _ _ _ hst ?_ ?_
            ·(simp (disch:=omega) only[upd_same,upd_ne]);try rfl
            ·dsimp only;omega
           ·rfl
          ·have h1:1≤st.length:=by cases st with | nil => exact absurd rfl hne | cons _ _ => simp
           have hcl:(tsC st.reverse).length = st.length * 1:=by rw[tsC_len,List.length_reverse,Nat.mul_one]
           simp (disch:=omega) only[wp,qa,qb,qc,e1,e5,e6,e12,e13,s2,part_22,c1',ha,c3a,c4a,hv0',c6,c7,hz,hw,hb,f_oP,v_oP,f_tP,v_tP,cellsP,oneP,o_appM,vAppM_S,apmS_ok]
           refine push (z0) _ _ ⟨by omega,by omega⟩ hB.1 hev e1 ?_ e12 e13 ?_
           ·refine fin2 _ _ _ ?_ ?_
            ·(simp (disch:=omega) only[upd_same,upd_ne]);try rfl
            ·dsimp only;omega
           ·rfl
        ·have c4a:(p.1 == 2) = false:=by simpa using c4
         rw[if_neg c4] at hev
         have c7:p.1 = 1:=by
          unfold wdB at c2
          by_cases h:p.1 = 1
          ·exact h
          ·rw[if_neg h,if_neg c4,if_neg c3] at c2;cases c2
         have c7a:(p.1 == 1) = true:=by simpa using c7
         have hv0:I64 p.2:=by
          unfold wdB at c2
          rw[if_pos c7] at c2
          simp only[Bool.and_eq_true,decide_eq_true_eq] at c2
          exact ⟨by omega,by omega⟩
         have hn1:=sp_tnum A p.2
         rcases e5 with ⟨hst,e5⟩ | ⟨hne,b,e5,hb,hlt⟩
         ·simp (disch:=omega) only[wp,qa,qb,qc,e1,e5,e6,e12,e13,s2,part_22,c1',ha,c3a,c4a,c7a,hn1,hw,f_oP,v_oP,f_tP,v_tP,cellsP,oneP,o_appM,vAppM_rig,apmR_ok]
          refine push (.num p.2) _ _ hv0 hB.1 hev e1 ?_ e12 e13 ?_
          ·refine fin1 _ _ _ hst ?_ ?_
           ·(simp (disch:=omega) only[upd_same,upd_ne]);try rfl
           ·dsimp only;omega
          ·rfl
         ·have h1:1≤st.length:=by cases st with | nil => exact absurd rfl hne | cons _ _ => simp
          have hcl:(tsC st.reverse).length = st.length * 1:=by rw[tsC_len,List.length_reverse,Nat.mul_one]
          simp (disch:=omega) only[wp,qa,qb,qc,e1,e5,e6,e12,e13,s2,part_22,c1',ha,c3a,c4a,c7a,hn1,hw,hb,f_oP,v_oP,f_tP,v_tP,cellsP,oneP,o_appM,vAppM_S,apmS_ok]
          refine push (.num p.2) _ _ hv0 hB.1 hev e1 ?_ e12 e13 ?_
          ·refine fin2 _ _ _ ?_ ?_
           ·(simp (disch:=omega) only[upd_same,upd_ne]);try rfl
           ·dsimp only;omega
          ·rfl
    ·have c1':¬ ((k:Nat):Int) < ((ex.length:Nat):Int):=by omega
     obtain rfl:k = ex.length:=by omega
     rw[List.drop_length] at hc hev
     rw[chkG_nil] at hc
     rw[ofE_nil] at hev
     have hs1:st.length = 1:=Option.some.inj hc
     obtain ⟨v,rfl⟩:∃ v,st = [v]:=List.length_eq_one_iff.1 hs1
     have hv:ofX ex R = v:=by unfold ofX;rw[←hev];rfl
     rcases e5 with ⟨h,_⟩ | ⟨hne,b,e5,hb,hlt⟩
     ·cases h
     ·simp (disch:=omega) only[wp,qa,qb,qc,e5,e6,e12,e13,c1']
      refine ⟨b,rfl,?_,by omega,?_,?_⟩
      ·rw[hv];exact hb
      ·rw[hv];exact hok v (by simp)
      ·rw[hv];simpa [sumN] using hsz
  ·rintro e g ⟨id,e5,hid,hlt,ho,hn⟩
   have hp0:part [tP (ofX ex R)] (0 * 1) none = some (tP (ofX ex R)):=rfl
   have hl0:((((1:Nat):Int)) == 0) = false:=rfl
   have hw0:IntKind.i64.wrap ((((1:Nat):Int)) - 1) = ((0:Nat):Int):=rfl
   simp (disch:=omega) only[wp,qa,qb,qc,e5,hid,hl0,hw0,hp0,retV_ret,f_tP]
   exact ⟨_,rfl,rfl,ho,hn⟩
 obtain ⟨v,h1,rfl,h2,h3⟩:=key
 exact ⟨h1,h2,h3⟩
end Go.Ab
end
section
set_option linter.unusedVariables false
set_option linter.unusedSimpArgs false
namespace Go.Ab
variable {F:Funs}
theorem ofE_ev {reads:List Int} (hr:∀ v∈reads,I64 v) {R:List (Option T)} {vals:List Int} (hlen:R.length = vals.length) (hR:∀ x∈R,OkT (fixT x)) (hv:∀ i,i < R.length→evT reads (fixT (R.getD i none)) = vals.getD i 0):
  ∀ (ex:List (Int × Int)) (st:List T) (d:Nat),chkG ex st.length = some d→(∀ t∈st,OkT t)→(ofE R ex st).map (evT reads) = evE vals ex (st.map (evT reads))
 | [],st,d,_,_ => by rw[ofE_nil,evE_nil]
 | p :: ex,st,d,hc,hst => by
   rw[chkG_cons] at hc
   split at hc
   ·rename_i hw
    rw[ofE_cons,evE_cons]
    by_cases c3:p.1 = 3
    ·rw[if_pos c3] at hc
     have n1:¬ p.1 = 1:=by omega
     rw[if_pos c3,if_neg n1,if_pos c3]
     split at hc
     ·cases hc
     ·rename_i c5
      obtain ⟨y,x,r,rfl⟩:∃ y x r,st = y :: x :: r:=by
       match st,c5 with
       | [],h => exact absurd (by simp) h
       | [_],h => exact absurd (by simp) h
       | y :: x :: r,_ => exact ⟨y,x,r,rfl⟩
      have okx:OkT x:=hst x (by simp)
      have oky:OkT y:=hst y (by simp)
      have:=ofE_ev hr hlen hR hv ex (mkT p.2 x y :: r) d hc (fun t ht => by
       rcases List.mem_cons.1 ht with rfl | ht
       ·exact okT_mk okx oky
       ·exact hst t (by simp[ht]))
      simp only[List.map_cons,ev_mk hr p.2 okx oky] at this
      exact this
    ·rw[if_neg c3] at hc
     rw[if_neg c3]
     by_cases c4:p.1 = 2
     ·have n1:¬ p.1 = 1:=by omega
      rw[if_pos c4,if_neg n1,if_neg c3]
      have hv0:0≤p.2∧p.2 < 8:=by
       unfold wdB at hw
       rw[if_neg (by omega),if_pos c4] at hw
       simpa using hw
      by_cases c6:p.2 < (R.length:Int)
      ·rw[if_pos c6,if_pos (by omega)]
       have:=ofE_ev hr hlen hR hv ex (fixT (R.getD p.2.toNat none) :: st) d hc (fun t ht => by
        rcases List.mem_cons.1 ht with rfl | ht
        ·exact hR _ (by rw[List.getD_eq_getElem?_getD,List.getElem?_eq_getElem (by omega)];exact List.getElem_mem _)
        ·exact hst t ht)
       rw[List.map_cons,hv _ (by omega)] at this
       exact this
      ·rw[if_neg c6,if_neg (by omega)]
       have:=ofE_ev hr hlen hR hv ex (z0 :: st) d hc (fun t ht => by
        rcases List.mem_cons.1 ht with rfl | ht
        ·exact ⟨by omega,by omega⟩
        ·exact hst t ht)
       exact this
     ·have c7:p.1 = 1:=by
       unfold wdB at hw
       by_cases h:p.1 = 1
       ·exact h
       ·rw[if_neg h,if_neg c4,if_neg c3] at hw;cases hw
      rw[if_neg c4,if_pos c7]
      have:=ofE_ev hr hlen hR hv ex (.num p.2 :: st) d hc (fun t ht => by
       rcases List.mem_cons.1 ht with rfl | ht
       ·unfold wdB at hw
        rw[if_pos c7] at hw
        simp only[Bool.and_eq_true,decide_eq_true_eq] at hw
        exact ⟨by omega,by omega⟩
       ·exact hst t ht)
      exact this
   ·cases hc
theorem ofX_ev {reads:List Int} (hr:∀ v∈reads,I64 v) {R:List (Option T)} {vals:List Int} (hlen:R.length = vals.length) (hR:∀ x∈R,OkT (fixT x)) (hv:∀ i,i < R.length→evT reads (fixT (R.getD i none)) = vals.getD i 0) {ex:List (Int × Int)} (hx:chkX ex = true):evT reads (ofX ex R) = evX ex vals:=by
 have h:=ofE_ev hr hlen hR hv ex [] 1 (chkX_inv hx).1 (fun t ht => by cases ht)
 unfold evX ofX
 rw[if_pos hx,←show (ofE R ex []).map (evT reads) = evE vals ex [] from h]
 cases ofE R ex []<;>rfl
def rdsL (k:Nat):List (Option T):=(List.range k).map fun (i:Nat) => some (T.rd ((i:Nat):Int))
theorem rdsL_succ (k:Nat):rdsL (k + 1) = rdsL k ++ [some (.rd (k:Int))]:=by simp[rdsL,List.range_succ]
theorem rdsL_len (k:Nat):(rdsL k).length = k:=by simp[rdsL]
theorem osC_app (a b:List (Option T)):osC (a ++ b) = osC a ++ osC b:=by simp[osC]
theorem osC_len (a:List (Option T)):(osC a).length = a.length:=by simp[osC]
theorem rdsL_at {i k:Nat} (h:i < k):(rdsL k).getD i none = some (.rd (i:Int)):=by
 unfold rdsL
 rw[List.getD_eq_getElem?_getD,List.getElem?_map,List.getElem?_range h]
 rfl
structure OfW (ex:List (Int × Int)) (reads:List Int) (tr:Tok) (i:Nat) (t1 t2:Tok) (e:Env) (g:G):Prop where
 hi:i≤reads.length∧i≤8
 e1:e 1 = .sl (intsC reads) reads.length tr
 e5:e 5 = exV ex
 e6:e 6 = .sl (osC (rdsL i)) i t1
 e7:e 7 = .sl (intsC (reads.take i)) i t2
 e8:e 8 = .i .i64 ((i:Nat):Int)
 k1:TkOk 1 g t1
 k2:TkOk 1 g t2
 ne:TkNe t1 t2
theorem sp_termOf (A:LawT F) (B:WideF F) (h407:F 407 = some A_term_Of) (h115:F 115 = some A_xref02_Eval) (h109:F 109 = some A_xref02_Check) (h125:F 125 = some A_xref02_word) (h508:F 508 = some A_xlaw22_TermOf) (l reads:List Int) (hr:∀ v∈reads,I64 v) (tl tr:Tok):pureS F 508 [.sl (intsC l) l.length tl,.sl (intsC reads) reads.length tr] = some (.b true):=by
 refine pure_of h508 ?_
 have aw:=sp_awake22 A
 by_cases c1:20 < l.length
 ·have c1':(20:Int) < ((l.length:Nat):Int):=by omega
  simp (disch:=omega) only[A_xlaw22_TermOf,wp,qa,qb,qc,c1',aw]
 by_cases c2:20 < reads.length
 ·have c1':¬ (20:Int) < ((l.length:Nat):Int):=by omega
  have c2':(20:Int) < ((reads.length:Nat):Int):=by omega
  simp (disch:=omega) only[A_xlaw22_TermOf,wp,qa,qb,qc,c1',c2',aw]
 have c1':¬ (20:Int) < ((l.length:Nat):Int):=by omega
 have c2':¬ (20:Int) < ((reads.length:Nat):Int):=by omega
 obtain ⟨_,hwd,ex,rfl,hx⟩:=sp_wide B l .non (by omega)
 have hl9:=(chkX_inv hx).2
 have hwd2:=hwd
 unfold exV at hwd2
 simp (disch:=omega) only[A_xlaw22_TermOf,wp,qa,qb,qc,c1',c2',hwd2]
 refine blk_cut (fun e g => ∃ (i:Nat) (t1 t2:Tok),OfW ex reads tr i t1 t2 e g∧(i = reads.length∨i = 8)) ?_ ?_
 ·refine W_loop (fun q e g => ∃ (i:Nat) (t1 t2:Tok),q = 8 - i∧OfW ex reads tr i t1 t2 e g) 8 ?_ ?_
  ·exact ⟨0,.rig,.rig,rfl,⟨Nat.zero_le _,by omega⟩,rfl,rfl,rfl,rfl,rfl,.inl rfl,.inl rfl,.rig_l⟩
  ·rintro q e g ⟨i,t1,t2,rfl,⟨hi1,hi2⟩,e1,e5,e6,e7,e8,k1,k2,ne⟩
   by_cases c3:i < reads.length
   ·have c3':((i:Nat):Int) < ((reads.length:Nat):Int):=by omega
    by_cases c4:i < 8
    ·have c4':((i:Nat):Int) < 8:=by omega
     have hp:=ints_part (l:=reads) (k:=i) c3
     have rd:=sp_tread A.t ((i:Nat):Int)
     have hwi:=succ_wrap (k:=i) (by omega)
     have hnl:=take_getD (l:=reads) (k:=i) c3
     have l1:(osC (rdsL i)).length = i * 1:=by rw[osC_len,rdsL_len,Nat.mul_one]
     have l2:(intsC (reads.take i)).length = i * 1:=by rw[intsC_len,List.length_take];omega
     simp (disch:=omega) only[wp,qa,qb,qc,e1,e6,e7,e8,c3',c4',hp,rd,cellsP,oneP,f_tP]
     refine bindO_app (esz:=1) (k1.mono (fun j hj => rfl) (by first | omega | (dsimp only;omega))) (fun j hj => ?_) ⟨by omega,by omega,l1,rfl⟩ ?_
     ·rcases k1 with h | ⟨b,h,_,hb⟩
      ·rw[h] at hj;cases hj
      ·rw[h] at hj;cases hj;unfold allow;simp;omega
     intro t3 hp3 ar3
     simp (disch:=omega) only[wp,qa,qb,qc,e1,e7,e8,hp]
     refine bindO_app (esz:=1) ?_ (fun j hj => ?_) ⟨by omega,by omega,l2,rfl⟩ ?_
     ·refine k2.mono (fun j hj => ar3.keep j ?_ (fun f hf => ne j f 1 hf hj)) (by first | omega | (dsimp only;omega))
      rcases k2 with h | ⟨b,h,_,hb⟩
      ·rw[h] at hj;cases hj
      ·rw[h] at hj;cases hj;omega
     ·rcases k2 with h | ⟨b,h,_,hb⟩
      ·rw[h] at hj;cases hj
      ·rw[h] at hj;cases hj;unfold allow;simp;omega
     intro t4 hp4 ar4
     simp (disch:=omega) only[wp,qa,qb,qc,e8,hwi]
     refine ⟨8 - (i + 1),by omega,i + 1,t3,t4,rfl,⟨by omega,by omega⟩,e1,e5,?_,?_,rfl,?_,?_,?_⟩
     ·rw[rdsL_succ,osC_app];rfl
     ·rw[hnl];show AV.sl _ _ _ = _;simp[intsC]
     ·rcases ar3.tok with h | ⟨h,hb3⟩
      ·exact .inl h
      ·refine .inr ⟨_,h,?_,by first | omega | (dsimp only;omega)⟩
       refine (ar4.keep _ (by omega) (fun f hf => ?_)).trans hb3
       rcases k2 with h2 | ⟨b,h2,_,hb⟩
       ·rw[h2] at hf;cases hf
       ·rw[h2] at hf;injection hf with hf;omega
     ·exact ar4.ok (by first | omega | (dsimp only;omega))
     ·refine (ar4.ne fun f hf => ?_).symm
      rcases ar3.tok with h | ⟨h,_⟩
      ·rw[h] at hf;cases hf
      ·rw[h] at hf;injection hf with hf;omega
    ·have c4':¬ ((i:Nat):Int) < 8:=by omega
     simp (disch:=omega) only[wp,qa,qb,qc,e1,e6,e7,e8,c3',c4']
     exact ⟨i,t1,t2,⟨⟨hi1,hi2⟩,e1,e5,e6,e7,e8,k1.mono (fun j hj => rfl) (by first | omega | (dsimp only;omega)),k2.mono (fun j hj => rfl) (by first | omega | (dsimp only;omega)),ne⟩,.inr (by omega)⟩
   ·have c3':¬ ((i:Nat):Int) < ((reads.length:Nat):Int):=by omega
    simp (disch:=omega) only[wp,qa,qb,qc,e1,e6,e7,e8,c3']
    exact ⟨i,t1,t2,⟨⟨hi1,hi2⟩,e1,e5,e6,e7,e8,k1.mono (fun j hj => rfl) (by first | omega | (dsimp only;omega)),k2.mono (fun j hj => rfl) (by first | omega | (dsimp only;omega)),ne⟩,.inl (by omega)⟩
 ·rintro e g ⟨i,t1,t2,⟨⟨hi1,hi2⟩,e1,e5,e6,e7,e8,k1,k2,ne⟩,hend⟩
  have hok:∀ x∈rdsL i,OkT (fixT x)∧nodes (fixT x)≤1:=by
   intro x hx
   unfold rdsL at hx
   obtain ⟨j,hj,rfl⟩:=List.mem_map.1 hx
   have:=List.mem_range.1 hj
   exact ⟨⟨by omega,by omega⟩,Nat.le_refl _⟩
  obtain ⟨h1,h2,h3⟩:=sp_tof A.t h407 ex (rdsL i) .non 1 ⟨by omega,by omega⟩ hx hok (by rw[rdsL_len];omega)
  rw[rdsL_len] at h1
  rw[Nat.mul_one] at h3
  have v1:=sp_teval A.t A.teval reads (by omega) .non h2
  have hev:=ofX_ev hr (R:=rdsL i) (vals:=reads.take i) (by rw[rdsL_len,List.length_take];omega) (fun x hx => (hok x hx).1) (fun j hj => by
   rw[rdsL_len] at hj
   rw[rdsL_at hj]
   show evT reads (.rd (j:Int)) = _
   unfold evT
   rw[if_pos ⟨by omega,by omega⟩]
   simp[List.getD_eq_getElem?_getD,List.getElem?_take,hj]) hx
  have v2:=sp_eval h115 h109 h125 A.r.do_ ex (reads.take i) (by omega) (by rw[List.length_take];omega)
  rw[List.length_take,Nat.min_eq_left (by omega)] at v2
  rw[hev] at v1
  have sz:=sp_tsize A.t (t:=ofX ex (rdsL i)) (by omega)
  have c5:((nodes (ofX ex (rdsL i)):Nat):Int)≤((ex.length:Nat):Int):=by omega
  unfold exV at e5 h1 v2
  simp (disch:=omega) only[wp,qa,qb,qc,e1,e5,e6,e7,h1,v1,v2,sz,c5,aw,f_tP,v_tP,beq_self_eq_true]
end Go.Ab
end
section
set_option linter.unusedVariables false
set_option maxRecDepth 100000
namespace Go.Proofs.YtmlfhgdpcjhnpaaDoor
open Go.Ab
theorem wideF:WideF funs:=⟨rfl,rfl,rfl,rfl,rfl⟩
theorem termOf_law (l reads:List Int) (hr:∀ v∈reads,(Lit.int .i64 v).wf = true) (tl tr:Tok):pureS funs 508 [.sl (intsC l) l.length tl,.sl (intsC reads) reads.length tr] = some (.b true):=sp_termOf lawT wideF rfl rfl rfl rfl rfl l reads (fun v h => i64_of (hr v h)) tl tr
end Go.Proofs.YtmlfhgdpcjhnpaaDoor
end
section
set_option linter.unusedVariables false
set_option maxRecDepth 100000
namespace Go.Proofs.YtmlfhgdpcjhnpaaDoor
open Go.Ab Go.RowKit
theorem tabCells {H:Type} {enc:TypeId × Value→H} {P:Program} {W:World} {laid:List (String × DataW Unit)} {name:String} {zs:List Int} {a b:String × DataW Unit} {g:Nat} {t e:TypeId} {n:Nat}
  (hg:P.globalNamed name = some g) (hty:(P.globals[g]?).map (·.type) = some t) (ht:P.underlying t = some (.array n e)) (he:P.underlying e = some (.int .u64)) (hce:P.cellsOf e = 1) (hct:P.cellsOf t = n)
  (h:laidMet P [a,b,(name,Lib.tabData .u64 zs)] W):Lib.TabIs P W name .u64 zs:=by
 obtain ⟨_,⟨_,_,_,_,_,_,_,_,_,_,⟨_,_,_,_,_,_,_,_,_,_,⟨g',t',cs,fuel,p,q,hg',ht',hvar,hd,_,_⟩,_⟩,_⟩,_⟩:=h
 obtain rfl:=Option.some.inj (hg.symm.trans hg')
 obtain rfl:=Option.some.inj (hty.symm.trans ht')
 unfold Lib.TabIs
 rw[hvar,←Lib.cells_of_tab ht he hce hct hd]
theorem glOf {W:World} (h:laidMetH Tryd.prog Rows.termNumbersRow.laid W):GlOk (c0 num W):=by
 rw[MakeChecks.laidMetH_plain _ _ _ (by kernel_rfl)] at h
 have ht:Lib.TabIs Tryd.prog W (Rows.termNumbersRow.named.headD "") .u64 Lib.pow10Tab:=
  tabCells (H:=Unit) (enc:=fun _ => ()) (laid:=[]) (g:=0) (t:=132) (e:=82) (n:=20) gNamed (by kernel_rfl) Tryd.underlying132 Tryd.underlying82 (by kernel_rfl) (by kernel_rfl) h
 intro k hk
 have hk:num 1000000 = k + 1:=hk
 have h1:num 1000000 = 1:=by kernel_rfl
 obtain rfl:k = 0:=by omega
 unfold Lib.TabIs World.var? at ht
 rw[gNamed,pow10_eq] at ht
 simp only[Option.bind_some] at ht
 split at ht
 ·rename_i cs ty fr hb
  cases ht
  exact ⟨(Array.getElem?_eq_some_iff.1 hb).1,ty,fr,hb⟩
 ·cases ht
end Go.Proofs.YtmlfhgdpcjhnpaaDoor
end
