/- What RulesNumbers rests on, part 5: lemmas, no claim of its own. -/
import Derived.Test.YtacmiicckhaagaaGreatPRulesNumbers4
set_option maxRecDepth 100000
set_option maxHeartbeats 16000000
open Nat renaming reduceAdd → qa, reduceMul → qb, reduceSub → qc
section
set_option linter.unusedVariables false
set_option linter.unusedSimpArgs false
namespace Go.Ab
variable {F:Funs}
structure R24F (F:Funs):Prop where
 ch:ChF F
 put:F 132 = some A_xref05_Put
 pk:Pk_xref24 F
def setZ (x:Ins):Int:=if x.kd == 1 || x.kd == 4 || x.kd == 5 then x.rg else -1
theorem sp_setZ (A:R24F F) (x:Ins):pureS F 562 [.agg (insC x)] = some (.i .i64 (setZ x)):=by
 refine pure_of A.pk.xref24_sets ?_
 obtain ⟨kd,md,md2,rg,lc,ex,n⟩:=x
 unfold setZ insC exV
 dsimp only
 cases c1:(kd == 1) with
 | true =>
   simp (disch:=omega) only[A_xref24_sets,wp,qa,qb,qc,gl,i7_6,if_true,if_false,c1]
 | false =>
 cases c2:(kd == 4) with
 | true =>
   simp (disch:=omega) only[A_xref24_sets,wp,qa,qb,qc,gl,i7_6,if_true,if_false,c1,c2]
 | false =>
 cases c3:(kd == 5) with
 | true =>
   simp (disch:=omega) only[A_xref24_sets,wp,qa,qb,qc,gl,i7_6,if_true,if_false,c1,c2,c3]
 | false =>
 simp (disch:=omega) only[A_xref24_sets,wp,qa,qb,qc,gl,i7_6,if_true,if_false,c1,c2,c3]
def touZ (a b:Ins):Bool:=decide (0≤setZ a) && (setZ a == setZ b || (regsX b.ex).contains (setZ a))
theorem sp_touZ (A:R24F F) (a b:Ins) (hb:b.ex.length≤1000):pureS F 561 [.agg (insC a),.agg (insC b)] = some (.b (touZ a b)):=by
 refine pure_of A.pk.xref24_touches ?_
 have h1:=sp_setZ A a
 have h2:=sp_setZ A b
 have h3:=sp_usesG A.ch b.ex (setZ a) hb
 unfold touZ
 generalize setZ a = r at h1 h3 ⊢
 generalize setZ b = r2 at h2 ⊢
 generalize (regsX b.ex).contains r = C at h3 ⊢
 obtain ⟨kd,md,md2,rg,lc,ex,n⟩:=a
 obtain ⟨kd2,md3,md4,rg2,lc2,ex2,n2⟩:=b
 unfold insC exV at *
 dsimp only at *
 by_cases c1:0≤r
 ·have c1':0≤r:=by omega
  cases c2:(r == r2) with
  | true =>
    simp (disch:=omega) only[A_xref24_touches,wp,qa,qb,qc,gl,i7_0,i7_6,frz_ag7,h1,h2,h3,c1,c1',c2]
  | false =>
  simp (disch:=omega) only[A_xref24_touches,wp,qa,qb,qc,gl,i7_0,i7_6,frz_ag7,h1,h2,h3,c1,c1',c2]
 ·have c1':¬ 0≤r:=by omega
  simp (disch:=omega) only[A_xref24_touches,wp,qa,qb,qc,gl,i7_0,i7_6,frz_ag7,h1,h2,h3,c1,c1']
theorem touZ_eq {a b:Ins} (h:setB a = true→0≤a.rg):touZ a b = meetB a b:=by
 unfold touZ meetB
 cases ha:setB a with
 | false =>
   have:setZ a = -1:=by unfold setZ;unfold setB at ha;rw[ha];rfl
   rw[this]
   rfl
 | true =>
   have e:setZ a = a.rg:=by unfold setZ;unfold setB at ha;rw[ha];rfl
   have h0:=h ha
   rw[e,decide_eq_true h0,Bool.true_and,Bool.true_and,Bool.or_comm]
   cases hb:setB b with
   | false =>
     have e2:setZ b = -1:=by unfold setZ;unfold setB at hb;rw[hb];rfl
     rw[e2]
     have:(a.rg == -1) = false:=by simp;omega
     rw[this]
     rfl
   | true =>
     have e2:setZ b = b.rg:=by unfold setZ;unfold setB at hb;rw[hb];rfl
     rw[e2,Bool.true_and]
     congr 1
     rw[Bool.eq_iff_iff,beq_iff_eq,beq_iff_eq]
     exact ⟨fun h => h.symm,fun h => h.symm⟩
def swpB (a b:Ins):Bool:=!(a.kd == 3 || a.kd == 6 || b.kd == 3 || b.kd == 6 || touZ a b || touZ b a) && (a.kd == 5 || b.kd == 5 || (!(a.lc == b.lc || a.kd == 4 || (a.kd == 1 && a.md == 1)) && !((b.kd == 2 && b.md == 2) || (b.kd == 4 && b.md2 == 2))))
theorem sp_swpB (A:R24F F) (a b:Ins) (ha:a.ex.length≤1000) (hb:b.ex.length≤1000):pureS F 560 [.agg (insC a),.agg (insC b)] = some (.b (swpB a b)):=by
 refine pure_of A.pk.xref24_swap ?_
 have h1:=sp_touZ A a b hb
 have h2:=sp_touZ A b a ha
 unfold swpB
 generalize touZ a b = T1 at h1 ⊢
 generalize touZ b a = T2 at h2 ⊢
 obtain ⟨kd,md,md2,rg,lc,ex,n⟩:=a
 obtain ⟨kd2,md3,md4,rg2,lc2,ex2,n2⟩:=b
 unfold insC exV at *
 dsimp only at *
 cases c1:(kd == 3) with
 | true =>
   simp (disch:=omega) only[A_xref24_swap,wp,qa,qb,qc,gl,i7_0,i7_6,frz_ag7,h1,h2,c1]
 | false =>
 cases c2:(kd == 6) with
 | true =>
   simp (disch:=omega) only[A_xref24_swap,wp,qa,qb,qc,gl,i7_0,i7_6,frz_ag7,h1,h2,c1,c2]
 | false =>
 cases c3:(kd2 == 3) with
 | true =>
   simp (disch:=omega) only[A_xref24_swap,wp,qa,qb,qc,gl,i7_0,i7_6,frz_ag7,h1,h2,c1,c2,c3]
 | false =>
 cases c4:(kd2 == 6) with
 | true =>
   simp (disch:=omega) only[A_xref24_swap,wp,qa,qb,qc,gl,i7_0,i7_6,frz_ag7,h1,h2,c1,c2,c3,c4]
 | false =>
 cases c5:T1 with
 | true =>
   simp (disch:=omega) only[A_xref24_swap,wp,qa,qb,qc,gl,i7_0,i7_6,frz_ag7,h1,h2,c1,c2,c3,c4,c5]
 | false =>
 cases c6:T2 with
 | true =>
   simp (disch:=omega) only[A_xref24_swap,wp,qa,qb,qc,gl,i7_0,i7_6,frz_ag7,h1,h2,c1,c2,c3,c4,c5,c6]
 | false =>
 cases d1:(kd == 5) with
 | true =>
   simp (disch:=omega) only[A_xref24_swap,wp,qa,qb,qc,gl,i7_0,i7_6,frz_ag7,h1,h2,c1,c2,c3,c4,c5,c6,d1]
 | false =>
 cases d2:(kd2 == 5) with
 | true =>
   simp (disch:=omega) only[A_xref24_swap,wp,qa,qb,qc,gl,i7_0,i7_6,frz_ag7,h1,h2,c1,c2,c3,c4,c5,c6,d1,d2]
 | false =>
 cases d3:(lc == lc2) with
 | true =>
   simp (disch:=omega) only[A_xref24_swap,wp,qa,qb,qc,gl,i7_0,i7_6,frz_ag7,h1,h2,c1,c2,c3,c4,c5,c6,d1,d2,d3]
 | false =>
 cases d4:(kd == 4) with
 | true =>
   simp (disch:=omega) only[A_xref24_swap,wp,qa,qb,qc,gl,i7_0,i7_6,frz_ag7,h1,h2,c1,c2,c3,c4,c5,c6,d1,d2,d3,d4]
 | false =>
 cases d5:(kd == 1) with
 | false =>
   cases d7:(kd2 == 2) with
   | false =>
     cases d9:(kd2 == 4) with
     | false =>
       simp (disch:=omega) only[A_xref24_swap,wp,qa,qb,qc,gl,i7_0,i7_6,frz_ag7,h1,h2,c1,c2,c3,c4,c5,c6,d1,d2,d3,d4,d5,d7,d9]
     | true =>
     simp (disch:=omega) only[A_xref24_swap,wp,qa,qb,qc,gl,i7_0,i7_6,frz_ag7,h1,h2,c1,c2,c3,c4,c5,c6,d1,d2,d3,d4,d5,d7,d9]
   | true =>
   cases d8:(md3 == 2) with
   | true =>
     simp (disch:=omega) only[A_xref24_swap,wp,qa,qb,qc,gl,i7_0,i7_6,frz_ag7,h1,h2,c1,c2,c3,c4,c5,c6,d1,d2,d3,d4,d5,d7,d8]
   | false =>
   cases d9:(kd2 == 4) with
   | false =>
     simp (disch:=omega) only[A_xref24_swap,wp,qa,qb,qc,gl,i7_0,i7_6,frz_ag7,h1,h2,c1,c2,c3,c4,c5,c6,d1,d2,d3,d4,d5,d7,d8,d9]
   | true =>
   simp (disch:=omega) only[A_xref24_swap,wp,qa,qb,qc,gl,i7_0,i7_6,frz_ag7,h1,h2,c1,c2,c3,c4,c5,c6,d1,d2,d3,d4,d5,d7,d8,d9]
 | true =>
 cases d6:(md == 1) with
 | true =>
   simp (disch:=omega) only[A_xref24_swap,wp,qa,qb,qc,gl,i7_0,i7_6,frz_ag7,h1,h2,c1,c2,c3,c4,c5,c6,d1,d2,d3,d4,d5,d6]
 | false =>
 cases d7:(kd2 == 2) with
 | false =>
   cases d9:(kd2 == 4) with
   | false =>
     simp (disch:=omega) only[A_xref24_swap,wp,qa,qb,qc,gl,i7_0,i7_6,frz_ag7,h1,h2,c1,c2,c3,c4,c5,c6,d1,d2,d3,d4,d5,d6,d7,d9]
   | true =>
   simp (disch:=omega) only[A_xref24_swap,wp,qa,qb,qc,gl,i7_0,i7_6,frz_ag7,h1,h2,c1,c2,c3,c4,c5,c6,d1,d2,d3,d4,d5,d6,d7,d9]
 | true =>
 cases d8:(md3 == 2) with
 | true =>
   simp (disch:=omega) only[A_xref24_swap,wp,qa,qb,qc,gl,i7_0,i7_6,frz_ag7,h1,h2,c1,c2,c3,c4,c5,c6,d1,d2,d3,d4,d5,d6,d7,d8]
 | false =>
 cases d9:(kd2 == 4) with
 | false =>
   simp (disch:=omega) only[A_xref24_swap,wp,qa,qb,qc,gl,i7_0,i7_6,frz_ag7,h1,h2,c1,c2,c3,c4,c5,c6,d1,d2,d3,d4,d5,d6,d7,d8,d9]
 | true =>
 simp (disch:=omega) only[A_xref24_swap,wp,qa,qb,qc,gl,i7_0,i7_6,frz_ag7,h1,h2,c1,c2,c3,c4,c5,c6,d1,d2,d3,d4,d5,d6,d7,d8,d9]
theorem swpB_eq {a b:Ins} (h1:setB a = true→0≤a.rg) (h2:setB b = true→0≤b.rg):swpB a b = pair1 a b:=by
 unfold swpB pair1 stayB fstB lstB
 rw[touZ_eq h1,touZ_eq h2]
 generalize meetB a b = M1
 generalize meetB b a = M2
 rw[Bool.eq_iff_iff]
 simp only[Bool.and_eq_true,Bool.or_eq_true,Bool.not_eq_true',Bool.or_eq_false_iff,Bool.and_eq_false_iff,beq_eq_false_iff_ne,beq_iff_eq,bne_iff_ne,ne_eq]
 grind
theorem sp_join24 (A:R24F F) (a b:Int):pureS F 550 [.i .i64 a,.i .i64 b] = some (.i .i64 (joinZ a b)):=by
 refine pure_of A.pk.xref24_Join ?_
 by_cases c1:a < 1
 ·rw[show joinZ a b = 0 from if_pos (.inl (by simp[barB];omega))]
  simp (disch:=omega) only[A_xref24_Join,wp,qa,qb,qc,c1]
 by_cases c2:4 < a
 ·rw[show joinZ a b = 0 from if_pos (.inl (by simp[barB];omega))]
  simp (disch:=omega) only[A_xref24_Join,wp,qa,qb,qc,c1,c2]
 by_cases c3:b < 1
 ·rw[show joinZ a b = 0 from if_pos (.inr (by simp[barB];omega))]
  simp (disch:=omega) only[A_xref24_Join,wp,qa,qb,qc,c1,c2,c3]
 by_cases c4:4 < b
 ·rw[show joinZ a b = 0 from if_pos (.inr (by simp[barB];omega))]
  simp (disch:=omega) only[A_xref24_Join,wp,qa,qb,qc,c1,c2,c3,c4]
 rw[show joinZ a b = if a = b then a else if a = 4∨b = 4 then 4 else 3 from if_neg (by simp[barB];omega)]
 by_cases c5:a = b
 ·have c5':(a == b) = true:=by simpa using c5
  rw[if_pos c5]
  simp (disch:=omega) only[A_xref24_Join,wp,qa,qb,qc,c1,c2,c3,c4,c5']
 have c5':(a == b) = false:=by simpa using c5
 rw[if_neg c5]
 by_cases c6:a = 4
 ·have c6':(a == 4) = true:=by simpa using c6
  rw[if_pos (.inl c6)]
  simp (disch:=omega) only[A_xref24_Join,wp,qa,qb,qc,c1,c2,c3,c4,c5',c6']
 have c6':(a == 4) = false:=by simpa using c6
 by_cases c7:b = 4
 ·have c7':(b == 4) = true:=by simpa using c7
  rw[if_pos (.inr c7)]
  simp (disch:=omega) only[A_xref24_Join,wp,qa,qb,qc,c1,c2,c3,c4,c5',c6',c7']
 have c7':(b == 4) = false:=by simpa using c7
 rw[if_neg (by rintro (h | h);· exact c6 h
               ·exact c7 h)]
 simp (disch:=omega) only[A_xref24_Join,wp,qa,qb,qc,c1,c2,c3,c4,c5',c6',c7']
def strW (i:Ins) (m:Int):Bool:=
 if (i.kd == 1) = true then i.md == 0 && m == 1 else if (i.kd == 2) = true then i.md == 0 && m == 2 else if (i.kd == 4) = true then (i.md == 0 && m == 1) || (i.md2 == 0 && m == 2)
 else i.kd == 3 && decide (1≤m) && decide (m≤4) && m != i.md && joinZ i.md m == m
theorem sp_strW (A:R24F F) (i:Ins) (m:Int):pureS F 554 [.agg (insC i),.i .i64 m] = some (.b (strW i m)):=by
 refine pure_of A.pk.xref24_stronger ?_
 have hj:=sp_join24 A i.md m
 unfold strW
 obtain ⟨kd,md,md2,rg,lc,ex,n⟩:=i
 unfold insC exV
 dsimp only at *
 generalize joinZ md m = J at hj ⊢
 cases c1:(kd == 1) with
 | true =>
   rw[if_pos rfl]
   cases d1:(md == 0) with
   | false =>
     simp (disch:=omega) only[A_xref24_stronger,wp,qa,qb,qc,gl,i7_0,i7_6,frz_ag7,hj,c1,d1]
   | true =>
   simp (disch:=omega) only[A_xref24_stronger,wp,qa,qb,qc,gl,i7_0,i7_6,frz_ag7,hj,c1,d1]
 | false =>
 rw[if_neg Bool.false_ne_true]
 cases c2:(kd == 2) with
 | true =>
   rw[if_pos rfl]
   cases d1:(md == 0) with
   | false =>
     simp (disch:=omega) only[A_xref24_stronger,wp,qa,qb,qc,gl,i7_0,i7_6,frz_ag7,hj,c1,c2,d1]
   | true =>
   simp (disch:=omega) only[A_xref24_stronger,wp,qa,qb,qc,gl,i7_0,i7_6,frz_ag7,hj,c1,c2,d1]
 | false =>
 rw[if_neg Bool.false_ne_true]
 cases c3:(kd == 4) with
 | true =>
   rw[if_pos rfl]
   cases d1:(md == 0) with
   | false =>
     cases d3:(md2 == 0) with
     | false =>
       simp (disch:=omega) only[A_xref24_stronger,wp,qa,qb,qc,gl,i7_0,i7_6,frz_ag7,hj,c1,c2,c3,d1,d3]
     | true =>
     simp (disch:=omega) only[A_xref24_stronger,wp,qa,qb,qc,gl,i7_0,i7_6,frz_ag7,hj,c1,c2,c3,d1,d3]
   | true =>
   cases d2:(m == 1) with
   | true =>
     simp (disch:=omega) only[A_xref24_stronger,wp,qa,qb,qc,gl,i7_0,i7_6,frz_ag7,hj,c1,c2,c3,d1,d2]
   | false =>
   cases d3:(md2 == 0) with
   | false =>
     simp (disch:=omega) only[A_xref24_stronger,wp,qa,qb,qc,gl,i7_0,i7_6,frz_ag7,hj,c1,c2,c3,d1,d2,d3]
   | true =>
   simp (disch:=omega) only[A_xref24_stronger,wp,qa,qb,qc,gl,i7_0,i7_6,frz_ag7,hj,c1,c2,c3,d1,d2,d3]
 | false =>
 rw[if_neg Bool.false_ne_true]
 cases c4:(kd == 3) with
 | false =>
   simp (disch:=omega) only[A_xref24_stronger,wp,qa,qb,qc,gl,i7_0,i7_6,frz_ag7,hj,c1,c2,c3,c4]
 | true =>
 by_cases d1:1≤m
 ·have d1':1≤m:=by omega
  by_cases d2:m≤4
  ·have d2':m≤4:=by omega
   cases d3:(m != md) with
   | false =>
     simp (disch:=omega) only[A_xref24_stronger,wp,qa,qb,qc,gl,i7_0,i7_6,frz_ag7,hj,c1,c2,c3,c4,d1,d1',d2,d2',d3]
   | true =>
   simp (disch:=omega) only[A_xref24_stronger,wp,qa,qb,qc,gl,i7_0,i7_6,frz_ag7,hj,c1,c2,c3,c4,d1,d1',d2,d2',d3]
  ·have d2':¬ m≤4:=by omega
   simp (disch:=omega) only[A_xref24_stronger,wp,qa,qb,qc,gl,i7_0,i7_6,frz_ag7,hj,c1,c2,c3,c4,d1,d1',d2,d2']
 ·have d1':¬ 1≤m:=by omega
  simp (disch:=omega) only[A_xref24_stronger,wp,qa,qb,qc,gl,i7_0,i7_6,frz_ag7,hj,c1,c2,c3,c4,d1,d1']
theorem strW_eq (i:Ins) (m:Int):strW i m = strB i m:=by
 unfold strW strB
 simp only[beq_iff_eq]
 split
 ·rfl
 split
 ·rfl
 split
 ·rfl
 rw[Bool.eq_iff_iff]
 simp only[Bool.and_eq_true,beq_iff_eq,bne_iff_ne,ne_eq,decide_eq_true_eq]
 constructor
 ·rintro ⟨⟨⟨⟨h1,h2⟩,h3⟩,h4⟩,h5⟩
  exact ⟨⟨⟨h1,h4⟩,by omega⟩,h5⟩
 ·rintro ⟨⟨⟨h1,h4⟩,h2⟩,h5⟩
  have hb:barB m = true:=by
   cases hb:barB m with
   | true => rfl
   | false =>
     exfalso
     unfold joinZ at h5
     rw[if_pos (.inr hb)] at h5
     exact h2 h5.symm
  unfold barB at hb
  simp only[Bool.and_eq_true,decide_eq_true_eq] at hb
  exact ⟨⟨⟨⟨h1,hb.1⟩,hb.2⟩,h4⟩,h5⟩
def foldW (i:Ins):Bool:=decide ((1:Int) < ((i.ex.length:Nat):Int)) && (((regsX i.ex).length:Int) == 0) && decide (-2147483648≤evX i.ex []) && decide (evX i.ex []≤2147483647)
theorem sp_foldW (A:R24F F) (i:Ins) (hl:i.ex.length≤1000):pureS F 555 [.agg (insC i)] = some (.b (foldW i)):=by
 refine pure_of A.pk.xref24_folds ?_
 have h1:pureS F 115 [exV i.ex,.sl [] 0 .non] = some (.i .i64 (evX i.ex [])):=sp_eval A.ch.ex.eval A.ch.ex.check A.ch.ex.word A.ch.ex.do_ i.ex [] (by omega) (by simp)
 have h2:=sp_regs A.ch.ex.regs i.ex (by omega)
 unfold foldW
 generalize evX i.ex [] = v at h1 ⊢
 generalize regsX i.ex = R at h2 ⊢
 obtain ⟨kd,md,md2,rg,lc,ex,n⟩:=i
 unfold insC exV at *
 dsimp only at *
 by_cases c1:1 < ex.length
 ·have c1':(1:Int) < ((ex.length:Nat):Int):=by omega
  cases c2:(((R.length:Nat):Int) == 0) with
  | false =>
    simp (disch:=omega) only[A_xref24_folds,wp,qa,qb,qc,gl,i7_0,i7_6,frz_ag7,h1,h2,c1,c1',c2]
  | true =>
  by_cases c3:-2147483648≤v
  ·have c3':-2147483648≤v:=by omega
   by_cases c4:v≤2147483647
   ·have c4':v≤2147483647:=by omega
    simp (disch:=omega) only[A_xref24_folds,wp,qa,qb,qc,gl,i7_0,i7_6,frz_ag7,h1,h2,c1,c1',c2,c3,c3',c4,c4']
   ·have c4':¬ v≤2147483647:=by omega
    simp (disch:=omega) only[A_xref24_folds,wp,qa,qb,qc,gl,i7_0,i7_6,frz_ag7,h1,h2,c1,c1',c2,c3,c3',c4,c4']
  ·have c3':¬ -2147483648≤v:=by omega
   simp (disch:=omega) only[A_xref24_folds,wp,qa,qb,qc,gl,i7_0,i7_6,frz_ag7,h1,h2,c1,c1',c2,c3,c3']
 ·have c1':¬ (1:Int) < ((ex.length:Nat):Int):=by omega
  simp (disch:=omega) only[A_xref24_folds,wp,qa,qb,qc,gl,i7_0,i7_6,frz_ag7,h1,h2,c1,c1']
theorem foldW_eq (i:Ins):foldW i = foldB i:=by
 unfold foldW foldB
 rw[Bool.eq_iff_iff]
 simp only[Bool.and_eq_true,beq_iff_eq,decide_eq_true_eq,Bool.not_eq_true',decide_eq_false_iff_not]
 omega
def pairZ (r:Int) (a b:Ins):Bool:=
 if (r == 1) = true then swpB a b else if (r == 2) = true then a.kd == 2 && b.kd == 2 && a.lc == b.lc && (((regsX a.ex).length:Int) == 0) && (a.md == 0 || b.md == 2)
 else if (r == 3) = true then a.kd == 2 && b.kd == 1 && a.lc == b.lc && b.md == 0
 else if (r == 4) = true then a.kd == 1 && b.kd == 1 && a.lc == b.lc && b.md == 0
 else a.kd == 3 && b.kd == 3
theorem sp_pairZ (A:R24F F) (a b:Ins) (r:Int) (ha:a.ex.length≤1000) (hb:b.ex.length≤1000):pureS F 557 [.agg (insC a),.agg (insC b),.i .i64 r] = some (.b (pairZ r a b)):=by
 refine pure_of A.pk.xref24_pair ?_
 have h1:=sp_swpB A a b ha hb
 have h2:=sp_regs A.ch.ex.regs a.ex (by omega)
 unfold pairZ
 generalize swpB a b = S at h1 ⊢
 generalize regsX a.ex = R at h2 ⊢
 obtain ⟨kd,md,md2,rg,lc,ex,n⟩:=a
 obtain ⟨kd2,md3,md4,rg2,lc2,ex2,n2⟩:=b
 unfold insC exV at *
 dsimp only at *
 cases c1:(r == 1) with
 | true =>
   rw[if_pos rfl]
   simp (disch:=omega) only[A_xref24_pair,wp,qa,qb,qc,gl,i7_0,i7_6,frz_ag7,h1,h2,c1]
 | false =>
 rw[if_neg Bool.false_ne_true]
 cases c2:(r == 2) with
 | true =>
   rw[if_pos rfl]
   cases d1:(kd == 2) with
   | false =>
     simp (disch:=omega) only[A_xref24_pair,wp,qa,qb,qc,gl,i7_0,i7_6,frz_ag7,h1,h2,c1,c2,d1]
   | true =>
   cases d2:(kd2 == 2) with
   | false =>
     simp (disch:=omega) only[A_xref24_pair,wp,qa,qb,qc,gl,i7_0,i7_6,frz_ag7,h1,h2,c1,c2,d1,d2]
   | true =>
   cases d3:(lc == lc2) with
   | false =>
     simp (disch:=omega) only[A_xref24_pair,wp,qa,qb,qc,gl,i7_0,i7_6,frz_ag7,h1,h2,c1,c2,d1,d2,d3]
   | true =>
   cases d4:(((R.length:Nat):Int) == 0) with
   | false =>
     simp (disch:=omega) only[A_xref24_pair,wp,qa,qb,qc,gl,i7_0,i7_6,frz_ag7,h1,h2,c1,c2,d1,d2,d3,d4]
   | true =>
   cases d5:(md == 0) with
   | true =>
     simp (disch:=omega) only[A_xref24_pair,wp,qa,qb,qc,gl,i7_0,i7_6,frz_ag7,h1,h2,c1,c2,d1,d2,d3,d4,d5]
   | false =>
   simp (disch:=omega) only[A_xref24_pair,wp,qa,qb,qc,gl,i7_0,i7_6,frz_ag7,h1,h2,c1,c2,d1,d2,d3,d4,d5]
 | false =>
 rw[if_neg Bool.false_ne_true]
 cases c3:(r == 3) with
 | true =>
   rw[if_pos rfl]
   cases d1:(kd == 2) with
   | false =>
     simp (disch:=omega) only[A_xref24_pair,wp,qa,qb,qc,gl,i7_0,i7_6,frz_ag7,h1,h2,c1,c2,c3,d1]
   | true =>
   cases d2:(kd2 == 1) with
   | false =>
     simp (disch:=omega) only[A_xref24_pair,wp,qa,qb,qc,gl,i7_0,i7_6,frz_ag7,h1,h2,c1,c2,c3,d1,d2]
   | true =>
   cases d3:(lc == lc2) with
   | false =>
     simp (disch:=omega) only[A_xref24_pair,wp,qa,qb,qc,gl,i7_0,i7_6,frz_ag7,h1,h2,c1,c2,c3,d1,d2,d3]
   | true =>
   simp (disch:=omega) only[A_xref24_pair,wp,qa,qb,qc,gl,i7_0,i7_6,frz_ag7,h1,h2,c1,c2,c3,d1,d2,d3]
 | false =>
 rw[if_neg Bool.false_ne_true]
 cases c4:(r == 4) with
 | true =>
   rw[if_pos rfl]
   cases d1:(kd == 1) with
   | false =>
     simp (disch:=omega) only[A_xref24_pair,wp,qa,qb,qc,gl,i7_0,i7_6,frz_ag7,h1,h2,c1,c2,c3,c4,d1]
   | true =>
   cases d2:(kd2 == 1) with
   | false =>
     simp (disch:=omega) only[A_xref24_pair,wp,qa,qb,qc,gl,i7_0,i7_6,frz_ag7,h1,h2,c1,c2,c3,c4,d1,d2]
   | true =>
   cases d3:(lc == lc2) with
   | false =>
     simp (disch:=omega) only[A_xref24_pair,wp,qa,qb,qc,gl,i7_0,i7_6,frz_ag7,h1,h2,c1,c2,c3,c4,d1,d2,d3]
   | true =>
   simp (disch:=omega) only[A_xref24_pair,wp,qa,qb,qc,gl,i7_0,i7_6,frz_ag7,h1,h2,c1,c2,c3,c4,d1,d2,d3]
 | false =>
 rw[if_neg Bool.false_ne_true]
 cases d1:(kd == 3) with
 | false =>
   simp (disch:=omega) only[A_xref24_pair,wp,qa,qb,qc,gl,i7_0,i7_6,frz_ag7,h1,h2,c1,c2,c3,c4,d1]
 | true =>
 simp (disch:=omega) only[A_xref24_pair,wp,qa,qb,qc,gl,i7_0,i7_6,frz_ag7,h1,h2,c1,c2,c3,c4,d1]
end Go.Ab
end
section
set_option linter.unusedVariables false
set_option linter.unusedSimpArgs false
namespace Go.Ab
variable {F:Funs}
structure TrJ (l:List Ins) (k:Nat) (e:Env) (g:G):Prop where
 hk:k≤l.length
 e0:e 0 = .sl (insLC l) l.length .non
 e4:e 4 = .i .i64 ((k:Nat):Int)
 e3:∃ t,e 3 = .sl (intsC ((tgv l k).foldl putI [])) ((tgv l k).foldl putI []).length t
structure TrE (l:List Ins) (e:Env) (g:G):Prop where
 e3:∃ t,e 3 = .sl (intsC (tgI l)) (tgI l).length t
theorem tgF_len (l:List Ins) (k:Nat):((tgv l k).foldl putI []).length≤k:=by
 have key:∀ (v acc:List Int),(v.foldl putI acc).length≤acc.length + v.length:=by
  intro v
  induction v with
  | nil => intro acc;simp
  | cons a v ih =>
    intro acc
    have:=ih (putI acc a)
    have:=putI_len (l:=acc) (v:=a)
    simp only[List.foldl_cons,List.length_cons]
    omega
 have h1:=key (tgv l k) []
 have h2:=tgv_len l k
 rw[List.length_nil] at h1
 omega
theorem sp_rTargets (A:R24F F) {l:List Ins} (hl:WfT l):pureS F 552 [.sl (insLC l) l.length .non] = some (.sl (intsC (tgI l)) (tgI l).length .non):=by
 refine pure_of A.pk.xref24_Targets ?_
 have hlen:=hl.len
 have s7:=sp7
 simp (disch:=omega) only[A_xref24_Targets,wp,qa,qb,qc]
 refine blk_cut (fun e g => TrE l e g) ?_ ?_
 ·refine W_loop (fun q e g => ∃ k,q = l.length - k∧TrJ l k e g) l.length ?_ ?_
  ·exact ⟨0,rfl,Nat.zero_le _,rfl,rfl,_,rfl⟩
  ·rintro q e g ⟨k,rfl,hk,e0,e4,t,e3⟩
   by_cases c1:k < l.length
   ·have c1':((k:Nat):Int) < ((l.length:Nat):Int):=by omega
    have ha:=ins_all c1
    have hw:=succ_wrap (k:=k) (by omega)
    have hvt:=tgv_succ l k
    have hvl:=tgF_len l k
    have hn:=hl.n _ (in_mem c1)
    have hp:=insLC_drop c1
    generalize l.getD k fence0 = x at ha hvt hn hp
    obtain ⟨kd,md,md2,rg,lc,ex,n⟩:=x
    unfold insC exV at ha hp
    dsimp only at hvt hn hp
    by_cases c2:kd = 6
    ·have c2':(kd == 6) = true:=by simpa using c2
     have hn:=hn c2
     rw[if_pos c2] at hvt
     have hw2:IntKind.i64.wrap (((k + 1:Nat):Int) + n) = ((k:Nat):Int) + 1 + n:=by rw[i64_wrap (by omega) (by omega)];omega
     have hput:=rp_put A.put ((tgv l k).foldl putI []) (((k:Nat):Int) + 1 + n) .non (by omega)
     simp (disch:=omega) only[wp,qa,qb,qc,gl,e0,e3,e4,c1',hp,hw,hw2,c2',i7_6,hput,List.drop_succ_cons,List.drop_zero]
     refine ⟨l.length - (k + 1),by omega,k + 1,rfl,⟨by omega,e0,rfl,?_⟩⟩
     rw[hvt,List.foldl_append]
     exact ⟨_,rfl⟩
    ·have c2':(kd == 6) = false:=by simpa using c2
     rw[if_neg c2,List.append_nil] at hvt
     simp (disch:=omega) only[wp,qa,qb,qc,gl,e0,e4,c1',hp,hw,c2',i7_6,List.drop_succ_cons,List.drop_zero]
     refine ⟨l.length - (k + 1),by omega,k + 1,rfl,⟨by omega,e0,rfl,?_⟩⟩
     rw[hvt]
     exact ⟨t,e3⟩
   ·have c1':¬ ((k:Nat):Int) < ((l.length:Nat):Int):=by omega
    simp (disch:=omega) only[wp,qa,qb,qc,e0,e4,c1']
    obtain rfl:k = l.length:=by omega
    exact ⟨t,e3⟩
 ·rintro e g ⟨t,e3⟩
  simp (disch:=omega) only[wp,qa,qb,qc,e3]
structure TaJ (L:List Int) (v:Int) (k:Nat) (e:Env) (g:G):Prop where
 hk:k≤L.length
 e1:e 1 = .i .i64 v
 e5:e 5 = .sl (intsC L) L.length .non
 e6:e 6 = .i .i64 ((k:Nat):Int)
 no:(L.take k).contains v = false
structure TaE (L:List Int) (v:Int) (e:Env) (g:G):Prop where
 no:L.contains v = false
theorem con_take {L:List Int} {k:Nat} {v:Int} (h:k < L.length):(L.take (k + 1)).contains v = ((L.take k).contains v || (L.getD k 0 == v)):=by
 rw[List.take_succ_eq_append_getElem h,List.getD_eq_getElem?_getD,List.getElem?_eq_getElem h,Option.getD_some,Bool.eq_iff_iff]
 simp only[List.contains_eq_mem,List.mem_append,decide_eq_true_eq,List.mem_singleton,Bool.or_eq_true,beq_iff_eq]
 constructor
 ·rintro (h | h)
  ·exact .inl h
  ·exact .inr h.symm
 ·rintro (h | h)
  ·exact .inl h
  ·exact .inr h.symm
theorem con_yes {L:List Int} {k:Nat} {v:Int} (h:k < L.length) (h2:(L.getD k 0 == v) = true):L.contains v = true:=by
 rw[beq_iff_eq] at h2
 rw[←h2,List.getD_eq_getElem?_getD,List.getElem?_eq_getElem h,Option.getD_some]
 simp
theorem sp_target (A:R24F F) {l:List Ins} (hl:WfT l) (v:Int):pureS F 556 [.sl (insLC l) l.length .non,.i .i64 v] = some (.b ((tgI l).contains v)):=by
 refine pure_of A.pk.xref24_target ?_
 have ht:=sp_rTargets A hl
 have hlen:=tgI_len hl
 generalize tgI l = L at ht hlen ⊢
 simp (disch:=omega) only[A_xref24_target,wp,qa,qb,qc,ht]
 refine blk_cutR (fun e g => TaE L v e g) ?_ ?_
 ·refine W_loop (fun q e g => ∃ k,q = L.length - k∧TaJ L v k e g) L.length ?_ ?_
  ·exact ⟨0,rfl,Nat.zero_le _,rfl,rfl,rfl,rfl⟩
  ·rintro q e g ⟨k,rfl,hk,e1,e5,e6,no⟩
   by_cases c1:k < L.length
   ·have c1':((k:Nat):Int) < ((L.length:Nat):Int):=by omega
    have hp:=ints_part c1
    have hw:=succ_wrap (k:=k) (by omega)
    cases c2:(L.getD k 0 == v) with
    | true =>
      rw[con_yes c1 c2]
      simp (disch:=omega) only[wp,qa,qb,qc,e1,e5,e6,c1',hp,c2]
    | false =>
      simp (disch:=omega) only[wp,qa,qb,qc,e1,e5,e6,c1',hp,c2,hw]
      exact ⟨L.length - (k + 1),by omega,k + 1,rfl,by omega,e1,e5,rfl,by rw[con_take c1,no,c2];rfl⟩
   ·have c1':¬ ((k:Nat):Int) < ((L.length:Nat):Int):=by omega
    simp (disch:=omega) only[wp,qa,qb,qc,e1,e5,e6,c1']
    rw[List.take_of_length_le (by omega)] at no
    exact ⟨no⟩
 ·rintro e g ⟨no⟩
  rw[no]
  simp (disch:=omega) only[wp,qa,qb,qc]
end Go.Ab
end
section
set_option linter.unusedVariables false
set_option linter.unusedSimpArgs false
namespace Go.Ab
variable {F:Funs}
theorem okI_rg {x:Ins} {lc left:Int} (h:okI x lc left = true) (hs:setB x = true):0≤x.rg:=by
 unfold setB at hs
 simp only[Bool.or_eq_true,beq_iff_eq] at hs
 obtain ⟨a,b⟩:=okI_kd h
 unfold okI at h
 repeat' split at h
 all_goals first
  | (exfalso;omega)
  | (simp[partZ] at h;omega)
theorem rg_of {lc:Int} {ths:List (List Ins)} (h:chkP lc ths = 0) {th:List Ins} (ht:th∈ths):∀ x∈th,setB x = true→0≤x.rg:=by
 obtain ⟨_,_,_,h1,h2,_⟩:=chk_ok h
 have h3:=okTs_at h1 ht
 intro x hx hs
 obtain ⟨k,hk,rfl⟩:=List.getElem_of_mem hx
 have h5:=okT_at h3 hk
 rw[ins_get hk] at h5
 exact okI_rg h5 hs
theorem pairZ_eq {r:Int} (h1:1≤r) (h5:r≤5) {a b:Ins} (ha:setB a = true→0≤a.rg) (hb:setB b = true→0≤b.rg):
  pairZ r a b = if r = 1 then pair1 a b else if r = 2 then pair2 a b else if r = 3 then pairR 2 a b else if r = 4 then pairR 1 a b else pair5 a b:=by
 unfold pairZ
 rw[swpB_eq ha hb]
 simp only[beq_iff_eq]
 split
 ·rfl
 split
 ·rfl
 split
 ·unfold pairR
  rw[Bool.and_assoc,Bool.and_assoc,Bool.and_assoc,Bool.and_assoc]
  congr 2
  exact Bool.and_comm _ _
 split
 ·unfold pairR
  rw[Bool.and_assoc,Bool.and_assoc,Bool.and_assoc,Bool.and_assoc]
  congr 2
  exact Bool.and_comm _ _
 rfl
theorem canR_pair {r:Int} (h1:1≤r) (h5:r≤5) (l:List Ins) (k:Nat) (m:Int) (hr:∀ x∈l,setB x = true→0≤x.rg) (hk:k < l.length):
  canR r l ((k:Nat):Int) m = ((m == 0) && decide (((k:Nat):Int) + 1 < ((l.length:Nat):Int)) && !(tgI l).contains (((k:Nat):Int) + 1) && pairZ r (l.getD k fence0) (l.getD (k + 1) fence0)):=by
 have hb:bothB l ((k:Nat):Int) m = ((m == 0) && decide (((k:Nat):Int) + 1 < ((l.length:Nat):Int)) && !(tgI l).contains (((k:Nat):Int) + 1)):=by
  unfold bothB hasB
  generalize (tgI l).contains (((k:Nat):Int) + 1) = C
  rw[Bool.eq_iff_iff]
  simp only[Bool.and_eq_true,beq_iff_eq,decide_eq_true_eq]
  constructor
  ·rintro ⟨⟨⟨_,h2⟩,h3⟩,h4⟩
   exact ⟨⟨h3,by omega⟩,h4⟩
  ·rintro ⟨⟨h3,h2⟩,h4⟩
   exact ⟨⟨⟨by omega,by omega⟩,h3⟩,h4⟩
 by_cases c:k + 1 < l.length
 ·rw[pairZ_eq h1 h5 (hr _ (in_mem hk)) (hr _ (in_mem c)),←hb]
  unfold canR
  rw[Int.toNat_natCast]
  obtain rfl | rfl | rfl | rfl | rfl:r = 1∨r = 2∨r = 3∨r = 4∨r = 5:=by omega
  all_goals rfl
 ·have hf:bothB l ((k:Nat):Int) m = false:=by
   rw[hb,show decide (((k:Nat):Int) + 1 < ((l.length:Nat):Int)) = false from decide_eq_false (by omega)]
   simp
  rw[←hb,hf,Bool.false_and]
  unfold canR
  rw[hf]
  obtain rfl | rfl | rfl | rfl | rfl:r = 1∨r = 2∨r = 3∨r = 4∨r = 5:=by omega
  all_goals rfl
theorem canR_out {r:Int} {l:List Ins} {a m:Int} (h7:r≠7) (h:a < 0∨((l.length:Nat):Int)≤a):canR r l a m = false:=by
 have hb:bothB l a m = false:=by
  unfold bothB hasB
  rw[Bool.eq_false_iff]
  simp only[ne_eq,Bool.and_eq_true,decide_eq_true_eq,not_and]
  intro h2
  omega
 have hh:hasB l.length a 1 = false:=by
  unfold hasB
  rw[Bool.eq_false_iff]
  simp only[ne_eq,Bool.and_eq_true,decide_eq_true_eq]
  omega
 unfold canR
 rw[hb,hh]
 simp only[Bool.false_and,if_neg h7]
 repeat' split
 all_goals rfl
theorem ins_dr {l:List Ins} {k:Nat} (h:k < l.length):part ((insLC l).drop (k * 7)) 0 (some 7) = some (.agg (insC (l.getD k fence0))):=ins_all h
theorem sp_can24 (A:R24F F) {lc:Int} {ths:List (List Ins)} (hf:FewP ths) (r t a m:Int):pureS F 548 [.agg (pgA lc ths),.agg (stpC r t a m)] = some (.b (canP lc ths r t a m)):=by
 refine pure_of A.pk.xref24_Can ?_
 have hc:=sp_rCheck A.ch (lc:=lc) hf
 unfold canP
 unfold pgA stpC at *
 cases c1:(chkP lc ths == 0) with
 | false =>
   have c1':(chkP lc ths != 0) = true:=by rw[bne,c1];rfl
   simp (disch:=omega) only[A_xref24_Can,wp,qa,qb,qc,gl,p2m,p4m,f2p,v2p,f4s,v4s,hc,c1']
 | true =>
 have c1':(chkP lc ths != 0) = false:=by rw[bne,c1];rfl
 have c0:chkP lc ths = 0:=by simpa using c1
 by_cases c4:t < 0
 ·simp (disch:=omega) only[A_xref24_Can,wp,qa,qb,qc,gl,p2m,p4m,f2p,v2p,f4s,v4s,hc,c1',c4,if_true,Bool.not_true,Bool.and_false]
 by_cases c5:((ths.length:Nat):Int)≤t
 ·simp (disch:=omega) only[A_xref24_Can,wp,qa,qb,qc,gl,p2m,p4m,f2p,v2p,f4s,v4s,hc,c1',c4,c5]
 obtain ⟨k,rfl⟩:∃ k:Nat,t = ((k:Nat):Int):=⟨t.toNat,by omega⟩
 have hk:k < ths.length:=by omega
 have hth:=thA_at hk
 have hwf:=wf_of c0 (th_mem hk)
 have hrg:=rg_of c0 (th_mem hk)
 rw[Int.toNat_natCast]
 generalize ths.getD k [] = l at hth hwf hrg ⊢
 have hlen:=hwf.len
 have nn:∀ x:Int,¬ x < 0↔0≤x:=fun x => by omega
 simp only[decide_eq_false c4,decide_eq_false c5,Bool.not_false,Bool.true_and,Bool.and_true]
 by_cases e7:r = 7
 ·subst e7
  have hR:(!decide ((7:Int) < 1) && !decide ((8:Int) < 7) && decide (0≤a) && decide (a≤((l.length:Nat):Int)) && canR 7 l a m) = (decide (0≤a) && decide (a≤((l.length:Nat):Int)) && decide (1≤m) && decide (m≤4)):=by
   have:canR 7 l a m = (hasB l.length a 0 && barB m):=rfl
   rw[this]
   unfold hasB barB
   rw[Bool.eq_iff_iff]
   simp only[Bool.and_eq_true,decide_eq_true_eq,Bool.not_eq_true',decide_eq_false_iff_not]
   omega
  rw[hR]
  by_cases d1:0≤a
  ·by_cases d2:a≤((l.length:Nat):Int)
   ·by_cases d3:1≤m
    ·simp (disch:=omega) only[A_xref24_Can,wp,qa,qb,qc,gl,p2m,p4m,f2p,v2p,f4s,v4s,hc,c1',c4,c5,hth,d1,d2,d3]
    ·simp (disch:=omega) only[A_xref24_Can,wp,qa,qb,qc,gl,p2m,p4m,f2p,v2p,f4s,v4s,hc,c1',c4,c5,hth,d1,d2,d3]
   ·simp (disch:=omega) only[A_xref24_Can,wp,qa,qb,qc,gl,p2m,p4m,f2p,v2p,f4s,v4s,hc,c1',c4,c5,hth,d1,d2]
  ·simp (disch:=omega) only[A_xref24_Can,wp,qa,qb,qc,gl,p2m,p4m,f2p,v2p,f4s,v4s,hc,c1',c4,c5,hth,d1]
 have b7:(r == 7) = false:=by simpa using e7
 by_cases d1:a < 0
 ·rw[canR_out e7 (.inl d1)]
  simp (disch:=omega) only[A_xref24_Can,wp,qa,qb,qc,gl,p2m,p4m,f2p,v2p,f4s,v4s,hc,c1',c4,c5,hth,b7,d1]
 by_cases d2:((l.length:Nat):Int)≤a
 ·rw[canR_out e7 (.inr d2)]
  simp (disch:=omega) only[A_xref24_Can,wp,qa,qb,qc,gl,p2m,p4m,f2p,v2p,f4s,v4s,hc,c1',c4,c5,hth,b7,d1,d2]
 obtain ⟨j,rfl⟩:∃ j:Nat,a = ((j:Nat):Int):=⟨a.toNat,by omega⟩
 have hj:j < l.length:=by omega
 have hia:=ins_dr hj
 have xi:=hwf.ex _ (in_mem hj)
 have hw1:IntKind.i64.wrap (((j:Nat):Int) + 1) = ((j:Nat):Int) + 1:=i64_wrap (by omega) (by omega)
 have g1:decide (0≤((j:Nat):Int)) = true:=decide_eq_true (by omega)
 have g2:decide (((j:Nat):Int)≤((l.length:Nat):Int)) = true:=decide_eq_true (by omega)
 rw[g1,g2]
 simp only[Bool.and_true]
 by_cases e6:r = 6
 ·subst e6
  have hR:(!decide ((6:Int) < 1) && !decide ((8:Int) < 6) && canR 6 l ((j:Nat):Int) m) = strW (l.getD j fence0) m:=by
   have:canR 6 l ((j:Nat):Int) m = (hasB l.length ((j:Nat):Int) 1 && strB (l.getD j fence0) m):=rfl
   rw[this,strW_eq,show hasB l.length ((j:Nat):Int) 1 = true from by unfold hasB;simp;omega]
   rfl
  have hs:=sp_strW A (l.getD j fence0) m
  rw[hR]
  generalize l.getD j fence0 = x at hia hs xi ⊢
  generalize strW x m = S at hs ⊢
  obtain ⟨kd,md,md2,rg,lcc,ex,s⟩:=x
  unfold insC exV at *
  dsimp only at *
  simp (disch:=omega) only[A_xref24_Can,wp,qa,qb,qc,gl,p2m,p4m,f2p,v2p,f4s,v4s,frz_ag7,v7a,hc,c1',c4,c5,hth,b7,d1,d2,hia,hs]
 have b6:(r == 6) = false:=by simpa using e6
 by_cases e8:r = 8
 ·subst e8
  have hR:(!decide ((8:Int) < 1) && !decide ((8:Int) < 8) && canR 8 l ((j:Nat):Int) m) = ((m == 0) && foldW (l.getD j fence0)):=by
   have:canR 8 l ((j:Nat):Int) m = (hasB l.length ((j:Nat):Int) 1 && (m == 0) && foldB (l.getD j fence0)):=rfl
   rw[this,foldW_eq,show hasB l.length ((j:Nat):Int) 1 = true from by unfold hasB;simp;omega]
   rfl
  have hs:=sp_foldW A (l.getD j fence0) (by omega)
  rw[hR]
  generalize l.getD j fence0 = x at hia hs xi ⊢
  generalize foldW x = S at hs ⊢
  obtain ⟨kd,md,md2,rg,lcc,ex,s⟩:=x
  unfold insC exV at *
  dsimp only at *
  cases m0:(m == 0) with
  | false => simp (disch:=omega) only[A_xref24_Can,wp,qa,qb,qc,gl,p2m,p4m,f2p,v2p,f4s,v4s,frz_ag7,v7a,hc,c1',c4,c5,hth,b7,b6,d1,d2,m0]
  | true => simp (disch:=omega) only[A_xref24_Can,wp,qa,qb,qc,gl,p2m,p4m,f2p,v2p,f4s,v4s,frz_ag7,v7a,hc,c1',c4,c5,hth,b7,b6,d1,d2,m0,hia,hs]
 have b8:(r == 8) = false:=by simpa using e8
 by_cases r1:r < 1
 ·simp (disch:=omega) only[A_xref24_Can,wp,qa,qb,qc,gl,p2m,p4m,f2p,v2p,f4s,v4s,hc,c1',c4,c5,hth,b7,b6,b8,d1,d2,r1]
 by_cases r5:5 < r
 ·have h8:8 < r:=by omega
  simp (disch:=omega) only[A_xref24_Can,wp,qa,qb,qc,gl,p2m,p4m,f2p,v2p,f4s,v4s,hc,c1',c4,c5,hth,b7,b6,b8,d1,d2,r1,r5,h8]
 have hR:(!decide (r < 1) && !decide (8 < r) && canR r l ((j:Nat):Int) m) = canR r l ((j:Nat):Int) m:=by
  rw[decide_eq_false r1,decide_eq_false (show ¬ 8 < r by omega)]
  rfl
 rw[hR,canR_pair (by omega) (by omega) l j m hrg hj]
 have ht:=sp_target A hwf (((j:Nat):Int) + 1)
 generalize (tgI l).contains (((j:Nat):Int) + 1) = C at ht ⊢
 cases m0:(m == 0) with
 | false => simp (disch:=omega) only[A_xref24_Can,wp,qa,qb,qc,gl,p2m,p4m,f2p,v2p,f4s,v4s,hc,c1',c4,c5,hth,b7,b6,b8,d1,d2,r1,r5,m0,hw1]
 | true =>
 by_cases c6:((j:Nat):Int) + 1 < ((l.length:Nat):Int)
 ·have hj2:j + 1 < l.length:=by omega
  cases C with
  | true => simp (disch:=omega) only[A_xref24_Can,wp,qa,qb,qc,gl,p2m,p4m,f2p,v2p,f4s,v4s,hc,c1',c4,c5,hth,b7,b6,b8,d1,d2,r1,r5,m0,hw1,c6,ht]
  | false =>
    have hib:=ins_dr hj2
    have xk:=hwf.ex _ (in_mem hj2)
    have hp:=sp_pairZ A (l.getD j fence0) (l.getD (j + 1) fence0) r (by omega) (by omega)
    have hz:(((j:Nat):Int) + 1).toNat = j + 1:=by omega
    generalize l.getD j fence0 = x at hia hp ⊢
    generalize l.getD (j + 1) fence0 = y at hib hp ⊢
    generalize pairZ r x y = P at hp ⊢
    obtain ⟨kd,md,md2,rg,lcc,ex,s⟩:=x
    obtain ⟨kd2,md3,md4,rg2,lc2,ex2,s2⟩:=y
    unfold insC exV at *
    dsimp only at *
    simp (disch:=omega) only[A_xref24_Can,wp,qa,qb,qc,gl,p2m,p4m,f2p,v2p,f4s,v4s,frz_ag7,v7a,hc,c1',c4,c5,hth,b7,b6,b8,d1,d2,r1,r5,m0,hw1,c6,ht,hz,hia,hib,hp]
 ·simp (disch:=omega) only[A_xref24_Can,wp,qa,qb,qc,gl,p2m,p4m,f2p,v2p,f4s,v4s,hc,c1',c4,c5,hth,b7,b6,b8,d1,d2,r1,r5,m0,hw1,c6]
end Go.Ab
end
section
set_option linter.unusedVariables false
set_option linter.unusedSimpArgs false
namespace Go.Ab
variable {F:Funs}
theorem insC_ln (x:Ins):(insC x).length = 7:=rfl
theorem frzL_insC (hp:Nat→Option Blk) (d:Nat) (x:Ins) (r:List AV):frzL hp (d + 1) (insC x ++ r) = (frzL hp (d + 1) r).map (insC x ++ ·):=by
 show frzL hp (d + 1) (.i .i64 x.kd :: .i .i64 x.md :: .i .i64 x.md2 :: .i .i64 x.rg :: .i .i64 x.lc :: exV x.ex :: .i .i64 x.n :: r) = _
 simp only[frzL,frz,exV]
 cases frzL hp (d + 1) r<;>rfl
theorem frzL_ins (hp:Nat→Option Blk) (d:Nat):∀ l:List Ins,frzL hp (d + 1) (insLC l) = some (insLC l)
 | [] => by simp[insLC,frzL]
 | x :: l => by
   show frzL hp (d + 1) (insC x ++ insLC l) = some (insC x ++ insLC l)
   rw[frzL_insC,frzL_ins hp d l]
   rfl
theorem frzB_ins (hp:Nat→Option Blk) (l:List Ins):frzB hp 0 (insLC l) ((insLC l).all flat) = some (insLC l):=by
 rw[frzB_eq,List.drop_zero]
 exact frzL_ins hp 7 l
theorem insLC_set:∀ (l:List Ins) {j f:Nat} {v:AV} {y:Ins},j < l.length→f < 7→insC y = (insC (l.getD j fence0)).set f v→(insLC l).set (j * 7 + f) v = insLC (l.set j y)
 | [],_,_,_,_,h,_,_ => by cases h
 | x :: l,0,f,v,y,_,hf,h => by
   show (insC x ++ insLC l).set (0 * 7 + f) v = insC y ++ insLC l
   have h:insC y = (insC x).set f v:=h
   rw[Nat.zero_mul,Nat.zero_add,List.set_append,if_pos (by rw[insC_ln];exact hf),h]
 | x :: l,j + 1,f,v,y,hj,hf,h => by
   show (insC x ++ insLC l).set ((j + 1) * 7 + f) v = insC x ++ insLC (l.set j y)
   have ih:=insLC_set l (j:=j) (f:=f) (v:=v) (y:=y) (by simpa using hj) hf h
   rw[List.set_append,if_neg (by rw[insC_ln];omega),insC_ln,show (j + 1) * 7 + f - 7 = j * 7 + f by omega,ih]
theorem insLC_set7:∀ (l:List Ins) {j:Nat} (y:Ins),j < l.length→splice (insLC l) (j * 7) (insC y) = insLC (l.set j y)
 | [],_,_,h => by cases h
 | x :: l,0,y,_ => by
   show (insC x ++ insLC l).take 0 ++ insC y ++ (insC x ++ insLC l).drop (0 + (insC y).length) = insC y ++ insLC l
   rw[List.take_zero,List.nil_append,insC_ln,Nat.zero_add,show (7:Nat) = (insC x).length from rfl,List.drop_left]
 | x :: l,j + 1,y,hj => by
   have ih:=insLC_set7 l (j:=j) y (by simpa using hj)
   have ih:(insLC l).take (j * 7) ++ insC y ++ (insLC l).drop (j * 7 + (insC y).length) = insLC (l.set j y):=ih
   show (insC x ++ insLC l).take ((j + 1) * 7) ++ insC y ++ (insC x ++ insLC l).drop ((j + 1) * 7 + (insC y).length) = insC x ++ insLC (l.set j y)
   rw[←ih,List.take_append,insC_ln,insC_ln,List.drop_append,insC_ln,show (j + 1) * 7 - 7 = j * 7 by omega,show (j + 1) * 7 + 7 - 7 = j * 7 + 7 by omega,List.take_of_length_le (by rw[insC_ln];omega),List.drop_of_length_le (by rw[insC_ln];omega)]
   simp only[List.append_assoc,List.nil_append]
theorem ins_p {l:List Ins} {j f:Nat} (hj:j < l.length) (hf:f < 7):part (insLC l) (j * 7 + f) none = part (insC (l.getD j fence0)) f none:=by
 have h:=insLC_drop hj
 have e:(insLC l)[j * 7 + f]? = ((insLC l).drop (j * 7))[f]?:=by rw[List.getElem?_drop]
 show (insLC l)[j * 7 + f]? = (insC (l.getD j fence0))[f]?
 rw[e,h,List.getElem?_append_left (by rw[insC_ln];exact hf)]
theorem ins_p0 {l:List Ins} {j:Nat} (hj:j < l.length):part (insLC l) (j * 7) none = some (.i .i64 (l.getD j fence0).kd):=ins_p (f:=0) hj (by omega)
theorem ins_p7 {l:List Ins} {j:Nat} (hj:j < l.length):part (insLC l) (j * 7) (some 7) = some (.agg (insC (l.getD j fence0))):=by
 have h:=insLC_drop hj
 have hl:=insLC_len l
 show (if j * 7 + 7≤(insLC l).length then some (AV.agg (((insLC l).drop (j * 7)).take 7)) else none) = _
 rw[if_pos (by omega),h,show (7:Nat) = (insC (l.getD j fence0)).length from rfl,List.take_left]
def fixT (l:List Ins) (n:Nat) (d:Int) (c:Nat):List Ins:=fixL l n d c ++ l.drop c
theorem fixT_0 (l:List Ins) (n:Nat) (d:Int):fixT l n d 0 = l:=rfl
theorem fixT_len {l:List Ins} {n:Nat} {d:Int} {c:Nat} (h:c≤l.length):(fixT l n d c).length = l.length:=by
 unfold fixT
 rw[List.length_append,fixL_len,List.length_drop];omega
theorem fixT_get {l:List Ins} {n:Nat} {d:Int} {c:Nat}:(fixT l n d c).getD c fence0 = l.getD c fence0:=by
 unfold fixT
 rw[List.getD_eq_getElem?_getD,List.getD_eq_getElem?_getD,List.getElem?_append_right (by rw[fixL_len];exact Nat.le_refl _),fixL_len,Nat.sub_self,List.getElem?_drop,Nat.add_zero]
theorem fixT_succ {l:List Ins} {n:Nat} {d:Int} {c:Nat} (h:c < l.length):fixT l n d (c + 1) = (fixT l n d c).set c (fixI n d c (l.getD c fence0)):=by
 unfold fixT
 rw[fixL_succ,List.set_append,if_neg (by rw[fixL_len];omega),fixL_len,Nat.sub_self,List.drop_eq_getElem_cons h,List.set_cons_zero,List.append_assoc]
 rfl
theorem fixT_same {l:List Ins} {n:Nat} {d:Int} {c:Nat} (h:c < l.length) (h2:fixI n d c (l.getD c fence0) = l.getD c fence0):fixT l n d (c + 1) = fixT l n d c:=by
 have hg:=fixT_get (l:=l) (n:=n) (d:=d) (c:=c)
 have hl:=fixT_len (n:=n) (d:=d) (Nat.le_of_lt h)
 rw[fixT_succ h,h2,←hg,ins_get (show c < (fixT l n d c).length by omega),List.set_getElem_self]
structure RcZ (l:List Ins) (k:Nat) (d:Int) (id:Nat) (j:Nat) (e:Env) (g:G):Prop where
 hj:j≤k
 e1:e 1 = .i .i64 ((k:Nat):Int)
 e2:e 2 = .i .i64 d
 e7:e 7 = .ms id 0 l.length
 e8:e 8 = .i .i64 ((j:Nat):Int)
 hb:g.hp id = some (.cells (insLC (fixT l k d j)) false)
 hn:id < g.nx
structure RcY (l:List Ins) (k:Nat) (d:Int) (id:Nat) (e:Env) (g:G):Prop where
 e7:e 7 = .ms id 0 l.length
 hb:g.hp id = some (.cells (insLC (fixT l k d k)) false)
theorem sp_reach (A:R24F F) {l:List Ins} (hl:WfT l) {k:Nat} (hk:k≤l.length) {d:Int} (hd:-1≤d∧d≤1):pureS F 559 [.sl (insLC l) l.length .non,.i .i64 ((k:Nat):Int),.i .i64 d] = some (.sl (insLC (fixT l k d k)) l.length .non):=by
 refine pure_of A.pk.xref24_reach ?_
 have hlen:=hl.len
 have hfl:=fun hp => frzB_ins hp (fixT l k d k)
 have hln:=insLC_len l
 have hon:=insLC_one l
 by_cases h0:l.length = 0
 ·obtain rfl:l = []:=List.length_eq_zero_iff.1 h0
  obtain rfl:k = 0:=by simpa using hk
  have c1:¬ (((0:Nat):Int) < ((0:Nat):Int)):=by omega
  have n0:insLC [] = []:=rfl
  have n1:fixT [] 0 d 0 = []:=rfl
  rw[n1,n0,List.length_nil]
  have z:IntKind.i64 = IntKind.i64:=rfl
  simp (disch:=omega) only[A_xref24_reach,wp,qa,qb,qc,gl,o_appM,vAppM_rig,apmR_0]
  refine blk_cut (fun e g => e 7 = .sl [] 0 .rig) ?_ ?_
  ·refine W_loop (fun q e g => e 7 = .sl [] 0 .rig∧e 8 = .i .i64 ((0:Nat):Int)∧e 1 = .i .i64 ((0:Nat):Int)) 0 ?_ ?_
   ·exact ⟨rfl,rfl,rfl⟩
   ·rintro q e g ⟨e7,e8,e1⟩
    simp (disch:=omega) only[wp,qa,qb,qc,e1,e7,e8,c1]
  ·rintro e g e7
   simp (disch:=omega) only[wp,qa,qb,qc,e7]
 simp (disch:=omega) only[A_xref24_reach,wp,qa,qb,qc,gl,o_appM,vAppM_rig,apmR_ok,hln,hon]
 refine blk_cut (fun e g => ∃ id,RcY l k d id e g) ?_ ?_
 ·refine W_loop (fun q e g => ∃ id j,q = k - j∧RcZ l k d id j e g) k ?_ ?_
  ·refine ⟨_,0,rfl,Nat.zero_le _,rfl,rfl,rfl,rfl,?_,?_⟩
   ·rw[fixT_0];(simp (disch:=omega) only[upd_same,upd_ne])
   ·first | omega | (dsimp only;omega)
  ·rintro q e g ⟨id,j,rfl,hj,e1,e2,e7,e8,hb,hn⟩
   by_cases c1:j < k
   ·have c1':((j:Nat):Int) < ((k:Nat):Int):=by omega
    have hjl:j < l.length:=by omega
    have hfl2:=fixT_len (n:=k) (d:=d) (Nat.le_of_lt hjl)
    have hg:=fixT_get (l:=l) (n:=k) (d:=d) (c:=j)
    have hp0:=ins_p0 (l:=fixT l k d j) (j:=j) (by omega)
    have hp6:=ins_p (l:=fixT l k d j) (j:=j) (f:=6) (by omega) (by omega)
    have hset:=insLC_set (fixT l k d j) (j:=j) (f:=6) (v:=.i .i64 ((l.getD j fence0).n + d)) (y:={ l.getD j fence0 with n:=(l.getD j fence0).n + d }) (by omega) (by omega) (by rw[hg];rfl)
    have hsu:=fixT_succ (n:=k) (d:=d) hjl
    have hsa:=fixT_same (n:=k) (d:=d) hjl
    have hx:=hl.n _ (in_mem hjl)
    have hlc:=insLC_len (fixT l k d j)
    have hwj:=succ_wrap (k:=j) (by omega)
    rw[hg] at hp0 hp6
    have hp6:part (insLC (fixT l k d j)) (j * 7 + 6) none = some (.i .i64 (l.getD j fence0).n):=hp6
    generalize hX:fixT l k d j = X at hp0 hp6 hset hsu hsa hb hlc hfl2
    generalize l.getD j fence0 = x at hp0 hp6 hset hsu hsa hx
    obtain ⟨kd,md,md2,rg,lc',ex,n⟩:=x
    dsimp only at hp0 hp6 hset hx hsu hsa
    by_cases c2:kd = 6
    ·have c2':(kd == 6) = true:=by simpa using c2
     have hx:=hx c2
     have hwn:IntKind.i64.wrap (n + d) = n + d:=i64_wrap (by omega) (by omega)
     have hw2:IntKind.i64.wrap (((j + 1:Nat):Int) + n) = ((j:Nat):Int) + 1 + n:=by rw[i64_wrap (by omega) (by omega)];omega
     by_cases c3:((k:Nat):Int) < ((j:Nat):Int) + 1 + n
     ·have hfx:fixI k d j ⟨kd,md,md2,rg,lc',ex,n⟩ = ⟨kd,md,md2,rg,lc',ex,n + d⟩:=by
       unfold fixI;rw[if_pos ⟨c2,c3⟩]
      rw[hfx,←hX] at hsu
      simp (disch:=omega) only[wp,qa,qb,qc,gl,e1,e2,e7,e8,c1',hb,hp0,hp6,c2',hwj,hw2,c3,hwn,hlc,hfl2]
      refine ⟨k - (j + 1),by omega,id,j + 1,rfl,by omega,e1,e2,e7,rfl,?_,by first | omega | (dsimp only;omega)⟩
      (simp (disch:=omega) only[upd_same,upd_ne])
      rw[hset,hsu,hX]
     ·have hfx:fixI k d j ⟨kd,md,md2,rg,lc',ex,n⟩ = ⟨kd,md,md2,rg,lc',ex,n⟩:=by
       unfold fixI;rw[if_neg (fun h => c3 (by have:=h.2;dsimp only at this;omega))]
      have hsa:=hsa hfx
      simp (disch:=omega) only[wp,qa,qb,qc,gl,e1,e2,e7,e8,c1',hb,hp0,hp6,c2',hwj,hw2,c3]
      exact ⟨k - (j + 1),by omega,id,j + 1,rfl,by omega,e1,e2,e7,rfl,by rw[hsa,←hb],by first | omega | (dsimp only;omega)⟩
    ·have c2':(kd == 6) = false:=by simpa using c2
     have hfx:fixI k d j ⟨kd,md,md2,rg,lc',ex,n⟩ = ⟨kd,md,md2,rg,lc',ex,n⟩:=by
      unfold fixI;rw[if_neg (fun h => c2 h.1)]
     have hsa:=hsa hfx
     simp (disch:=omega) only[wp,qa,qb,qc,gl,e1,e2,e7,e8,c1',hb,hp0,c2',hwj]
     exact ⟨k - (j + 1),by omega,id,j + 1,rfl,by omega,e1,e2,e7,rfl,by rw[hsa,←hb],by first | omega | (dsimp only;omega)⟩
   ·have c1':¬ ((j:Nat):Int) < ((k:Nat):Int):=by omega
    simp (disch:=omega) only[wp,qa,qb,qc,e1,e7,e8,c1']
    obtain rfl:j = k:=by omega
    exact ⟨id,e7,hb⟩
 ·rintro e g ⟨id,e7,hb⟩
  simp (disch:=omega) only[wp,qa,qb,qc,e7,hb,hfl]
def cutI (l:List Ins) (k:Nat):List Ins:=fixL l k (-1) k ++ l.drop (k + 1)
theorem sp_cutI (A:R24F F) {l:List Ins} (hl:WfT l) {k:Nat} (hk:k < l.length):pureS F 558 [.sl (insLC l) l.length .non,.i .i64 ((k:Nat):Int)] = some (slN (cutI l k)):=by
 refine pure_of A.pk.xref24_cut ?_
 have hlen:=hl.len
 have hr:=sp_reach A hl (Nat.le_of_lt hk) (d:=-1) (by omega)
 have hfl:=fixT_len (n:=k) (d:=-1) (Nat.le_of_lt hk)
 have h1:=insLC_tk (fixT l k (-1) k) k
 have h2:=insLC_dt (fixT l k (-1) k) (k + 1)
 have h3:(fixT l k (-1) k).take k = fixL l k (-1) k:=by unfold fixT;rw[List.take_left' (fixL_len ..)]
 have h4:(fixT l k (-1) k).drop (k + 1) = l.drop (k + 1):=by
  unfold fixT
  rw[List.drop_append,fixL_len,List.drop_of_length_le (by rw[fixL_len];omega),List.nil_append,List.drop_drop]
  congr 1
  omega
 rw[h3] at h1
 rw[h4,hfl] at h2
 have hw:IntKind.i64.wrap (((k:Nat):Int) + 1) = ((k + 1:Nat):Int):=by rw[i64_wrap (by omega) (by omega)];omega
 have e5:=fixL_len l k (-1) k
 have hcl:(insLC (fixL l k (-1) k)).length = k * 7:=by rw[insLC_len,e5]
 have hdl:(insLC (l.drop (k + 1))).length = (l.length - (k + 1)) * 7:=by rw[insLC_len,List.length_drop]
 have hap:=insLC_ap (fixL l k (-1) k) (l.drop (k + 1))
 have hcn:(cutI l k).length = k + (l.length - (k + 1)):=by unfold cutI;rw[List.length_append,e5,List.length_drop]
 have hend:∀ t,AV.sl (insLC (fixL l k (-1) k) ++ insLC (l.drop (k + 1))) (k + (l.length - (k + 1))) t = .sl (insLC (cutI l k)) (cutI l k).length t:=fun t => by rw[hcn,hap];rfl
 unfold slN
 generalize insLC (fixT l k (-1) k) = X at hr h1 h2
 simp (disch:=omega) only[A_xref24_cut,wp,qa,qb,qc,gl,hr,oSlice,evoN,evoS,slTo,h1]
 refine bindO_app (.inl rfl) (fun z hz => by cases hz) ⟨by omega,by omega,rfl,hcl⟩ ?_
 intro u1 hp1 a1
 simp (disch:=omega) only[wp,qa,qb,qc,gl,oSlice,evoN,evoS,slFrom,h2,hw]
 refine bindO_app (a1.ok (by first | omega | (dsimp only;omega))) (fun z hz => ?_) ⟨by omega,by omega,hcl,hdl⟩ ?_
 ·rcases a1.tok with hr | ⟨hr,_⟩
  ·rw[hr] at hz;cases hz
  ·rw[hr] at hz;cases hz
   first | rfl | (refine allow_pre ?_;simp)
 intro u2 hp2 a2
 simp (disch:=omega) only[wp,qa,qb,qc,gl,hend]
end Go.Ab
end
section
set_option linter.unusedVariables false
set_option linter.unusedSimpArgs false
namespace Go.Ab
variable {F:Funs}
def lk1 (hp:Nat→Option Blk) (b i:Nat):Option Blk:=if i = b then (match hp b with | some (.cells cs _) => some (.cells cs true) | o => o) else hp i
theorem lock_one (hp:Nat→Option Blk) (b off:Nat):lock hp (ids1 (.mp b off)) = lk1 hp b:=by
 funext i
 unfold lock lk1 ids1
 by_cases h:i = b
 ·subst h
  rw[if_pos (by simp),if_pos rfl]
  rfl
 ·rw[if_neg (by simpa using h),if_neg h]
def lkd:Option Blk→Option Blk
 | some (.cells cs _) => some (.cells cs true)
 | o => o
theorem lk1_same (hp:Nat→Option Blk) (b:Nat):lk1 hp b b = lkd (hp b):=by unfold lk1 lkd;rw[if_pos rfl]
theorem lk1_ne {hp:Nat→Option Blk} {b i:Nat} (h:i≠b):lk1 hp b i = hp i:=if_neg h
theorem lkd_c (cs ro):lkd (some (.cells cs ro)) = some (.cells cs true):=rfl
theorem o_ldF {c:CS} {al:Nat→Bool} {lo id:Nat} {e:Env} {g:G} (agg x):opE c al lo id (.ldF agg x) e g = vLdF al agg (x.ev e) g:=rfl
theorem o_stW {c:CS} {al:Nat→Bool} {lo id:Nat} {e:Env} {g:G} (n a x):opE c al lo id (.stW n a x) e g = vSt al n (a.ev e) (x.ev e) g:=rfl
def ldFS (agg:Option Nat) (off:Nat) (g:G):Option Blk→Option (AV × G)
 | some (.cells cs true) => vMap g (part cs off agg)
 | _ => none
theorem vLdF_S (al:Nat→Bool) (agg b off) (g:G):vLdF al agg (.mp b off) g = ldFS agg off g (selB (al b) (g.hp b)):=by
 simp only[vLdF,rd,selB]
 cases al b with
 | false => rfl
 | true =>
   simp only[if_true]
   cases g.hp b with
   | none => rfl
   | some x =>
     cases x with
     | cells cs ro => cases ro<;>rfl
     | map es => rfl
     | tok l => rfl
theorem ldFS_ok (agg off g cs):ldFS agg off g (some (.cells cs true)) = vMap g (part cs off agg):=rfl
theorem lck_any {g:G} {v:AV} {i:Nat} {cs:List AV} {ro:Bool} (h:g.hp i = some (.cells cs ro)):∃ r,(lckG g v).hp i = some (.cells cs r):=by
 show ∃ r,lock _ _ _ = _
 unfold lock
 rw[h]
 split
 ·exact ⟨_,rfl⟩
 ·exact ⟨_,rfl⟩
def insK (x:Ins) (t:Tok):List AV:=[.i .i64 x.kd,.i .i64 x.md,.i .i64 x.md2,.i .i64 x.rg,.i .i64 x.lc,.sl (tkC x.ex) x.ex.length t,.i .i64 x.n]
theorem frzL_ap2 (hp:Nat→Option Blk) (d:Nat) {a b c e:List AV} (h1:frzL hp d a = some c) (h2:frzL hp d b = some e):frzL hp d (a ++ b) = some (c ++ e):=by
 induction a generalizing c with
 | nil =>
   have:c = []:=by
    simp only[frzL] at h1
    exact (Option.some.inj h1).symm
   subst this
   exact h2
 | cons x a ih =>
   simp only[frzL] at h1
   simp only[List.cons_append,frzL]
   split at h1
   ·rename_i y z hy hz
    cases h1
    rw[hy,ih hz]
    rfl
   ·cases h1
theorem frzL_insK (hp:Nat→Option Blk) (d:Nat) (x:Ins) (t:Tok):frzL hp (d + 1) (insK x t) = some (insC x):=by
 simp only[insK,insC,exV,frzL,frz]
theorem insK_len (x:Ins) (t:Tok):(insK x t).length = 7:=rfl
theorem splK (l:List Ins) {j:Nat} (hj:j < l.length) (y:Ins) (t:Tok):splice (insLC l) (j * 7) (insK y t) = insLC (l.take j) ++ insK y t ++ insLC (l.drop (j + 1)):=by
 show (insLC l).take (j * 7) ++ insK y t ++ (insLC l).drop (j * 7 + 7) = _
 rw[insLC_tk,show j * 7 + 7 = (j + 1) * 7 by omega,insLC_dp]
theorem frzB_K (hp:Nat→Option Blk) (l:List Ins) {j:Nat} (hj:j < l.length) (y:Ins) (t:Tok):frzB hp 0 (splice (insLC l) (j * 7) (insK y t)) ((splice (insLC l) (j * 7) (insK y t)).all flat) = some (insLC (l.set j y)):=by
 rw[frzB_eq,List.drop_zero,splK l hj]
 rw[frzL_ap2 hp 8 (frzL_ap2 hp 8 (frzL_ins hp 7 _) (frzL_insK hp 7 y t)) (frzL_ins hp 7 _),List.set_eq_take_append_cons_drop,if_pos hj]
 simp[insLC]
theorem setK:∀ (l:List Ins) {j:Nat} (hj:j < l.length) (y:Ins) (t:Tok),insK y t = (insC (l.getD j fence0)).set 5 (.sl (tkC y.ex) y.ex.length t)→(insLC l).set (j * 7 + 5) (.sl (tkC y.ex) y.ex.length t) = splice (insLC l) (j * 7) (insK y t)
 | [],_,h,_,_,_ => by cases h
 | x :: l,0,_,y,t,h => by
   have h:insK y t = (insC x).set 5 (.sl (tkC y.ex) y.ex.length t):=h
   show (insC x ++ insLC l).set (0 * 7 + 5) _ = (insC x ++ insLC l).take 0 ++ insK y t ++ (insC x ++ insLC l).drop (0 + (insK y t).length)
   rw[Nat.zero_mul,Nat.zero_add,List.set_append,if_pos (by rw[insC_ln];omega),←h,List.take_zero,List.nil_append,insK_len,Nat.zero_add,show (7:Nat) = (insC x).length from rfl,List.drop_left]
 | x :: l,j + 1,hj,y,t,h => by
   have ih:=setK l (j:=j) (by simpa using hj) y t h
   have ih:_ = (insLC l).take (j * 7) ++ insK y t ++ (insLC l).drop (j * 7 + 7):=ih
   show (insC x ++ insLC l).set ((j + 1) * 7 + 5) _ = (insC x ++ insLC l).take ((j + 1) * 7) ++ insK y t ++ (insC x ++ insLC l).drop ((j + 1) * 7 + 7)
   rw[List.set_append,if_neg (by rw[insC_ln];omega),insC_ln,show (j + 1) * 7 + 5 - 7 = j * 7 + 5 by omega,ih,List.take_append,insC_ln,List.drop_append,insC_ln,show (j + 1) * 7 - 7 = j * 7 by omega,show (j + 1) * 7 + 7 - 7 = j * 7 + 7 by omega,List.take_of_length_le (l:=insC x) (by rw[insC_ln];omega),List.drop_of_length_le (l:=insC x) (by rw[insC_ln];omega)]
   simp only[List.append_assoc,List.nil_append]
theorem insC_one (x:Ins):(insC x).all one = true:=rfl
theorem vis_insL (hp:Nat→Option Blk) (d:Nat) (l:List Ins):(insLC l).flatMap (vis hp (d + 1)) = []:=by
 induction l with
 | nil => rfl
 | cons x l ih =>
   show (insC x ++ insLC l).flatMap (vis hp (d + 1)) = []
   rw[List.flatMap_append,ih]
   simp[insC,exV,vis]
theorem vis_insM {hp:Nat→Option Blk} {id n:Nat} {l:List Ins} (h:hp id = some (.cells (insLC l) true)):vis hp depth (.ms id 0 n) = []:=by
 show vis hp (8 + 1) _ = _
 simp only[vis,h,if_true,List.nil_append,List.drop_zero]
 exact vis_insL hp 7 l
theorem fixI_0 (n j:Nat) (x:Ins):fixI n 0 j x = x:=by
 unfold fixI
 split
 ·rw[Int.add_zero]
 ·rfl
theorem fixL_at {l:List Ins} {n:Nat} {d:Int} {c i:Nat} (h:i < (fixL l n d c).length):(fixL l n d c)[i] = fixI n d i (l.getD i fence0):=by
 simp only[fixL,List.getElem_map,List.getElem_range]
theorem fixL_0 {l:List Ins} {n c:Nat} (h:c≤l.length):fixL l n 0 c = l.take c:=by
 refine List.ext_getElem (by rw[fixL_len,List.length_take];omega) fun i h1 h2 => ?_
 rw[fixL_len] at h1
 simp only[fixL,List.getElem_map,fixI_0,List.getElem_range,List.getElem_take]
 rw[ins_get (show i < l.length by omega)]
theorem delR_eq (r:Int) (l:List Ins) (k:Nat) (m:Int) (h1:1≤r) (h8:r≤8):delR r l k m = if r = 2∨r = 5 then -1 else if r = 7 then 1 else 0:=by
 obtain rfl | rfl | rfl | rfl | rfl | rfl | rfl | rfl:r = 1∨r = 2∨r = 3∨r = 4∨r = 5∨r = 6∨r = 7∨r = 8:=by omega
 all_goals rfl
theorem two_set {l:List Ins} {k:Nat} (hk:k + 1 < l.length) (a b:Ins):l.take k ++ [a,b] ++ l.drop (k + 2) = (l.set k a).set (k + 1) b:=by
 refine List.ext_getElem? fun i => ?_
 rw[List.getElem?_set,List.getElem?_set,List.length_set]
 rw[List.append_assoc]
 by_cases h1:i < k
 ·rw[List.getElem?_append_left (by rw[List.length_take];omega),List.getElem?_take_of_lt h1,if_neg (by omega),if_neg (by omega)]
 ·rw[List.getElem?_append_right (by rw[List.length_take];omega),List.length_take,show min k l.length = k by omega]
  by_cases h2:i = k
  ·subst h2
   rw[Nat.sub_self,if_neg (by omega),if_pos rfl,if_pos (by omega)]
   rfl
  ·by_cases h3:i = k + 1
   ·subst h3
    rw[show k + 1 - k = 1 by omega,if_pos rfl,if_pos (by omega)]
    rfl
   ·rw[if_neg (by omega),if_neg (by omega),List.getElem?_append_right (by simp;omega),List.getElem?_drop]
    congr 1
    simp
    omega
theorem one_set {l:List Ins} {k:Nat} (hk:k < l.length) (a:Ins):l.take k ++ [a] ++ l.drop (k + 1) = l.set k a:=by
 rw[List.set_eq_take_append_cons_drop,if_pos hk,List.append_assoc]
 rfl
theorem set_self {l:List Ins} {k:Nat} (hk:k < l.length):l.set k (l.getD k fence0) = l:=by
 rw[ins_get hk,List.set_getElem_self]
theorem turn_1 {l:List Ins} {k:Nat} (hk:k + 1 < l.length) (m:Int):turnI 1 l k m = (l.set k (l.getD (k + 1) fence0)).set (k + 1) (l.getD k fence0):=by
 unfold turnI
 rw[delR_eq 1 l k m (by omega) (by omega),if_neg (by omega),if_neg (by omega),fixL_0 (by omega),←two_set hk]
 rfl
theorem turn_3 {l:List Ins} {k:Nat} (hk:k + 1 < l.length) (m:Int):turnI 3 l k m = l.set (k + 1) (setI (l.getD (k + 1) fence0).rg (l.getD k fence0).ex):=by
 unfold turnI
 rw[delR_eq 3 l k m (by omega) (by omega),if_neg (by omega),if_neg (by omega),fixL_0 (by omega)]
 show l.take k ++ [_,_] ++ l.drop (k + 2) = _
 rw[two_set hk,set_self (by omega)]
theorem turn_4 {l:List Ins} {k:Nat} (hk:k + 1 < l.length) (m:Int):turnI 4 l k m = l.set (k + 1) (setI (l.getD (k + 1) fence0).rg [(2,(l.getD k fence0).rg)]):=by
 unfold turnI
 rw[delR_eq 4 l k m (by omega) (by omega),if_neg (by omega),if_neg (by omega),fixL_0 (by omega)]
 show l.take k ++ [_,_] ++ l.drop (k + 2) = _
 rw[two_set hk,set_self (by omega)]
theorem turn_6 {l:List Ins} {k:Nat} (hk:k < l.length) (m:Int):turnI 6 l k m = l.set k (strI (l.getD k fence0) m):=by
 unfold turnI
 rw[delR_eq 6 l k m (by omega) (by omega),if_neg (by omega),if_neg (by omega),fixL_0 (by omega)]
 exact one_set hk _
theorem turn_8 {l:List Ins} {k:Nat} (hk:k < l.length) (m:Int):turnI 8 l k m = l.set k { l.getD k fence0 with ex:=[(1,evX (l.getD k fence0).ex [])] }:=by
 unfold turnI
 rw[delR_eq 8 l k m (by omega) (by omega),if_neg (by omega),if_neg (by omega),fixL_0 (by omega)]
 exact one_set hk _
theorem turn_2 {l:List Ins} {k:Nat} (hk:k + 1 < l.length) (m:Int):turnI 2 l k m = cutI l k:=by
 unfold turnI cutI
 rw[delR_eq 2 l k m (by omega) (by omega),if_pos (by omega),List.drop_eq_getElem_cons hk]
 show fixL l k (-1) k ++ [l.getD (k + 1) fence0] ++ l.drop (k + 2) = _
 rw[ins_get hk,List.append_assoc]
 rfl
theorem turn_7 {l:List Ins} {k:Nat} (m:Int):turnI 7 l k m = fixL l k 1 k ++ [fenI m] ++ l.drop k:=rfl
theorem turn_5 {l:List Ins} {k:Nat} (hk:k + 1 < l.length) (m:Int) {lc:Int} (hok:∀ j < l.length,okI (l.getD j fence0) lc ((l.length:Int) - 1 - j) = true) (hp:pair5 (l.getD k fence0) (l.getD (k + 1) fence0) = true)
  (ht:(tgI l).contains (((k:Nat):Int) + 1) = false):turnI 5 l k m = cutI (l.set k { l.getD k fence0 with md:=joinZ (l.getD k fence0).md (l.getD (k + 1) fence0).md }) (k + 1):=by
 unfold pair5 at hp
 simp only[Bool.and_eq_true,beq_iff_eq] at hp
 have hf:=hok k (by omega)
 have hfen:({ l.getD k fence0 with md:=joinZ (l.getD k fence0).md (l.getD (k + 1) fence0).md }:Ins) = fenI (joinZ (l.getD k fence0).md (l.getD (k + 1) fence0).md):=by
  obtain ⟨h3,_⟩:=hp
  generalize joinZ _ _ = J
  generalize l.getD k fence0 = x at hf h3 ⊢
  obtain ⟨kd,md,md2,rg,lcc,ex,n⟩:=x
  dsimp only at h3
  subst h3
  unfold fenI
  simp[okI,partZ,modeB] at hf
  simp
  grind
 have hno:∀ j,j < k→(l.getD j fence0).kd = 6→((j:Nat):Int) + 1 + (l.getD j fence0).n≠((k:Nat):Int) + 1:=fun j hj h6 he => by
  have:(((k:Nat):Int) + 1)∈tgI l:=by
   rw[tgI_mem]
   unfold tgv
   rw[List.mem_filterMap]
   exact ⟨j,List.mem_range.2 (by omega),by rw[if_pos h6,he]⟩
  rw[←List.contains_iff_mem] at this
  rw[ht] at this
  cases this
 rw[hfen]
 unfold turnI cutI
 rw[delR_eq 5 l k m (by omega) (by omega),if_pos (by omega)]
 show fixL l k (-1) k ++ [fenI _] ++ l.drop (k + 2) = _
 generalize hJ:fenI (joinZ (l.getD k fence0).md (l.getD (k + 1) fence0).md) = J
 have hJ3:J.kd = 3:=by rw[←hJ];rfl
 rw[show k + 1 + 1 = k + 2 from rfl,List.drop_set_of_lt (by omega)]
 congr 1
 refine List.ext_getElem (by simp[fixL_len]) fun i h1 h2 => ?_
 rw[fixL_len] at h2
 by_cases hi:i < k
 ·rw[List.getElem_append_left (by rw[fixL_len];exact hi)]
  rw[fixL_at,fixL_at]
  have hg:(l.set k J).getD i fence0 = l.getD i fence0:=by
   rw[List.getD_eq_getElem?_getD,List.getD_eq_getElem?_getD,List.getElem?_set_ne (by omega)]
  rw[hg]
  have:=hno i hi
  unfold fixI
  by_cases h6:(l.getD i fence0).kd = 6
  ·have:=this h6
   by_cases hc:((k:Nat):Int) < ((i:Nat):Int) + 1 + (l.getD i fence0).n
   ·rw[if_pos ⟨h6,hc⟩,if_pos ⟨h6,by omega⟩]
   ·rw[if_neg (fun h => hc h.2),if_neg (fun h => hc (by have:=h.2;omega))]
  ·rw[if_neg (fun h => h6 h.1),if_neg (fun h => h6 h.1)]
 ·obtain rfl:i = k:=by omega
  rw[List.getElem_append_right (by rw[fixL_len];exact Nat.le_refl _)]
  rw[fixL_at]
  have hg:(l.set i J).getD i fence0 = J:=by
   rw[List.getD_eq_getElem?_getD,List.getElem?_set_self (by omega)];rfl
  rw[hg]
  unfold fixI
  rw[if_neg (fun h => by rw[hJ3] at h;cases h.1)]
  simp[fixL_len]
end Go.Ab
end
section
set_option linter.unusedVariables false
set_option linter.unusedSimpArgs false
namespace Go.Ab
variable {F:Funs}
structure TuS (l:List Ins) (r t a m:Int) (i3 id:Nat) (e:Env) (g:G):Prop where
 e3:e 3 = .mp i3 0
 e5:e 5 = .ms id 0 l.length
 h3:g.hp i3 = some (.cells (stpC r t a m) false)
 h5:g.hp id = some (.cells (insLC l) false)
 ne:i3 < id
 nx:id < g.nx
def tuT:ACode:=sR (sR A_xref24_turned.body)
theorem stp_0 (r t a m:Int):part (stpC r t a m) 0 none = some (.i .i64 r):=rfl
theorem stp_2 (r t a m:Int):part (stpC r t a m) 2 none = some (.i .i64 a):=rfl
theorem stp_3 (r t a m:Int):part (stpC r t a m) 3 none = some (.i .i64 m):=rfl
theorem lckM {hp:Nat→Option Blk} {l:List Ins} {id i3 n:Nat} {C:List AV} {ro:Bool} (h5:hp id = some (.cells (insLC l) false)) (h3:hp i3 = some (.cells C ro)):
  ∃ hp2,(∀ nx,lckG ⟨hp,nx⟩ (.ms id 0 n) = ⟨hp2,nx⟩)∧hp2 id = some (.cells (insLC l) true)∧∃ r,hp2 i3 = some (.cells C r):=
 ⟨lock hp (vis hp depth (.ms id 0 n)),fun _ => rfl,lck_hit (g:=⟨hp,0⟩) h5 (fun _ => by
  show id∈vis hp (8 + 1) _
  simp only[vis,h5];simp),lck_any (g:=⟨hp,0⟩) h3⟩
theorem lckN (hp:Nat→Option Blk) (nx:Nat) (a n t):lckG ⟨hp,nx⟩ (.sl a n t) = ⟨hp,nx⟩:=by
 have:vis hp depth (.sl a n t) = []:=by
  show vis hp (8 + 1) _ = _
  simp only[vis]
 unfold lckG
 rw[this]
 congr 1
theorem a0 (n:Nat):0 + n = n:=Nat.zero_add n
theorem tu_1 (A:R24F F) {l:List Ins} (hl:WfT l) {t m:Int} {k i3 id:Nat} (hk:k + 1 < l.length) {e:Env} {g:G} (h:TuS l 1 t ((k:Nat):Int) m i3 id e g):W F tuT e g (retQ [.t 4] (slN (turnI 1 l k m))):=by
 obtain ⟨e3,e5,h3,h5,ne,nx⟩:=h
 have hlen:=hl.len
 have hln:=insLC_len l
 have q1:((1:Int) == 1) = true:=rfl
 have hw:IntKind.i64.wrap (((k:Nat):Int) + 1) = ((k + 1:Nat):Int):=by rw[i64_wrap (by omega) (by omega)];omega
 have p0:=ins_p7 (l:=l) (j:=k) (by omega)
 have p1:=ins_p7 hk
 have s1:=insLC_set7 l (j:=k) (l.getD (k + 1) fence0) (by omega)
 have s2:=insLC_set7 (l.set k (l.getD (k + 1) fence0)) (j:=k + 1) (l.getD k fence0) (by rw[List.length_set];omega)
 have hT:=turn_1 hk m
 have hn:(turnI 1 l k m).length = l.length:=by rw[hT,List.length_set,List.length_set]
 have hln2:=insLC_len (l.set k (l.getD (k + 1) fence0))
 rw[List.length_set] at hln2
 unfold slN
 rw[hn,hT]
 generalize l.getD k fence0 = x at *
 generalize l.getD (k + 1) fence0 = y at *
 simp (disch:=omega) only[tuT,A_xref24_turned,sR,wp,qa,qb,qc,gl,W_lckS,lock_one,lk1_same,lk1_ne,lkd_c,o_ldF,o_stW,vLdF_S,ldFS_ok,stp_0,stp_2,e3,e5,h3,h5,q1,hw,p0,p1,s1,s2,insC_ln,insC_one,hln,hln2,frzB_ins,a0]
theorem tu_2 (A:R24F F) {l:List Ins} (hl:WfT l) {t m:Int} {k i3 id:Nat} (hk:k + 1 < l.length) {e:Env} {g:G} (h:TuS l 2 t ((k:Nat):Int) m i3 id e g):W F tuT e g (retQ [.t 4] (slN (turnI 2 l k m))):=by
 obtain ⟨e3,e5,h3,h5,ne,nx⟩:=h
 have hlen:=hl.len
 have hln:=insLC_len l
 have q1:((2:Int) == 1) = false:=rfl
 have q2:((2:Int) == 2) = true:=rfl
 obtain ⟨hp2,hL,l5,ro,l3⟩:=lckM (n:=l.length) h5 h3
 have hvi:∀ n b p,vis (rd ⟨hp2,n⟩ (allow false b p)) depth (.ms id 0 l.length) = []:=fun n b p => vis_insM (by rw[rd_ok rfl];exact l5)
 have hc:=sp_cutI A hl (k:=k) (by omega)
 rw[turn_2 hk]
 unfold slN at *
 generalize cutI l k = R at hc ⊢
 simp (disch:=omega) only[tuT,A_xref24_turned,sR,wp,qa,qb,qc,gl,W_lck,stp_0,stp_2,e3,e5,h3,h5,q1,q2,hL,l5,l3,hvi,hc,frzB_ins,a0]
theorem tu_3 (A:R24F F) {l:List Ins} (hl:WfT l) {t m:Int} {k i3 id:Nat} (hk:k + 1 < l.length) {e:Env} {g:G} (h:TuS l 3 t ((k:Nat):Int) m i3 id e g):W F tuT e g (retQ [.t 4] (slN (turnI 3 l k m))):=by
 obtain ⟨e3,e5,h3,h5,ne,nx⟩:=h
 have hlen:=hl.len
 have hln:=insLC_len l
 have q1:((3:Int) == 1) = false:=rfl
 have q2:((3:Int) == 2) = false:=rfl
 have q3:((3:Int) == 3) = true:=rfl
 have hw:IntKind.i64.wrap (((k:Nat):Int) + 1) = ((k + 1:Nat):Int):=by rw[i64_wrap (by omega) (by omega)];omega
 have p3:part (insLC l) ((k + 1) * 7 + 3) none = some (.i .i64 (l.getD (k + 1) fence0).rg):=ins_p (f:=3) hk (by omega)
 have p5:part (insLC l) (k * 7 + 5) none = some (.sl (tkC (l.getD k fence0).ex) (l.getD k fence0).ex.length .non):=ins_p (f:=5) (j:=k) (by omega) (by omega)
 have hT:=turn_3 hk m
 have hn:(turnI 3 l k m).length = l.length:=by rw[hT,List.length_set]
 unfold slN
 rw[hn,hT]
 generalize l.getD k fence0 = x at *
 generalize l.getD (k + 1) fence0 = y at *
 have s1:splice (insLC l) ((k + 1) * 7) [.i .i64 5,.i .i64 0,.i .i64 0,.i .i64 y.rg,.i .i64 0,.sl (tkC x.ex) x.ex.length .non,.i .i64 0] = insLC (l.set (k + 1) (setI y.rg x.ex)):=insLC_set7 l (setI y.rg x.ex) hk
 simp (disch:=omega) only[tuT,A_xref24_turned,sR,wp,qa,qb,qc,gl,stp_0,stp_2,e3,e5,h3,h5,q1,q2,q3,hw,p3,p5,s1,z7,hln,frzB_ins,a0]
theorem tu_4 (A:R24F F) {l:List Ins} (hl:WfT l) {t m:Int} {k i3 id:Nat} (hk:k + 1 < l.length) {e:Env} {g:G} (h:TuS l 4 t ((k:Nat):Int) m i3 id e g):W F tuT e g (retQ [.t 4] (slN (turnI 4 l k m))):=by
 obtain ⟨e3,e5,h3,h5,ne,nx⟩:=h
 have hlen:=hl.len
 have hln:=insLC_len l
 have q1:((4:Int) == 1) = false:=rfl
 have q2:((4:Int) == 2) = false:=rfl
 have q3:((4:Int) == 3) = false:=rfl
 have q4:((4:Int) == 4) = true:=rfl
 have hw:IntKind.i64.wrap (((k:Nat):Int) + 1) = ((k + 1:Nat):Int):=by rw[i64_wrap (by omega) (by omega)];omega
 have p3:part (insLC l) ((k + 1) * 7 + 3) none = some (.i .i64 (l.getD (k + 1) fence0).rg):=ins_p (f:=3) hk (by omega)
 have p5:part (insLC l) (k * 7 + 3) none = some (.i .i64 (l.getD k fence0).rg):=ins_p (f:=3) (j:=k) (by omega) (by omega)
 have hT:=turn_4 hk m
 have hn:(turnI 4 l k m).length = l.length:=by rw[hT,List.length_set]
 unfold slN
 rw[hn,hT]
 generalize l.getD k fence0 = x at *
 generalize l.getD (k + 1) fence0 = y at *
 have hf:∀ hp,frzB hp 0 (splice (insLC l) ((k + 1) * 7) [.i .i64 5,.i .i64 0,.i .i64 0,.i .i64 y.rg,.i .i64 0,.sl [.i .i64 2,.i .i64 x.rg] 1 .rig,.i .i64 0]) ((splice (insLC l) ((k + 1) * 7) [.i .i64 5,.i .i64 0,.i .i64 0,.i .i64 y.rg,.i .i64 0,.sl [.i .i64 2,.i .i64 x.rg] 1 .rig,.i .i64 0]).all flat) = some (insLC (l.set (k + 1) (setI y.rg [(2,x.rg)]))):=fun hp => frzB_K hp l hk (setI y.rg [(2,x.rg)]) .rig
 simp (disch:=omega) only[tuT,A_xref24_turned,sR,wp,qa,qb,qc,gl,stp_0,stp_2,e3,e5,h3,h5,q1,q2,q3,q4,hw,p3,p5,z7,sp2a,hln,hf,a0]
theorem tu_5 (A:R24F F) {l:List Ins} (hl:WfT l) {t m:Int} {k i3 id:Nat} (hk:k + 1 < l.length) (hT:turnI 5 l k m = cutI (l.set k { l.getD k fence0 with md:=joinZ (l.getD k fence0).md (l.getD (k + 1) fence0).md }) (k + 1)) {e:Env} {g:G} (h:TuS l 5 t ((k:Nat):Int) m i3 id e g):W F tuT e g (retQ [.t 4] (slN (turnI 5 l k m))):=by
 obtain ⟨e3,e5,h3,h5,ne,nx⟩:=h
 have hlen:=hl.len
 have hln:=insLC_len l
 have q1:((5:Int) == 1) = false:=rfl
 have q2:((5:Int) == 2) = false:=rfl
 have q3:((5:Int) == 3) = false:=rfl
 have q4:((5:Int) == 4) = false:=rfl
 have q5:((5:Int) == 5) = true:=rfl
 have hw:IntKind.i64.wrap (((k:Nat):Int) + 1) = ((k + 1:Nat):Int):=by rw[i64_wrap (by omega) (by omega)];omega
 have p1:part (insLC l) (k * 7 + 1) none = some (.i .i64 (l.getD k fence0).md):=ins_p (f:=1) (j:=k) (by omega) (by omega)
 have p2:part (insLC l) ((k + 1) * 7 + 1) none = some (.i .i64 (l.getD (k + 1) fence0).md):=ins_p (f:=1) hk (by omega)
 have hj:=sp_join24 A (l.getD k fence0).md (l.getD (k + 1) fence0).md
 rw[hT]
 generalize joinZ (l.getD k fence0).md (l.getD (k + 1) fence0).md = J at hj ⊢
 have s1:=insLC_set l (j:=k) (f:=1) (v:=.i .i64 J) (y:={ l.getD k fence0 with md:=J }) (by omega) (by omega) rfl
 have hl2:WfT (l.set k { l.getD k fence0 with md:=J }):=by
  refine ⟨by rw[List.length_set];exact hlen,fun x hx h6 => ?_,fun x hx => ?_⟩
  ·rcases List.mem_or_eq_of_mem_set hx with h | rfl
   ·exact hl.n x h h6
   ·exact hl.n (l.getD k fence0) (in_mem (show k < l.length by omega)) h6
  ·rcases List.mem_or_eq_of_mem_set hx with h | rfl
   ·exact hl.ex x h
   ·exact hl.ex (l.getD k fence0) (in_mem (show k < l.length by omega))
 have hc:=sp_cutI A hl2 (k:=k + 1) (by rw[List.length_set];exact hk)
 rw[List.length_set] at hc
 generalize l.set k { l.getD k fence0 with md:=J } = l2 at s1 hc ⊢
 obtain ⟨hp2,hL,l5,ro,l3⟩:=lckM (hp:=upd g.hp id (some (.cells (insLC l2) false))) (id:=id) (i3:=i3) (n:=l.length) (upd_same ..) ((upd_ne _ _ (by omega)).trans h3)
 have hvi:∀ n b p,vis (rd ⟨hp2,n⟩ (allow false b p)) depth (.ms id 0 l.length) = []:=fun n b p => vis_insM (by rw[rd_ok rfl];exact l5)
 generalize l.getD k fence0 = x at *
 generalize l.getD (k + 1) fence0 = y at *
 unfold slN at *
 generalize cutI l2 (k + 1) = R at hc ⊢
 simp (disch:=omega) only[tuT,A_xref24_turned,sR,wp,qa,qb,qc,gl,W_lck,stp_0,stp_2,e3,e5,h3,h5,q1,q2,q3,q4,q5,hw,p1,p2,hj,s1,hln,hL,l5,l3,hvi,hc,frzB_ins,a0]
theorem tu_6 (A:R24F F) {l:List Ins} (hl:WfT l) {t m:Int} {k i3 id:Nat} (hk:k < l.length) {e:Env} {g:G} (h:TuS l 6 t ((k:Nat):Int) m i3 id e g):W F tuT e g (retQ [.t 4] (slN (turnI 6 l k m))):=by
 obtain ⟨e3,e5,h3,h5,ne,nx⟩:=h
 have hlen:=hl.len
 have hln:=insLC_len l
 have q1:((6:Int) == 1) = false:=rfl
 have q2:((6:Int) == 2) = false:=rfl
 have q3:((6:Int) == 3) = false:=rfl
 have q4:((6:Int) == 4) = false:=rfl
 have q5:((6:Int) == 5) = false:=rfl
 have q6:((6:Int) == 6) = true:=rfl
 have p0:=ins_p0 hk
 have hT:=turn_6 hk m
 have hn:(turnI 6 l k m).length = l.length:=by rw[hT,List.length_set]
 unfold slN
 rw[hn,hT]
 unfold strI
 by_cases c1:(l.getD k fence0).kd = 4
 ·have b1:((l.getD k fence0).kd == 4) = true:=by simpa using c1
  by_cases c2:m = 2
  ·have b2:(m == 2) = true:=by simpa using c2
   rw[if_pos ⟨c1,c2⟩]
   have s1:=insLC_set l (j:=k) (f:=2) (v:=.i .i64 2) (y:={ l.getD k fence0 with md2:=m }) (by omega) (by omega) (by rw[c2];rfl)
   simp (disch:=omega) only[tuT,A_xref24_turned,sR,wp,qa,qb,qc,gl,stp_0,stp_2,stp_3,e3,e5,h3,h5,q1,q2,q3,q4,q5,q6,p0,b1,b2,s1,hln,frzB_ins,a0]
  ·have b2:(m == 2) = false:=by simpa using c2
   rw[if_neg (fun h => c2 h.2)]
   have s1:=insLC_set l (j:=k) (f:=1) (v:=.i .i64 m) (y:={ l.getD k fence0 with md:=m }) (by omega) (by omega) rfl
   simp (disch:=omega) only[tuT,A_xref24_turned,sR,wp,qa,qb,qc,gl,stp_0,stp_2,stp_3,e3,e5,h3,h5,q1,q2,q3,q4,q5,q6,p0,b1,b2,s1,hln,frzB_ins,a0]
 ·have b1:((l.getD k fence0).kd == 4) = false:=by simpa using c1
  rw[if_neg (fun h => c1 h.1)]
  have s1:=insLC_set l (j:=k) (f:=1) (v:=.i .i64 m) (y:={ l.getD k fence0 with md:=m }) (by omega) (by omega) rfl
  simp (disch:=omega) only[tuT,A_xref24_turned,sR,wp,qa,qb,qc,gl,stp_0,stp_2,stp_3,e3,e5,h3,h5,q1,q2,q3,q4,q5,q6,p0,b1,s1,hln,frzB_ins,a0]
theorem tu_8 (A:R24F F) {l:List Ins} (hl:WfT l) {t m:Int} {k i3 id:Nat} (hk:k < l.length) {e:Env} {g:G} (h:TuS l 8 t ((k:Nat):Int) m i3 id e g):W F tuT e g (retQ [.t 4] (slN (turnI 8 l k m))):=by
 obtain ⟨e3,e5,h3,h5,ne,nx⟩:=h
 have hlen:=hl.len
 have hln:=insLC_len l
 have q1:((8:Int) == 1) = false:=rfl
 have q2:((8:Int) == 2) = false:=rfl
 have q3:((8:Int) == 3) = false:=rfl
 have q4:((8:Int) == 4) = false:=rfl
 have q5:((8:Int) == 5) = false:=rfl
 have q6:((8:Int) == 6) = false:=rfl
 have q7:((8:Int) == 7) = false:=rfl
 have q8:((8:Int) == 8) = true:=rfl
 have p5:part (insLC l) (k * 7 + 5) none = some (.sl (tkC (l.getD k fence0).ex) (l.getD k fence0).ex.length .non):=ins_p (f:=5) hk (by omega)
 have xl:=hl.ex _ (in_mem hk)
 have hv:pureS F 115 [.sl (tkC (l.getD k fence0).ex) (l.getD k fence0).ex.length .non,.sl [] 0 .non] = some (.i .i64 (evX (l.getD k fence0).ex [])):=sp_eval A.ch.ex.eval A.ch.ex.check A.ch.ex.word A.ch.ex.do_ _ [] (by omega) (by simp)
 have hT:=turn_8 hk m
 have hn:(turnI 8 l k m).length = l.length:=by rw[hT,List.length_set]
 unfold slN
 rw[hn,hT]
 generalize evX (l.getD k fence0).ex [] = v at *
 have s1:=setK l hk { l.getD k fence0 with ex:=[(1,v)] } .rig rfl
 have s1:(insLC l).set (k * 7 + 5) (.sl [.i .i64 1,.i .i64 v] 1 .rig) = splice (insLC l) (k * 7) (insK { l.getD k fence0 with ex:=[(1,v)] } .rig):=s1
 have hf:=fun hp => frzB_K hp l hk { l.getD k fence0 with ex:=[(1,v)] } .rig
 generalize splice (insLC l) (k * 7) (insK { l.getD k fence0 with ex:=[(1,v)] } .rig) = S at s1 hf
 simp (disch:=omega) only[tuT,A_xref24_turned,sR,wp,qa,qb,qc,gl,stp_0,stp_2,e3,e5,h3,h5,q1,q2,q3,q4,q5,q6,q7,q8,p5,hv,s1,sp2a,hln,hf,a0]
theorem tu_7 (A:R24F F) {l:List Ins} (hl:WfT l) {t m:Int} {k i3 id:Nat} (hk:k≤l.length) {e:Env} {g:G} (e3:e 3 = .mp i3 0) (h3:g.hp i3 = some (.cells (stpC 7 t ((k:Nat):Int) m) false)) (nx3:i3 < g.nx)
  (h5:(e 5 = .ms id 0 l.length∧g.hp id = some (.cells (insLC l) false))∨e 5 = .sl (insLC l) l.length .rig):W F tuT e g (retQ [.t 4] (slN (turnI 7 l k m))):=by
 have hlen:=hl.len
 have hln:=insLC_len l
 have q1:((7:Int) == 1) = false:=rfl
 have q2:((7:Int) == 2) = false:=rfl
 have q3:((7:Int) == 3) = false:=rfl
 have q4:((7:Int) == 4) = false:=rfl
 have q5:((7:Int) == 5) = false:=rfl
 have q6:((7:Int) == 6) = false:=rfl
 have q7:((7:Int) == 7) = true:=rfl
 have hr:=sp_reach A hl hk (d:=1) (by omega)
 have hfl:=fixT_len (n:=k) (d:=1) hk
 have f1:=insLC_tk (fixT l k 1 k) k
 have f2:=insLC_dt (fixT l k 1 k) k
 have f3:(fixT l k 1 k).take k = fixL l k 1 k:=by unfold fixT;rw[List.take_left' (fixL_len ..)]
 have f4:(fixT l k 1 k).drop k = l.drop k:=by unfold fixT;rw[List.drop_left' (fixL_len ..)]
 rw[f3] at f1
 rw[f4,hfl] at f2
 have hcl:(insLC (fixL l k 1 k)).length = k * 7:=by rw[insLC_len,fixL_len]
 have hdl:(insLC (l.drop k)).length = (l.length - k) * 7:=by rw[insLC_len,List.length_drop]
 have hTn:(turnI 7 l k m).length = k + 1 + (l.length - k):=by rw[turn_7,List.length_append,List.length_append,fixL_len,List.length_drop];rfl
 have hTc:insLC (turnI 7 l k m) = insLC (fixL l k 1 k) ++ [.i .i64 3,.i .i64 m,.i .i64 0,.i .i64 0,.i .i64 0,.sl [] 0 .non,.i .i64 0] ++ insLC (l.drop k):=by
  rw[turn_7,←insLC_ap,←insLC_ap]
  rfl
 unfold slN
 rw[hTn,hTc]
 generalize insLC (fixT l k 1 k) = X at hr f1 f2
 generalize insLC (fixL l k 1 k) = Y at f1 hcl
 rcases h5 with ⟨e5,h5⟩ | e5
 ·obtain ⟨hpz,hL,l5,ro,L3⟩:=lckM (n:=l.length) h5 h3
  have hvi:∀ n b p,vis (rd ⟨hpz,n⟩ (allow false b p)) depth (.ms id 0 l.length) = []:=fun n b p => vis_insM (by rw[rd_ok rfl];exact l5)
  simp (disch:=omega) only[tuT,A_xref24_turned,sR,wp,qa,qb,qc,gl,W_lck,stp_0,stp_2,e3,e5,h3,h5,hL,l5,L3,hvi,q1,q2,q3,q4,q5,q6,q7,hr,frzB_ins,a0,oSlice,evoN,evoS,slTo,f1]
  refine bindO_app (.inl rfl) (fun z hz => by cases hz) ⟨by omega,by omega,rfl,hcl⟩ ?_
  intro u1 hp1 a1
  have k3:hp1 i3 = _:=(a1.keep i3 (by first | omega | (dsimp only;omega)) (fun e he => by cases he)).trans L3
  simp (disch:=omega) only[wp,qa,qb,qc,gl,e3,k3,stp_3,z7,sp7]
  refine bindO_app (a1.ok (by first | omega | (dsimp only;omega))) (fun z hz => ?_) ⟨by omega,by omega,hcl,rfl⟩ ?_
  ·rcases a1.tok with hr | ⟨hr,_⟩
   ·rw[hr] at hz;cases hz
   ·rw[hr] at hz;cases hz
    first | rfl | (refine allow_pre ?_;simp)
  intro u2 hp2 a2
  have m3:hp2 i3 = _:=(a2.keep i3 (by first | omega | (dsimp only;omega)) (fun e he => by
   rcases a1.tok with hr | ⟨hr,_⟩
   ·rw[hr] at he;cases he
   ·rw[hr] at he;cases he;omega)).trans k3
  simp (disch:=omega) only[wp,qa,qb,qc,gl,e3,m3,stp_2,oSlice,evoN,evoS,slFrom,f2]
  refine bindO_app (a2.ok (by first | omega | (dsimp only;omega))) (fun z hz => ?_) ⟨by omega,by omega,by rw[List.length_append,hcl];simp;omega,hdl⟩ ?_
  ·rcases a2.tok with hr | ⟨hr,_⟩
   ·rw[hr] at hz;cases hz
   ·rw[hr] at hz;cases hz
    first | rfl | (refine allow_pre ?_;simp)
  intro u3 hp3 a3
  simp (disch:=omega) only[wp,qa,qb,qc,gl]
 ·have L3:=h3
  simp (disch:=omega) only[tuT,A_xref24_turned,sR,wp,qa,qb,qc,gl,W_lck,stp_0,stp_2,e3,e5,h3,lckN,q1,q2,q3,q4,q5,q6,q7,hr,frzB_ins,a0,oSlice,evoN,evoS,slTo,f1]
  refine bindO_app (.inl rfl) (fun z hz => by cases hz) ⟨by omega,by omega,rfl,hcl⟩ ?_
  intro u1 hp1 a1
  have k3:hp1 i3 = _:=(a1.keep i3 (by first | omega | (dsimp only;omega)) (fun e he => by cases he)).trans L3
  simp (disch:=omega) only[wp,qa,qb,qc,gl,e3,k3,stp_3,z7,sp7]
  refine bindO_app (a1.ok (by first | omega | (dsimp only;omega))) (fun z hz => ?_) ⟨by omega,by omega,hcl,rfl⟩ ?_
  ·rcases a1.tok with hr | ⟨hr,_⟩
   ·rw[hr] at hz;cases hz
   ·rw[hr] at hz;cases hz
    first | rfl | (refine allow_pre ?_;simp)
  intro u2 hp2 a2
  have m3:hp2 i3 = _:=(a2.keep i3 (by first | omega | (dsimp only;omega)) (fun e he => by
   rcases a1.tok with hr | ⟨hr,_⟩
   ·rw[hr] at he;cases he
   ·rw[hr] at he;cases he;omega)).trans k3
  simp (disch:=omega) only[wp,qa,qb,qc,gl,e3,m3,stp_2,oSlice,evoN,evoS,slFrom,f2]
  refine bindO_app (a2.ok (by first | omega | (dsimp only;omega))) (fun z hz => ?_) ⟨by omega,by omega,by rw[List.length_append,hcl];simp;omega,hdl⟩ ?_
  ·rcases a2.tok with hr | ⟨hr,_⟩
   ·rw[hr] at hz;cases hz
   ·rw[hr] at hz;cases hz
    first | rfl | (refine allow_pre ?_;simp)
  intro u3 hp3 a3
  simp (disch:=omega) only[wp,qa,qb,qc,gl]
end Go.Ab
end
section
set_option linter.unusedVariables false
set_option linter.unusedSimpArgs false
namespace Go.Ab
theorem okI_left {x:Ins} (h6:x.kd≠6) (lc a b:Int):okI x lc a = okI x lc b:=by
 simp[okI,partZ,h6]
theorem okI_skip {x:Ins} {lc a b n':Int} (h6:x.kd = 6) (h:okI x lc a = true) (h1:0≤n') (h2:n'≤b):okI { x with n:=n' } lc b = true:=by
 obtain ⟨kd,md,md2,rg,lcc,ex,n⟩:=x
 dsimp only at h6
 subst h6
 simp[okI,partZ] at h ⊢
 grind
theorem okI_fen {J lc left:Int} (h1:1≤J) (h4:J≤4):okI (fenI J) lc left = true:=by
 simp[okI,fenI,modeB,partZ,h1,h4]
theorem joinZ_b {a b:Int} (ha:1≤a∧a≤4) (hb:1≤b∧b≤4):1≤joinZ a b∧joinZ a b≤4:=by
 have h1:barB a = true:=by unfold barB;simp;omega
 have h2:barB b = true:=by unfold barB;simp;omega
 unfold joinZ
 rw[if_neg (by rw[h1,h2];simp)]
 split
 ·omega
 split<;>omega
theorem okI_2 {x:Ins} {lc left:Int} (h:okI x lc left = true) (h2:x.kd = 2):chkX x.ex = true:=by
 unfold okI at h
 rw[if_neg (by omega),if_pos h2] at h
 simp only[Bool.and_eq_true] at h
 exact h.2
theorem okI_1 {x:Ins} {lc left:Int} (h:okI x lc left = true) (h1:x.kd = 1):0≤x.rg∧x.rg≤7:=by
 unfold okI at h
 rw[if_pos h1] at h
 simp[partZ] at h
 omega
theorem okI_3 {x:Ins} {lc left:Int} (h:okI x lc left = true) (h3:x.kd = 3):1≤x.md∧x.md≤4:=by
 unfold okI at h
 rw[if_neg (by omega),if_neg (by omega),if_pos h3] at h
 simp[partZ,modeB] at h
 omega
theorem okI_set {rg lc left:Int} {ex:List (Int × Int)} (h1:0≤rg∧rg≤7) (h2:chkX ex = true):okI (setI rg ex) lc left = true:=by
 simp[okI,setI,modeB,partZ,h1,h2]
theorem chkX_reg {v:Int} (h:0≤v∧v≤7):chkX [(2,v)] = true:=by
 have:wdB (2,v) = true:=by simp[wdB];omega
 simp[chkX,chkG,this]
theorem chkX_con {v:Int} (h:-2147483648≤v∧v < 2147483648):chkX [(1,v)] = true:=by
 have:wdB (1,v) = true:=by simp[wdB];omega
 simp[chkX,chkG,this]
theorem okI_str {x:Ins} {lc left m:Int} (h:okI x lc left = true) (hs:strB x m = true):okI (strI x m) lc left = true:=by
 obtain ⟨kd,md,md2,rg,lcc,ex,n⟩:=x
 obtain ⟨a,b⟩:=okI_kd h
 dsimp only at a b
 unfold strB at hs
 dsimp only at hs
 obtain rfl | rfl | rfl | rfl | rfl | rfl:kd = 1∨kd = 2∨kd = 3∨kd = 4∨kd = 5∨kd = 6:=by omega
 ·simp[strI,okI,modeB,partZ] at h hs ⊢
  grind
 ·simp[strI,okI,modeB,partZ] at h hs ⊢
  grind
 ·have h3:=okI_3 h rfl
  dsimp only at h3
  have hm:1≤m∧m≤4:=by
   have hs:((3:Int) == 3 && m != md && m != 0 && joinZ md m == m) = true:=by simpa using hs
   simp only[Bool.and_eq_true,beq_iff_eq,bne_iff_ne,ne_eq] at hs
   have hb:barB m = true:=by
    cases hb:barB m with
    | true => rfl
    | false =>
      exfalso
      have:=hs.2
      unfold joinZ at this
      rw[if_pos (.inr hb)] at this
      exact hs.1.2 this.symm
   unfold barB at hb
   simpa using hb
  simp[strI,okI,modeB,partZ] at h ⊢
  grind
 ·by_cases c:m = 2
  ·subst c
   simp[strI,okI,modeB,partZ] at h hs ⊢
   grind
  ·simp[strI,okI,modeB,partZ,c] at h hs ⊢
   grind
 ·simp at hs
 ·simp at hs
theorem okI_fold {x:Ins} {lc left:Int} (h:okI x lc left = true) (hf:foldB x = true):okI { x with ex:=[(1,evX x.ex [])] } lc left = true:=by
 unfold foldB at hf
 simp only[Bool.and_eq_true,Bool.not_eq_true',decide_eq_false_iff_not,decide_eq_true_eq] at hf
 obtain ⟨⟨⟨h1,h2⟩,h3⟩,h4⟩:=hf
 obtain ⟨a,b⟩:=okI_kd h
 obtain ⟨kd,md,md2,rg,lcc,ex,n⟩:=x
 dsimp only at *
 generalize evX ex [] = v at *
 have hc:=chkX_con (v:=v) ⟨h3,h4⟩
 have hr:regsX [(1,v)] = []:=rfl
 obtain rfl | rfl | rfl | rfl | rfl | rfl:kd = 1∨kd = 2∨kd = 3∨kd = 4∨kd = 5∨kd = 6:=by omega
 ·exfalso
  simp[okI] at h
  have:=h.2
  subst this
  simp at h1
 ·simp[okI,modeB,partZ,hc] at h ⊢
  grind
 ·exfalso
  simp[okI] at h
  have:=h.2
  subst this
  simp at h1
 ·simp[okI,modeB,partZ,hc,hr] at h ⊢
  grind
 ·simp[okI,modeB,partZ,hc] at h ⊢
  grind
 ·simp[okI,modeB,partZ,hc] at h ⊢
  grind
theorem stay_no {x:Ins} (h:stayB x = false):x.kd≠6:=by
 unfold stayB at h
 simp only[Bool.or_eq_false_iff,beq_eq_false_iff_ne,ne_eq] at h
 exact h.2
theorem more_ok {lc:Int} {l:List Ins} {k:Nat} {m r:Int} (hok:∀ j < l.length,okI (l.getD j fence0) lc ((l.length:Int) - 1 - j) = true) (h1:1≤r) (h8:r≤8) (can:canR r l ((k:Nat):Int) m = true):
  ∀ x∈moreI r l k m,okI x lc ((l.length:Int) - 1 - k) = true∧(r≠6→r≠8→x.kd≠6):=by
 have hlen:=canR_len h1 h8 can
 obtain rfl | rfl | rfl | rfl | rfl | rfl | rfl | rfl:r = 1∨r = 2∨r = 3∨r = 4∨r = 5∨r = 6∨r = 7∨r = 8:=by omega
 ·have hlen:((k:Nat):Int) + 2≤((l.length:Nat):Int):=hlen
  have can:(bothB l ((k:Nat):Int) m && pair1 (l.getD (((k:Nat):Int)).toNat fence0) (l.getD ((((k:Nat):Int)).toNat + 1) fence0)) = true:=can
  rw[Bool.and_eq_true,Int.toNat_natCast] at can
  have can:=can.2
  unfold pair1 at can
  simp only[Bool.and_eq_true,Bool.not_eq_true',Bool.or_eq_false_iff] at can
  have k1:=stay_no can.1.1.1.1
  have k2:=stay_no can.1.1.1.2
  intro x hx
  have hx:x∈[l.getD (k + 1) fence0,l.getD k fence0]:=hx
  simp only[List.mem_cons,List.not_mem_nil,or_false] at hx
  rcases hx with rfl | rfl
  ·exact ⟨by rw[okI_left k2 lc _ ((l.length:Int) - 1 - ((k + 1:Nat):Int))];exact hok (k + 1) (by omega),fun _ _ => k2⟩
  ·exact ⟨hok k (by omega),fun _ _ => k1⟩
 ·have hlen:((k:Nat):Int) + 2≤((l.length:Nat):Int):=hlen
  have can:(bothB l ((k:Nat):Int) m && pair2 (l.getD (((k:Nat):Int)).toNat fence0) (l.getD ((((k:Nat):Int)).toNat + 1) fence0)) = true:=can
  rw[Bool.and_eq_true,Int.toNat_natCast] at can
  have can:=can.2
  unfold pair2 at can
  simp only[Bool.and_eq_true,beq_iff_eq] at can
  have k2:(l.getD (k + 1) fence0).kd≠6:=by rw[can.1.1.1.2];decide
  intro x hx
  have hx:x∈[l.getD (k + 1) fence0]:=hx
  simp only[List.mem_cons,List.not_mem_nil,or_false] at hx
  subst hx
  exact ⟨by rw[okI_left k2 lc _ ((l.length:Int) - 1 - ((k + 1:Nat):Int))];exact hok (k + 1) (by omega),fun _ _ => k2⟩
 ·have hlen:((k:Nat):Int) + 2≤((l.length:Nat):Int):=hlen
  have can:(bothB l ((k:Nat):Int) m && pairR 2 (l.getD (((k:Nat):Int)).toNat fence0) (l.getD ((((k:Nat):Int)).toNat + 1) fence0)) = true:=can
  rw[Bool.and_eq_true,Int.toNat_natCast] at can
  have can:=can.2
  unfold pairR at can
  simp only[Bool.and_eq_true,beq_iff_eq] at can
  have k1:(l.getD k fence0).kd≠6:=by rw[can.1.1.1];decide
  intro x hx
  have hx:x∈[l.getD k fence0,setI (l.getD (k + 1) fence0).rg (l.getD k fence0).ex]:=hx
  simp only[List.mem_cons,List.not_mem_nil,or_false] at hx
  rcases hx with rfl | rfl
  ·exact ⟨hok k (by omega),fun _ _ => k1⟩
  ·exact ⟨okI_set (okI_1 (hok (k + 1) (by omega)) can.1.1.2) (okI_2 (hok k (by omega)) can.1.1.1),fun _ _ => by unfold setI;simp⟩
 ·have hlen:((k:Nat):Int) + 2≤((l.length:Nat):Int):=hlen
  have can:(bothB l ((k:Nat):Int) m && pairR 1 (l.getD (((k:Nat):Int)).toNat fence0) (l.getD ((((k:Nat):Int)).toNat + 1) fence0)) = true:=can
  rw[Bool.and_eq_true,Int.toNat_natCast] at can
  have can:=can.2
  unfold pairR at can
  simp only[Bool.and_eq_true,beq_iff_eq] at can
  have k1:(l.getD k fence0).kd≠6:=by rw[can.1.1.1];decide
  intro x hx
  have hx:x∈[l.getD k fence0,setI (l.getD (k + 1) fence0).rg [(2,(l.getD k fence0).rg)]]:=hx
  simp only[List.mem_cons,List.not_mem_nil,or_false] at hx
  rcases hx with rfl | rfl
  ·exact ⟨hok k (by omega),fun _ _ => k1⟩
  ·exact ⟨okI_set (okI_1 (hok (k + 1) (by omega)) can.1.1.2) (chkX_reg (okI_1 (hok k (by omega)) can.1.1.1)),fun _ _ => by unfold setI;simp⟩
 ·have hlen:((k:Nat):Int) + 2≤((l.length:Nat):Int):=hlen
  have can:(bothB l ((k:Nat):Int) m && pair5 (l.getD (((k:Nat):Int)).toNat fence0) (l.getD ((((k:Nat):Int)).toNat + 1) fence0)) = true:=can
  rw[Bool.and_eq_true,Int.toNat_natCast] at can
  have can:=can.2
  unfold pair5 at can
  simp only[Bool.and_eq_true,beq_iff_eq] at can
  intro x hx
  have hx:x∈[fenI (joinZ (l.getD k fence0).md (l.getD (k + 1) fence0).md)]:=hx
  simp only[List.mem_cons,List.not_mem_nil,or_false] at hx
  subst hx
  have:=joinZ_b (okI_3 (hok k (by omega)) can.1) (okI_3 (hok (k + 1) (by omega)) can.2)
  exact ⟨okI_fen this.1 this.2,fun _ _ => by unfold fenI;simp⟩
 ·have hlen:((k:Nat):Int) + 1≤((l.length:Nat):Int):=hlen
  have can:(hasB l.length ((k:Nat):Int) 1 && strB (l.getD (((k:Nat):Int)).toNat fence0) m) = true:=can
  rw[Bool.and_eq_true,Int.toNat_natCast] at can
  intro x hx
  have hx:x∈[strI (l.getD k fence0) m]:=hx
  simp only[List.mem_cons,List.not_mem_nil,or_false] at hx
  subst hx
  exact ⟨okI_str (hok k (by omega)) can.2,fun h => absurd rfl h⟩
 ·have can:(hasB l.length ((k:Nat):Int) 0 && barB m) = true:=can
  rw[Bool.and_eq_true] at can
  have can:=can.2
  unfold barB at can
  simp only[Bool.and_eq_true,decide_eq_true_eq] at can
  intro x hx
  have hx:x∈[fenI m]:=hx
  simp only[List.mem_cons,List.not_mem_nil,or_false] at hx
  subst hx
  exact ⟨okI_fen can.1 can.2,fun _ _ => by unfold fenI;simp⟩
 ·have hlen:((k:Nat):Int) + 1≤((l.length:Nat):Int):=hlen
  have can:(hasB l.length ((k:Nat):Int) 1 && (m == 0) && foldB (l.getD (((k:Nat):Int)).toNat fence0)) = true:=can
  rw[Bool.and_eq_true,Int.toNat_natCast] at can
  intro x hx
  have hx:x∈[({ l.getD k fence0 with ex:=[(1,evX (l.getD k fence0).ex [])] }:Ins)]:=hx
  simp only[List.mem_cons,List.not_mem_nil,or_false] at hx
  subst hx
  exact ⟨okI_fold (hok k (by omega)) can.2,fun _ h => absurd rfl h⟩
theorem okT_all {lc:Int} {th:List Ins}:okT lc th th.length = true↔∀ j < th.length,okI (th.getD j fence0) lc ((th.length:Int) - 1 - j) = true:=by
 unfold okT
 rw[List.all_eq_true]
 exact ⟨fun h j hj => h j (List.mem_range.2 hj),fun h j hj => h j (List.mem_range.1 hj)⟩
theorem turnI_ok {lc:Int} {l:List Ins} {k:Nat} {m r:Int} (hl:okT lc l l.length = true) (h1:1≤r) (h8:r≤8) (can:canR r l ((k:Nat):Int) m = true):okT lc (turnI r l k m) (turnI r l k m).length = true:=by
 have hok:=okT_all.1 hl
 have hmo:=more_ok hok h1 h8 can
 have hlen:=canR_len h1 h8 can
 have hdl:delR r l k m = ((moreI r l k m).length:Int) - rtak r:=rfl
 have hdr:=delR_eq r l k m h1 h8
 have hrt:0≤rtak r:=by unfold rtak;split;· omega
                       split<;>omega
 have hT:(turnI r l k m).length = k + (moreI r l k m).length + (l.length - (k + (rtak r).toNat)):=by
  unfold turnI
  rw[List.length_append,List.length_append,fixL_len,List.length_drop]
 have h68:r = 6∨r = 8→delR r l k m = 0∧(moreI r l k m).length = 1:=by
  rintro (rfl | rfl)
  ·exact ⟨rfl,rfl⟩
  ·exact ⟨rfl,rfl⟩
 have h25:delR r l k m = -1→rtak r = 2:=by
  intro h
  rw[hdr] at h
  have:r = 2∨r = 5:=by
   by_cases c:r = 2∨r = 5
   ·exact c
   ·rw[if_neg c] at h
    split at h<;>omega
  rcases this with rfl | rfl<;>rfl
 have hdb:-1≤delR r l k m∧delR r l k m≤1:=by
  rw[hdr]
  split
  ·omega
  split<;>omega
 refine okT_all.2 fun j hj => ?_
 rw[hT] at hj ⊢
 unfold turnI
 rw[List.getD_eq_getElem?_getD,List.append_assoc]
 generalize hD:delR r l k m = d at *
 generalize hM:moreI r l k m = M at *
 by_cases c1:j < k
 ·rw[List.getElem?_append_left (by rw[fixL_len];exact c1),List.getElem?_eq_getElem (by rw[fixL_len];exact c1),fixL_at,Option.getD_some]
  have ho:=hok j (by omega)
  unfold fixI
  split
  ·rename_i h
   obtain ⟨n1,n2⟩:=okI_n ho h.1
   exact okI_skip h.1 ho (by omega) (by omega)
  ·rename_i h
   by_cases h6:(l.getD j fence0).kd = 6
   ·have h:¬ ((k:Nat):Int) < ((j:Nat):Int) + 1 + (l.getD j fence0).n:=fun h' => h ⟨h6,h'⟩
    obtain ⟨n1,n2⟩:=okI_n ho h6
    have:=okI_skip (b:=((k + M.length + (l.length - (k + (rtak r).toNat)):Nat):Int) - 1 - j) h6 ho n1 (by
     have:d = -1→rtak r = 2:=h25
     omega)
    exact this
   ·rw[okI_left h6 lc _ ((l.length:Int) - 1 - j)];exact ho
 ·rw[List.getElem?_append_right (by rw[fixL_len];omega),fixL_len]
  by_cases c2:j < k + M.length
  ·rw[List.getElem?_append_left (by omega),List.getElem?_eq_getElem (by omega),Option.getD_some]
   obtain ⟨o1,o2⟩:=hmo _ (List.getElem_mem (l:=M) (n:=j - k) (by omega))
   by_cases h:r = 6∨r = 8
   ·obtain ⟨z1,z2⟩:=h68 h
    have e:((k + M.length + (l.length - (k + (rtak r).toNat)):Nat):Int) - 1 - j = (l.length:Int) - 1 - k:=by omega
    rw[e]
    exact o1
   ·rw[okI_left (o2 (fun e => h (.inl e)) (fun e => h (.inr e))) lc _ ((l.length:Int) - 1 - k)]
    exact o1
  ·rw[List.getElem?_append_right (by omega),List.getElem?_drop,←List.getD_eq_getElem?_getD]
   have:=hok (k + (rtak r).toNat + (j - k - M.length)) (by omega)
   have e:((k + M.length + (l.length - (k + (rtak r).toNat)):Nat):Int) - 1 - j = (l.length:Int) - 1 - ((k + (rtak r).toNat + (j - k - M.length):Nat):Int):=by omega
   rw[e]
   exact this
theorem chk_turn {lc:Int} {ths:List (List Ins)} {r t a m:Int} {i k:Nat} (hC:CanI lc ths r t a m i k):chkP lc (ths.set i (turnI r (ths.getD i []) k m)) = 0∨chkP lc (ths.set i (turnI r (ths.getD i []) k m)) = 4:=by
 obtain ⟨c0,r1,r8,ti,hi,ak,hk,can⟩:=hC
 obtain ⟨a1,a2,a3,a4,_,_⟩:=chk_ok c0
 rw[ak] at can
 have ht:=turnI_ok (okTs_at a4 (th_mem hi)) r1 r8 can
 have hts:okTs lc (ths.set i (turnI r (ths.getD i []) k m)) (ths.set i (turnI r (ths.getD i []) k m)).length = true:=by
  unfold okTs
  rw[List.take_length,List.all_eq_true]
  intro th hth
  rcases List.mem_or_eq_of_mem_set hth with h | rfl
  ·exact okTs_at a4 h
  ·exact ht
 unfold chkP
 rw[if_neg (by rw[List.length_set];omega),if_neg (by rw[hts];decide)]
 split
 ·exact .inr rfl
 ·exact .inl rfl
end Go.Ab
end
section
set_option linter.unusedVariables false
set_option linter.unusedSimpArgs false
namespace Go.Ab
variable {F:Funs}
theorem sp_turned (A:R24F F) {lc:Int} {ths:List (List Ins)} {r t a m:Int} {i k:Nat} (hC:CanI lc ths r t a m i k):pureS F 553 [.sl (insLC (ths.getD i [])) (ths.getD i []).length .non,.agg (stpC r t a m)] = some (slN (turnI r (ths.getD i []) k m)):=by
 refine pure_of A.pk.xref24_turned ?_
 obtain ⟨c0,r1,r8,ti,hi,ak,hk,can⟩:=hC
 have hl:=wf_of c0 (th_mem hi)
 obtain ⟨_,_,_,hts,_,_⟩:=chk_ok c0
 have hok:=okT_all.1 (okTs_at hts (th_mem hi))
 generalize ths.getD i [] = l at *
 subst ak
 have hlen:=hl.len
 have hcl:=canR_len r1 r8 can
 have key:∀ (i3 id:Nat) (e:Env) (g:G),1≤l.length→TuS l r t ((k:Nat):Int) m i3 id e g→W F tuT e g (retQ [.t 4] (slN (turnI r l k m))):=by
  intro i3 id e g h1 h
  obtain rfl | rfl | rfl | rfl | rfl | rfl | rfl | rfl:r = 1∨r = 2∨r = 3∨r = 4∨r = 5∨r = 6∨r = 7∨r = 8:=by omega
  ·have hcl:((k:Nat):Int) + 2≤((l.length:Nat):Int):=hcl
   exact tu_1 A hl (by omega) h
  ·have hcl:((k:Nat):Int) + 2≤((l.length:Nat):Int):=hcl
   exact tu_2 A hl (by omega) h
  ·have hcl:((k:Nat):Int) + 2≤((l.length:Nat):Int):=hcl
   exact tu_3 A hl (by omega) h
  ·have hcl:((k:Nat):Int) + 2≤((l.length:Nat):Int):=hcl
   exact tu_4 A hl (by omega) h
  ·have hcl:((k:Nat):Int) + 2≤((l.length:Nat):Int):=hcl
   have can:(bothB l ((k:Nat):Int) m && pair5 (l.getD (((k:Nat):Int)).toNat fence0) (l.getD ((((k:Nat):Int)).toNat + 1) fence0)) = true:=can
   rw[Bool.and_eq_true,Int.toNat_natCast] at can
   obtain ⟨_,_,_,_,htg⟩:=bothB_inv can.1
   exact tu_5 A hl (by omega) (turn_5 (by omega) m hok can.2 htg) h
  ·have hcl:((k:Nat):Int) + 1≤((l.length:Nat):Int):=hcl
   exact tu_6 A hl (by omega) h
  ·obtain ⟨e3,e5,h3,h5,ne,nx⟩:=h
   exact tu_7 (id:=id) A hl hk e3 h3 (by omega) (.inl ⟨e5,h5⟩)
  ·have hcl:((k:Nat):Int) + 1≤((l.length:Nat):Int):=hcl
   exact tu_8 A hl (by omega) h
 have hcut:A_xref24_turned.body = .seq (sL A_xref24_turned.body) (.seq (sL (sR A_xref24_turned.body)) tuT):=rfl
 have key0:∀ (i3:Nat) (e:Env) (g:G),l.length = 0→e 3 = .mp i3 0→g.hp i3 = some (.cells (stpC r t ((k:Nat):Int) m) false)→i3 < g.nx→e 5 = .sl [] 0 .rig→W F tuT e g (retQ [.t 4] (slN (turnI r l k m))):=by
  intro i3 e g h0 e3 h3 hn e5
  have h7:r = 7:=by
   have:rtak r = 0:=by
    have:0≤rtak r:=by unfold rtak;split;· omega
                      split<;>omega
    omega
   unfold rtak at this
   split at this
   ·omega
   split at this<;>omega
  subst h7
  refine tu_7 (id:=0) A hl (by omega) e3 h3 hn (.inr ?_)
  obtain rfl:l = []:=List.length_eq_zero_iff.1 h0
  exact e5
 rw[hcut,show A_xref24_turned.res = [.t 4] from rfl]
 generalize tuT = tl at key key0 ⊢
 have hln:=insLC_len l
 have hon:=insLC_one l
 by_cases h0:l.length = 0
 ·have hn:insLC l = []:=by obtain rfl:l = []:=List.length_eq_zero_iff.1 h0;rfl
  rw[hn,h0]
  unfold stpC at *
  simp (disch:=omega) only[A_xref24_turned,sL,sR,wp,qa,qb,qc,gl,o_appM,vAppM_rig,apmR_0]
  refine key0 _ _ _ h0 rfl ?_ (by first | omega | (dsimp only;omega)) rfl
  (simp (disch:=omega) only[upd_same,upd_ne]);try rfl
 ·unfold stpC at *
  simp (disch:=omega) only[A_xref24_turned,sL,sR,wp,qa,qb,qc,gl,o_appM,vAppM_rig,apmR_ok,hln,hon]
  refine key _ _ _ _ (by omega) ⟨rfl,rfl,?_,?_,?_,?_⟩
  ·(simp (disch:=omega) only[upd_same,upd_ne]);try rfl
  ·(simp (disch:=omega) only[upd_same,upd_ne]);try rfl
  ·first | omega | (dsimp only;omega)
  ·first | omega | (dsimp only;omega)
theorem sp_apply24 (A:R24F F) {lc:Int} {ths:List (List Ins)} (hf:FewP ths) (r t a m:Int):pureS F 547 [.agg (pgA lc ths),.agg (stpC r t a m)] = some (appV lc (appP lc ths r t a m)):=by
 refine pure_of A.pk.xref24_Apply ?_
 have hc:=sp_rCheck A.ch (lc:=lc) hf
 have hcan:=sp_can24 A (lc:=lc) hf r t a m
 by_cases c0:chkP lc ths = 0
 rotate_left
 ·have c1':(chkP lc ths != 0) = true:=by simpa using c0
  have hq:appP lc ths r t a m = (ths,3):=by unfold appP;rw[if_pos c0]
  rw[hq]
  unfold appV pgA stpC at *
  dsimp only
  simp (disch:=omega) only[A_xref24_Apply,wp,qa,qb,qc,gl,p2m,p4m,f2p,v2p,f4s,v4s,hc,c1',res_cell3,resC3_mp,resB3_cells,mapV,f5t]
 have c1':(chkP lc ths != 0) = false:=by simpa using c0
 cases hcp:canP lc ths r t a m with
 | false =>
   have hq:appP lc ths r t a m = (ths,7):=by unfold appP;rw[if_neg (by simpa using c0),if_pos hcp]
   rw[hq]
   rw[hcp] at hcan
   unfold appV pgA stpC at *
   dsimp only
   simp (disch:=omega) only[A_xref24_Apply,wp,qa,qb,qc,gl,p2m,p4m,f2p,v2p,f4s,v4s,hc,c1',hcan,res_cell3,resC3_mp,resB3_cells,mapV,f5t]
 | true =>
 rw[hcp] at hcan
 have hC:=canP_inv hcp
 have htu:=sp_turned A hC
 have h04:=chk_turn hC
 have hq:appP lc ths r t a m = if chkP lc (ths.set t.toNat (turnI r (ths.getD t.toNat []) a.toNat m))≠0 then (ths,chkP lc (ths.set t.toNat (turnI r (ths.getD t.toNat []) a.toNat m))) else (ths.set t.toNat (turnI r (ths.getD t.toNat []) a.toNat m),0):=by
  unfold appP
  rw[if_neg (by simpa using c0),if_neg (by rw[hcp];decide)]
 rw[hq]
 have hti:=hC.ti
 have hi:=hC.hi
 have hk:=hC.hk
 have hwf:=wf_of c0 (th_mem hi)
 have htf:=turnI_few (r:=r) hwf a.toNat hk m
 have hc2:=sp_rCheck A.ch (lc:=lc) (few_set hf (i:=t.toNat) htf)
 generalize t.toNat = i at *
 subst hti
 have hth:=thA_at hi
 generalize hT:turnI r (ths.getD i []) a.toNat m = T at *
 have hn6:=hf.n
 have hln:=thsC_ln ths
 have hon:=thsC_one ths
 have hset:∀ u:Tok,(thsC ths).set (i * 1) (.sl (insLC T) T.length u) = (thsC ths).set i (.sl (insLC T) T.length u):=fun u => by rw[Nat.mul_one]
 have p4m1:∀ a b c d:AV,part [a,b,c,d] 1 none = some b:=fun _ _ _ _ => rfl
 have hsl:ths.length = (ths.set i T).length:=by rw[List.length_set]
 have hag:=fun (hp:Nat→Option Blk) (u:Tok) (ro:Bool) => agM_set hp lc ths.length ths i T u ro hsl
 have htp:=fun (hp:Nat→Option Blk) (u:Tok) (ro:Bool) => tpM_set hp lc 0 ths.length ths i T u ro hsl
 have z2:splice [AV.i .i64 0,.sl [] 0 .rig] 0 = splice [AV.i .i64 0,.sl [] 0 .rig] 0:=rfl
 rcases h04 with h04 | h04
 ·have c2:(chkP lc (ths.set i T) == 4) = false:=by rw[h04];rfl
  rw[if_neg (by simpa using h04)]
  unfold slN at htu
  unfold stpC at *
  rw[show pgA lc ths = [.i .i64 lc,.sl (thsC ths) ths.length .non] from rfl] at *
  simp (disch:=omega) only[A_xref24_Apply,wp,qa,qb,qc,gl,p2m,p4m,p4m1,f2p,v2p,f4s,v4s,hc,c1',hcan,o_appM,vAppM_rig,apmR_ok,hln,hon,hth,htu,hset,sp2a,frz_agM,hag,hc2,c2,res_cell3,resC3_mp,resB3_cells,mapV,frz_tpM,htp]
 ·have c2:(chkP lc (ths.set i T) == 4) = true:=by rw[h04];rfl
  rw[if_pos (by rw[h04];decide),h04]
  unfold appV
  unfold slN at htu
  unfold stpC at *
  dsimp only
  rw[show pgA lc ths = [.i .i64 lc,.sl (thsC ths) ths.length .non] from rfl] at *
  simp (disch:=omega) only[A_xref24_Apply,wp,qa,qb,qc,gl,p2m,p4m,p4m1,f2p,v2p,f4s,v4s,hc,c1',hcan,o_appM,vAppM_rig,apmR_ok,hln,hon,hth,htu,hset,sp2a,frz_agM,hag,hc2,c2,res_cell3,resC3_mp,resB3_cells,mapV,f5t]
end Go.Ab
end
section
set_option linter.unusedVariables false
set_option linter.unusedSimpArgs false
namespace Go.Ab
variable {F:Funs}
structure SpO (lc:Int) (ths:List (List Ins)) (i:Nat) (e:Env) (g:G):Prop where
 hi:i≤ths.length
 e2:e 2 = .mp 0 0
 e3:e 3 = .mp 1 0
 e5:e 5 = .i .i64 ((i:Nat):Int)
 h0:g.hp 0 = some (.cells (pgA lc ths) false)
 h1:g.hp 1 = some (.cells (pgA lc ths) false)
 hn:1 < g.nx
structure SpI (lc:Int) (ths:List (List Ins)) (i k:Nat) (th:List Ins) (e:Env) (g:G):Prop where
 hk:k≤th.length
 e2:e 2 = .mp 0 0
 e3:e 3 = .mp 1 0
 e5:e 5 = .i .i64 ((i:Nat):Int)
 e6:e 6 = .i .i64 ((k:Nat):Int)
 h0:g.hp 0 = some (.cells (pgA lc ths) false)
 h1:g.hp 1 = some (.cells (pgA lc ths) false)
 hn:1 < g.nx
structure SpM (lc:Int) (ths:List (List Ins)) (i:Nat) (e:Env) (g:G):Prop where
 e2:e 2 = .mp 0 0
 e3:e 3 = .mp 1 0
 e5:e 5 = .i .i64 ((i:Nat):Int)
 h0:g.hp 0 = some (.cells (pgA lc ths) false)
 h1:g.hp 1 = some (.cells (pgA lc ths) false)
 hn:1 < g.nx
theorem sp_sameP (h549:F 549 = some A_xref03_Same) (A:ChF F) {lc:Int} {ths:List (List Ins)} (hf:FewP ths):pureS F 549 [.agg (pgA lc ths),.agg (pgA lc ths)] = some (.b true):=by
 refine pure_of h549 ?_
 have hn6:=hf.n
 have ne:∀ x:Int,(x != x) = false:=fun x => by simp
 unfold pgA
 simp (disch:=omega) only[A_xref03_Same,wp,qa,qb,qc,gl,ne]
 refine blk_cutR (fun e g => True) ?_ ?_
 ·refine W_loop (fun q e g => ∃ i:Nat,q = ths.length - i∧SpO lc ths i e g) ths.length ?_ ?_
  ·exact ⟨0,rfl,Nat.zero_le _,rfl,rfl,rfl,rfl,rfl,by first | omega | (dsimp only;omega)⟩
  ·rintro q e g ⟨i,rfl,hi,e2,e3,e5,h0,h1,hn⟩
   unfold pgA at h0 h1
   by_cases d1:i < ths.length
   ·have d1':((i:Nat):Int) < ((ths.length:Nat):Int):=by omega
    have ha:=thA_at d1
    have hwi:=succ_wrap (k:=i) (by omega)
    have hth:=hf.len _ (th_mem d1)
    have hex:=hf.ex _ (th_mem d1)
    generalize ths.getD i [] = th at ha hth hex
    simp (disch:=omega) only[wp,qa,qb,qc,gl,e2,e3,e5,h0,h1,d1',ha,ne]
    refine blk_cutR2 (fun e g => SpM lc ths i e g) ?_ ?_
    ·refine W_loop (fun q e g => ∃ k:Nat,q = th.length - k∧SpI lc ths i k th e g) th.length ?_ ?_
     ·exact ⟨0,rfl,Nat.zero_le _,e2,e3,e5,rfl,h0,h1,by first | omega | (dsimp only;omega)⟩
     ·rintro q e g ⟨k,rfl,hk,e2,e3,e5,e6,h0,h1,hn⟩
      unfold pgA at h0 h1
      by_cases d2:k < th.length
      ·have d2':((k:Nat):Int) < ((th.length:Nat):Int):=by omega
       have hx:=ins_all d2
       have hwk:=succ_wrap (k:=k) (by omega)
       have hxe:=hex _ (in_mem d2)
       generalize th.getD k fence0 = x at hx hxe
       have hS:=sp_insSelf A.sins A.same x (by omega)
       obtain ⟨kd,md,md2,rg,lc',ex,n⟩:=x
       unfold insC exV at hx hS
       simp (disch:=omega) only[wp,qa,qb,qc,gl,e2,e3,e5,e6,h0,h1,d1',d2',ha,hx,frz_ag7,hS,hwk]
       exact ⟨th.length - (k + 1),by omega,k + 1,rfl,by omega,e2,e3,e5,rfl,h0,h1,by first | omega | (dsimp only;omega)⟩
      ·have d2':¬ ((k:Nat):Int) < ((th.length:Nat):Int):=by omega
       simp (disch:=omega) only[wp,qa,qb,qc,gl,e2,e3,e5,e6,h0,h1,d1',d2',ha]
       exact ⟨e2,e3,e5,h0,h1,by first | omega | (dsimp only;omega)⟩
    ·rintro e g ⟨e2,e3,e5,h0,h1,hn⟩
     simp (disch:=omega) only[wp,qa,qb,qc,gl,e5,hwi]
     exact ⟨ths.length - (i + 1),by omega,i + 1,rfl,by omega,e2,e3,rfl,h0,h1,by first | omega | (dsimp only;omega)⟩
   ·have d1':¬ ((i:Nat):Int) < ((ths.length:Nat):Int):=by omega
    simp (disch:=omega) only[wp,qa,qb,qc,gl,e2,e3,e5,h0,h1,d1']
 ·rintro e g -
  simp (disch:=omega) only[wp,qa,qb,qc]
theorem res_cell4 (n m:Nat) (e:Env) (g:G):resE [.cell n (some m)] e g = resC (some m) g (e n):=res_cell n (some m) e g
theorem sp_step (h551:F 551 = some A_xlaw00_Step) (h10:F 10 = some A_xlaw00_Place) (v:Int) {T:Nat} (hT:1≤T) (h8:T≤8):∃ (r:Int) (t:Nat) (a m:Int),t < T∧pureS F 551 [.i .i64 v,.i .i64 ((T:Nat):Int)] = some (.agg (stpC r ((t:Nat):Int) a m)):=by
 have hp:=sp_place h10 (v:=v) (n:=1073741824) (by omega) (by omega)
 obtain ⟨p0,p1⟩:=place_lt (v:=v) (n:=1073741824) (by omega)
 generalize place v 1073741824 = k at hp p0 p1
 have r1:=r_nat (x:=k) (y:=8) p0 (by omega)
 have q1:=q_nat (x:=k) (y:=8) p0 (by omega) (by omega)
 have hd:0≤k / 8∧k / 8 < 1073741824:=by omega
 have r2:=r_nat (x:=k / 8) (y:=((T:Nat):Int)) (by omega) (by omega)
 have q2:=q_nat (x:=k) (y:=64) p0 (by omega) (by omega)
 have r3:=r_nat (x:=k / 64) (y:=5) (by omega) (by omega)
 have q3:=q_nat (x:=k) (y:=512) p0 (by omega) (by omega)
 have r4:=r_nat (x:=k / 512) (y:=4) (by omega) (by omega)
 have w1:IntKind.i64.wrap (1 + k % 8) = 1 + k % 8:=i64_wrap (by omega) (by omega)
 have w2:IntKind.i64.wrap (1 + k / 512 % 4) = 1 + k / 512 % 4:=i64_wrap (by omega) (by omega)
 have tl:0≤k / 8 % ((T:Nat):Int)∧k / 8 % ((T:Nat):Int) < ((T:Nat):Int):=⟨Int.emod_nonneg _ (by omega),Int.emod_lt_of_pos _ (by omega)⟩
 have rz:List.replicate 4 (AV.i .i64 0) = [.i .i64 0,.i .i64 0,.i .i64 0,.i .i64 0]:=rfl
 have sp4:∀ a b c d a' b' c' d':AV,splice [a,b,c,d] 0 [a',b',c',d'] = [a',b',c',d']:=fun _ _ _ _ _ _ _ _ => rfl
 have p4:∀ a b c d:AV,part [a,b,c,d] 0 (some 4) = some (.agg [a,b,c,d]):=fun _ _ _ _ => rfl
 generalize hr:1 + k % 8 = r at w1
 generalize ht:k / 8 % ((T:Nat):Int) = t at r2 tl
 have hex:∀ x:AV,(x = .agg (stpC r t (k / 64 % 5) 0)∨x = .agg (stpC r t (k / 64 % 5) (1 + k / 512 % 4)))→pureS F 551 [.i .i64 v,.i .i64 ((T:Nat):Int)] = some x→∃ (r:Int) (t:Nat) (a m:Int),t < T∧pureS F 551 [.i .i64 v,.i .i64 ((T:Nat):Int)] = some (.agg (stpC r ((t:Nat):Int) a m)):=by
  intro x hx h
  have et:((t.toNat:Nat):Int) = t:=by omega
  rcases hx with rfl | rfl
  ·exact ⟨r,t.toNat,k / 64 % 5,0,by omega,by rw[et];exact h⟩
  ·exact ⟨r,t.toNat,k / 64 % 5,1 + k / 512 % 4,by omega,by rw[et];exact h⟩
 cases c1:(r == 6) with
 | true =>
   refine hex _ (.inr rfl) (pure_of h551 ?_)
   unfold stpC
   simp (disch:=omega) only[A_xlaw00_Step,wp,qa,qb,qc,gl,hp,r1,q1,r2,q2,r3,q3,r4,hr,w1,w2,rz,sp4,p4,c1,f4s,v4s,res_cell4,resC]
 | false =>
 cases c2:(r == 7) with
 | true =>
   refine hex _ (.inr rfl) (pure_of h551 ?_)
   unfold stpC
   simp (disch:=omega) only[A_xlaw00_Step,wp,qa,qb,qc,gl,hp,r1,q1,r2,q2,r3,q3,r4,hr,w1,w2,rz,sp4,p4,c1,c2,f4s,v4s,res_cell4,resC]
 | false =>
   refine hex _ (.inl rfl) (pure_of h551 ?_)
   unfold stpC
   simp (disch:=omega) only[A_xlaw00_Step,wp,qa,qb,qc,gl,hp,r1,q1,r2,q2,r3,q3,r4,hr,w1,w2,rz,sp4,p4,c1,c2,f4s,v4s,res_cell4,resC]
end Go.Ab
end
section
set_option linter.unusedVariables false
set_option linter.unusedSimpArgs false
namespace Go.Ab
variable {F:Funs}
theorem ext0 (a b:AV):[a,b][0]? = some a:=rfl
theorem ext1 (a b:AV):[a,b][1]? = some b:=rfl
structure RLawF (F:Funs):Prop where
 rul:RulF F
 r24:R24F F
 pg:ProgF F
 prog:F 86 = some A_xlaw00_Prog
 few:F 546 = some A_xlaw00_FewProg
 step:F 551 = some A_xlaw00_Step
 same:F 549 = some A_xref03_Same
 sameI:F 296 = some A_xref06_SameInts
 aw:pureS F 289 [] = some (.b true)
theorem few_chk {lc:Int} {ths:List (List Ins)} (h:chkP lc ths = 0):FewP ths:=by
 obtain ⟨_,_,_,h1,h2,_⟩:=chk_ok h
 refine ⟨?_,fun th ht => ?_,fun th ht x hx => ?_⟩
 ·unfold bgP at h2
  rw[Bool.or_eq_false_iff] at h2
  have:=h2.1
  rw[decide_eq_false_iff_not] at this
  omega
 ·have:=(wf_of h ht).len;omega
 ·have:=(wf_of h ht).ex x hx;omega
theorem few_app {lc:Int} {ths:List (List Ins)} (hf:FewP ths) (r t a m:Int):FewP (appP lc ths r t a m).1:=by
 unfold appP
 split
 ·exact hf
 rename_i c0
 have c0:chkP lc ths = 0:=by simpa using c0
 split
 ·exact hf
 rename_i c1
 have c1:canP lc ths r t a m = true:=by simpa using c1
 have hC:=canP_inv c1
 split
 ·exact hf
 ·exact few_set hf (turnI_few (wf_of c0 (th_mem hC.hi)) _ hC.hk m)
theorem chk_app {lc:Int} {ths:List (List Ins)} (h:chkP lc ths = 0) (r t a m:Int):chkP lc (appP lc ths r t a m).1 = 0∧(appP lc ths r t a m).1.length = ths.length:=by
 unfold appP
 split
 ·exact ⟨h,rfl⟩
 split
 ·exact ⟨h,rfl⟩
 split
 ·exact ⟨h,rfl⟩
 ·rename_i c
  exact ⟨by simpa using c,by rw[List.length_set]⟩
theorem insK_ex {left:Int} {x:Ins} (h:InsK left x):x.ex.length≤12:=by
 cases h with
 | ld => simp
 | st md lc ex h1 h3 he => obtain ⟨_,_,_,_,h⟩:=exOk_regs he;dsimp only;omega
 | fe => simp
 | fa => simp
 | se rg ex h2 he => obtain ⟨_,_,_,_,h⟩:=exOk_regs he;dsimp only;omega
 | sk ex n he h0 h1 => obtain ⟨_,_,_,_,h⟩:=exOk_regs he;dsimp only;omega
theorem pgk_chk (A:ChF F) {ths:List (List Ins)} {L:Nat} (P:PgK ths L):chkP 2 ths = 0:=by
 have hf:FewP ths:=by
  refine ⟨by have:=P.four;omega,fun th ht => ?_,fun th ht x hx => ?_⟩
  ·obtain ⟨i,hi,rfl⟩:=List.getElem_of_mem ht
   have:=(P.th i hi).len
   rw[th_get hi] at this
   omega
  ·obtain ⟨i,hi,rfl⟩:=List.getElem_of_mem ht
   obtain ⟨k,hk,rfl⟩:=List.getElem_of_mem hx
   have:=(P.th i hi).ins k (by rw[th_get hi];exact hk)
   rw[th_get hi,ins_get hk] at this
   exact insK_ex this
 have h1:=sp4_check A P
 have h2:=sp_rCheck A (lc:=2) hf
 have h2:pureS F 87 [.agg [.i .i64 2,.sl (thsC ths) ths.length .non]] = some (.i .i64 (chkP 2 ths)):=h2
 rw[h1] at h2
 generalize chkP 2 ths = z at h2 ⊢
 have h3:=Option.some.inj h2
 injection h3 with _ h4
 exact h4.symm
structure RnI (l steps:List Int) (id i:Nat) (T:Nat) (ths:List (List Ins)) (e:Env) (g:G):Prop where
 hi:i≤steps.length
 e2:e 2 = .sl (intsC steps) steps.length .non
 e7:e 7 = .mp id 0
 e8:e 8 = .i .i64 ((i:Nat):Int)
 hb:g.hp id = some (.cells (pgA 2 ths) false)
 hn:id < g.nx
 c0:chkP 2 ths = 0
 len:ths.length = T
structure RnE (id:Nat) (ths:List (List Ins)) (e:Env) (g:G):Prop where
 e7:e 7 = .mp id 0
 hb:g.hp id = some (.cells (pgA 2 ths) false)
 hn:id < g.nx
 c0:chkP 2 ths = 0
theorem sp_rulesNum (A:RLawF F) (h545:F 545 = some A_xlaw24_RulesNumbers) (l steps:List Int) (x:Int) (hl:(l.length:Int)≤9223372036854775807):pureS F 545 [.sl (intsC l) l.length .non,.i .i64 x,.sl (intsC steps) steps.length .non] = some (.b true):=by
 refine pure_of h545 ?_
 have aw:=A.aw
 by_cases c1:18 < l.length
 ·have c1':(18:Int) < ((l.length:Nat):Int):=by omega
  simp (disch:=omega) only[A_xlaw24_RulesNumbers,wp,qa,qb,qc,gl,c1',aw]
 have c1':¬ (18:Int) < ((l.length:Nat):Int):=by omega
 by_cases c2:30 < steps.length
 ·have c2':(30:Int) < ((steps.length:Nat):Int):=by omega
  simp (disch:=omega) only[A_xlaw24_RulesNumbers,wp,qa,qb,qc,gl,c1',c2',aw]
 have c2':¬ (30:Int) < ((steps.length:Nat):Int):=by omega
 have hp:=sp_place A.pg.place (v:=x) (n:=3) (by omega) (by omega)
 obtain ⟨p0,p1⟩:=place_lt (v:=x) (n:=3) (by omega)
 generalize place x 3 = p at hp p0 p1
 have hw:IntKind.i64.wrap (1 + p) = ((1 + p.toNat:Nat):Int):=by rw[i64_wrap (by omega) (by omega)];omega
 obtain ⟨ths,hpg,hlen,hth⟩:=sp_prog A.pg A.prog (l:=l) (T:=1 + p.toNat) (most:=6) (by omega) (by omega) (by omega) hl
 have hb6:ths.length≤3:=by omega
 have hpk:PgK ths 6:=⟨by omega,by omega,fun i hi => (hth i (by omega)).most,fun i hi => (hth i (by omega)).k (by omega),by omega⟩
 have hc0:=pgk_chk A.r24.ch hpk
 have hT1:1≤ths.length:=by omega
 have hT4:ths.length≤4:=by omega
 have hpg:pureS F 86 [.sl (intsC l) l.length .non,.i .i64 ((1 + p.toNat:Nat):Int),.i .i64 6] = some (.agg (pgA 2 ths)):=by
  unfold pgA;rw[hlen];exact hpg
 generalize 1 + p.toNat = T at hw hpg hlen
 have s2:∀ b1 b2 c1 c2:AV,splice [b1,b2] 0 [c1,c2] = [c1,c2]:=fun _ _ _ _ => rfl
 have hpg2:=hpg
 rw[show pgA 2 ths = [.i .i64 2,.sl (thsC ths) ths.length .non] from rfl] at hpg2
 simp (disch:=omega) only[A_xlaw24_RulesNumbers,wp,qa,qb,qc,gl,c1',c2',hp,hw,hpg2,s2]
 refine blk_cutR (fun e g => ∃ id ths,RnE id ths e g) ?_ ?_
 ·refine W_loop (fun q e g => ∃ (id i:Nat) (ths2:List (List Ins)),q = steps.length - i∧RnI l steps id i ths.length ths2 e g) steps.length ?_ ?_
  ·refine ⟨_,0,ths,rfl,Nat.zero_le _,rfl,rfl,rfl,?_,?_,hc0,rfl⟩
   ·(simp (disch:=omega) only[upd_same,upd_ne]);try rfl
   ·first | omega | (dsimp only;omega)
  ·rintro q e g ⟨id,i,th2,rfl,hi,e2,e7,e8,hb,hn,c0,len⟩
   by_cases d1:i < steps.length
   ·have d1':((i:Nat):Int) < ((steps.length:Nat):Int):=by omega
    have hx:=ints_part d1
    have hwi:=succ_wrap (k:=i) (by omega)
    have hf:=few_chk c0
    generalize steps.getD i 0 = v at hx
    obtain ⟨r,t,a,m,ht,hs⟩:=sp_step A.step A.pg.place v (T:=th2.length) (by omega) (by omega)
    have h1:=sp_rapply A.rul (lc:=2) hf r ((t:Nat):Int) a m
    have h2:=sp_apply24 A.r24 (lc:=2) hf r ((t:Nat):Int) a m
    have h3:=sp_rcan A.rul (lc:=2) hf r ((t:Nat):Int) a m
    have h4:=sp_can24 A.r24 (lc:=2) hf r ((t:Nat):Int) a m
    have h5:=sp_sameP A.same A.r24.ch (lc:=2) (few_app (lc:=2) hf r ((t:Nat):Int) a m)
    obtain ⟨k1,k2⟩:=chk_app c0 r ((t:Nat):Int) a m
    have hwf:=wf_of c0 (th_mem ht)
    have g1:=sp_targets A.rul hwf
    have g2:=sp_rTargets A.r24 hwf
    have htl:=tgI_len hwf
    have g3:=sp_sameI A.sameI (tgI (th2.getD t [])) (tgI (th2.getD t [])) (by omega) (by omega) .non .non
    rw[decide_eq_true rfl] at g3
    have hth:=thA_at ht
    generalize tgI (th2.getD t []) = TG at g1 g2 g3
    generalize th2.getD t [] = l2 at hth g1 g2
    generalize canP 2 th2 r ((t:Nat):Int) a m = C at h3 h4
    generalize appP 2 th2 r ((t:Nat):Int) a m = Q at h1 h2 h5 k1 k2
    obtain ⟨q,er⟩:=Q
    unfold appV at h1 h2
    unfold pgA stpC at *
    dsimp only at *
    have rz:List.replicate 4 (AV.i .i64 0) = [.i .i64 0,.i .i64 0,.i .i64 0,.i .i64 0]:=rfl
    have sp4:∀ a b c d a' b' c' d':AV,splice [a,b,c,d] 0 [a',b',c',d'] = [a',b',c',d']:=fun _ _ _ _ _ _ _ _ => rfl
    have nee:(er != er) = false:=by simp
    cases C with
    | false =>
      simp (disch:=omega) only[wp,qa,qb,qc,gl,e2,e7,e8,hb,d1',hx,hs,rz,sp4,s2,p2m,p4m,f2p,v2p,f4s,v4s,h1,h2,h3,h4,h5,ext0,ext1,nee,hth,g1,g2,g3,hwi]
      refine ⟨steps.length - (i + 1),by omega,id,i + 1,q,rfl,by omega,e2,e7,rfl,?_,by first | omega | (dsimp only;omega),k1,by omega⟩
      (simp (disch:=omega) only[upd_same,upd_ne]);try rfl
    | true =>
      simp (disch:=omega) only[wp,qa,qb,qc,gl,e2,e7,e8,hb,d1',hx,hs,rz,sp4,s2,p2m,p4m,f2p,v2p,f4s,v4s,h1,h2,h3,h4,h5,ext0,ext1,nee,hth,g1,g2,g3,hwi]
      refine ⟨steps.length - (i + 1),by omega,id,i + 1,q,rfl,by omega,e2,e7,rfl,?_,by first | omega | (dsimp only;omega),k1,by omega⟩
      (simp (disch:=omega) only[upd_same,upd_ne]);try rfl
   ·have d1':¬ ((i:Nat):Int) < ((steps.length:Nat):Int):=by omega
    simp (disch:=omega) only[wp,qa,qb,qc,gl,e2,e8,d1']
    exact ⟨id,th2,e7,hb,by first | omega | (dsimp only;omega),c0⟩
 ·rintro e g ⟨id,th2,e7,hb,hn,c0⟩
  have hc:=sp_rCheck A.r24.ch (lc:=2) (few_chk c0)
  rw[c0] at hc
  have z0:((0:Int) == 0) = true:=rfl
  unfold pgA at *
  simp (disch:=omega) only[wp,qa,qb,qc,gl,e7,hb,p2m,f2p,v2p,hc,aw,z0]
end Go.Ab
end
section
set_option linter.unusedVariables false
set_option maxRecDepth 100000
namespace Go.Proofs.YtacmiicckhaagaaGreat
open Go.Ab
theorem len_421 (n:Nat) (h:n≤12):∃ v:Int,pureS funs 421 [.i .u64 ((n:Nat):Int)] = some (.i .i64 v):=by
 obtain rfl | rfl | rfl | rfl | rfl | rfl | rfl | rfl | rfl | rfl | rfl | rfl | rfl:n = 0∨n = 1∨n = 2∨n = 3∨n = 4∨n = 5∨n = 6∨n = 7∨n = 8∨n = 9∨n = 10∨n = 11∨n = 12:=by omega
 ·exact ⟨0,pure_evalv (orc0_ok funs) 1000 rfl (by kernel_rfl)⟩
 ·exact ⟨1,pure_evalv (orc0_ok funs) 1000 rfl (by kernel_rfl)⟩
 ·exact ⟨2,pure_evalv (orc0_ok funs) 1000 rfl (by kernel_rfl)⟩
 ·exact ⟨2,pure_evalv (orc0_ok funs) 1000 rfl (by kernel_rfl)⟩
 ·exact ⟨3,pure_evalv (orc0_ok funs) 1000 rfl (by kernel_rfl)⟩
 ·exact ⟨3,pure_evalv (orc0_ok funs) 1000 rfl (by kernel_rfl)⟩
 ·exact ⟨3,pure_evalv (orc0_ok funs) 1000 rfl (by kernel_rfl)⟩
 ·exact ⟨3,pure_evalv (orc0_ok funs) 1000 rfl (by kernel_rfl)⟩
 ·exact ⟨4,pure_evalv (orc0_ok funs) 1000 rfl (by kernel_rfl)⟩
 ·exact ⟨4,pure_evalv (orc0_ok funs) 1000 rfl (by kernel_rfl)⟩
 ·exact ⟨4,pure_evalv (orc0_ok funs) 1000 rfl (by kernel_rfl)⟩
 ·exact ⟨4,pure_evalv (orc0_ok funs) 1000 rfl (by kernel_rfl)⟩
 ·exact ⟨4,pure_evalv (orc0_ok funs) 1000 rfl (by kernel_rfl)⟩
theorem srtI:SrtI funs:=⟨rfl,rfl,rfl,rfl,rfl,rfl,rfl,rfl,len_421⟩
theorem sndF:SndF funs:=⟨srtI,rfl,rfl,rfl,rfl,rfl,rfl,rfl,rfl,rfl,rfl,rfl,rfl⟩
theorem exprF24:ExprF funs:=⟨rfl,rfl,rfl,rfl,rfl,rfl,rfl,rfl,rfl,rfl,rfl⟩
theorem rulF:RulF funs:=⟨sndF,exprF24,rfl,rfl,rfl,rfl,rfl,rfl,rfl,rfl,rfl,rfl,rfl,rfl,rfl,rfl,rfl,rfl,rfl,rfl,rfl,rfl,rfl,rfl,rfl,rfl,rfl,rfl,rfl,rfl,rfl,rfl,rfl,rfl⟩
theorem chF24:ChF funs:=⟨⟨rfl,rfl,rfl,rfl,rfl⟩,rfl,rfl,rfl,rfl,rfl,rfl,rfl⟩
theorem r24F:R24F funs:=⟨chF24,rfl,⟨rfl,rfl,rfl,rfl,rfl,rfl,rfl,rfl,rfl,rfl,rfl,rfl,rfl,rfl⟩⟩
theorem awake24:pureS funs 289 [] = some (.b true):=pure_eval (orc0_ok funs) 2000 (fn:=A_xlaw24_awake) rfl (by kernel_rfl)
theorem rLawF:RLawF funs:=⟨rulF,r24F,⟨rfl,rfl,rfl,rfl,rfl,rfl⟩,rfl,rfl,rfl,rfl,rfl,awake24⟩
theorem rulesNumbers_law (l steps:List Int) (x:Int) (hl:l.length≤Go.maxLen):pureS funs 545 [.sl (intsC l) l.length .non,.i .i64 x,.sl (intsC steps) steps.length .non] = some (.b true):=sp_rulesNum rLawF rfl l steps x (by have:Go.maxLen = 9223372036854775807:=rfl;omega)
end Go.Proofs.YtacmiicckhaagaaGreat
end
