/- What OrderMore rests on, part 4: lemmas, no claim of its own. -/
import Derived.Test.YthafjhelijmpcaaGreatPOrderMore3
set_option maxRecDepth 100000
set_option maxHeartbeats 16000000
open Nat renaming reduceAdd → qa, reduceMul → qb, reduceSub → qc
section
namespace Go.Ab
def A_cmp_Compare_int:AFun:={ res:=[.t 4],body:=(.seq (.reg false [qo 4 (.mv (.c (.i .i64 0)))])
 (.seq (.reg false [qm 7 0,qo 8 (.call .pure (.c (.fn 266 [] [])) [.t 7]),qm 5 8])
 (.seq (.reg false [qm 9 1,qo 10 (.call .pure (.c (.fn 266 [] [])) [.t 9]),qm 6 10])
 (.seq (.seq (.reg false [qm 11 5])
 (.cond (.t 11) (.seq (.seq (.reg false [qm 12 6])
 (.cond (.t 12) (.seq (.reg false [qo 4 (.mv (.c (.i .i64 0)))])
 .ret)
 .skip))
 (.seq (.reg false [qo 4 (.mv (.c (.i .i64 (-1))))])
 .ret))
 .skip))
 (.seq (.seq (.reg false [qm 13 6])
 (.cond (.t 13) (.seq (.reg false [qo 4 (.mv (.c (.i .i64 1)))])
 .ret)
 .skip))
 (.seq (.seq (.reg false [qm 14 0,qm 15 1,qo 16 (.bin .lss (.t 14) (.t 15))])
 (.cond (.t 16) (.seq (.reg false [qo 4 (.mv (.c (.i .i64 (-1))))])
 .ret)
 .skip))
 (.seq (.seq (.reg false [qm 17 0,qm 18 1,qo 19 (.bin .gtr (.t 17) (.t 18))])
 (.cond (.t 19) (.seq (.reg false [qo 4 (.mv (.c (.i .i64 1)))])
 .ret)
 .skip))
 (.seq (.reg false [qo 4 (.mv (.c (.i .i64 0)))])
 .ret)))))))) }
def A_cmp_Or_int:AFun:={ res:=[.t 2],body:=(.seq (.reg false [qo 2 (.mv (.c (.i .i64 0)))])
 (.seq (.reg false [qo 3 (.mv (.c (.i .i64 0)))])
 (.seq (.seq (.reg false [qm 6 0,qo 7 (.len (.t 6)),qo 8 (.mv (.c (.i .i64 0)))])
 (.blk 0 (.loop (.seq (.reg false [qo 9 (.bin .lss (.t 8) (.t 7))])
 (.seq (.cond (.t 9) .skip
 (.ext 0))
 (.seq (.blk 1 (.seq (.reg false [qo 10 (.ia 1 (.t 6) (.t 8)),qo 11 (.ld none (.t 10)),qm 5 11])
 (.seq (.reg false [qm 12 5,qm 13 3,qo 14 (.bin .neq (.t 12) (.t 13))])
 (.cond (.t 14) (.seq (.reg false [qm 15 5,qm 2 15])
 .ret)
 .skip))))
 (.reg false [qo 16 (.bin .add (.t 8) (.c (.i .i64 1))),qm 8 16])))))))
 (.seq (.reg false [qm 17 3,qm 2 17])
 .ret)))) }
def A_cmp_isNaN_int:AFun:={ res:=[.t 2],body:=(.seq (.reg false [qo 2 (.mv (.c (.b false)))])
 (.seq (.reg false [qm 3 0,qm 4 0,qo 5 (.bin .neq (.t 3) (.t 4)),qm 2 5])
 .ret)) }
structure Pk_cmp (F:Funs):Prop where
 cmp_Compare_int:F 248 = some A_cmp_Compare_int
 cmp_Or_int:F 249 = some A_cmp_Or_int
 cmp_isNaN_int:F 266 = some A_cmp_isNaN_int
end Go.Ab
end
section
set_option linter.unusedVariables false
set_option linter.unusedSimpArgs false
namespace Go.Ab
variable {F:Funs}
structure LenG (X:Gr):Prop where
 fl:X.co.flatten.length≤1000
 col:X.co.length≤1000
 cos:∀ k,(X.co.getD k []).length≤1000
 rmw:X.rmw.length≤1000
 data:X.data.length≤1000
 ctrl:X.ctrl.length≤1000
 ctrli:X.ctrli.length≤1000
theorem flat_le:∀ {l:List (List Int)} {m:Nat},(∀ c∈l,c.length≤m)→l.flatten.length≤l.length * m
 | [],_,_ => by simp
 | c :: l,m,h => by
   have h1:=flat_le (l:=l) (m:=m) fun c hc => h c (List.mem_cons_of_mem _ hc)
   have h2:=h c (List.mem_cons_self ..)
   rw[List.flatten_cons,List.length_append,List.length_cons,Nat.succ_mul]
   omega
theorem FewG.len {X:Gr} (h:FewG X):LenG X:=by
 have h1:=flat_le h.cos
 have h2:=h.co
 have h3:X.co.length * 50≤6 * 50:=Nat.mul_le_mul_right _ h2
 refine ⟨by omega,by omega,fun k => ?_,by have:=h.rmw;omega,by have:=h.data;omega,by have:=h.ctrl;omega,by have:=h.ctrli;omega⟩
 by_cases hk:k < X.co.length
 ·have hm:X.co.getD k []∈X.co:=by
   rw[List.getD_eq_getElem?_getD,List.getElem?_eq_getElem hk];exact List.getElem_mem hk
  have:=h.cos _ hm;omega
 ·rw[List.getD_eq_getElem?_getD,List.getElem?_eq_none (by omega)];simp
end Go.Ab
end
section
set_option linter.unusedVariables false
set_option linter.unusedSimpArgs false
namespace Go.Ab
def wE (i:Nat):Ev:=⟨0,2,0,(i:Int),0,false⟩
end Go.Ab
end
section
set_option linter.unusedVariables false
set_option linter.unusedSimpArgs false
namespace Go.Ab
def movI (l:List (Int × Int)) (n:Int):List (Int × Int):=l.map fun p => (p.1 + n,p.2 + n)
def thE (t:Int) (e:Ev):Ev:={ e with th:=t }
def layX (X:Gr) (s:RS) (t:Int):Gr:=⟨X.locs,X.evs ++ s.evs.map (thE t),X.rf,X.co,X.rmw ++ movI s.rmw X.evs.length,X.data ++ movI s.data X.evs.length,X.ctrl ++ movI s.ctrl X.evs.length,X.ctrli⟩
def sk0:Gr:=⟨2,[wE 0,wE 1],[],[],[],[],[],[]⟩
def EvS (e:Ev):Prop:=(e.kd = 1∧(e.lc = 0∨e.lc = 1)∧(e.md = 0∨e.md = 1))∨(e.kd = 2∧(e.lc = 0∨e.lc = 1)∧(e.md = 0∨e.md = 2))∨(e.kd = 3∧1≤e.md∧e.md≤4∧e.lc = 0∧e.vl = 0∧e.ex = false)
theorem getD_thE {es:List Ev} {t:Int} {i:Nat} (h:i < es.length):(es.map (thE t)).getD i ev0 = thE t (es.getD i ev0):=by
 rw[List.getD_eq_getElem?_getD,List.getElem?_map,List.getD_eq_getElem?_getD,List.getElem?_eq_getElem h]
 rfl
theorem getD_lay {pre es:List Ev} {t:Int} {i:Nat} (h:i < es.length):(pre ++ es.map (thE t)).getD (i + pre.length) ev0 = thE t (es.getD i ev0):=by
 rw[Nat.add_comm,getD_r,getD_thE h]
theorem toNat_add {x:Int} {n:Nat} (h:0≤x):(x + (n:Int)).toNat = x.toNat + n:=by omega
theorem mov_pw {l:List (Int × Int)} {n:Int} (h:l.Pairwise lessP):(movI l n).Pairwise lessP:=by
 unfold movI
 rw[List.pairwise_map]
 refine h.imp fun {a b} hab => ?_
 unfold lessP at *
 simp only
 omega
theorem mov_mem {l:List (Int × Int)} {n:Int} {p:Int × Int} (h:p∈movI l n):∃ q∈l,p = (q.1 + n,q.2 + n):=by
 obtain ⟨q,h1,h2⟩:=List.mem_map.1 h
 exact ⟨q,h1,h2.symm⟩
theorem DpL.lay {pre es:List Ev} {l m:List (Int × Int)} {t:Int} (h:DpL pre l) (k:DpL es m):DpL (pre ++ es.map (thE t)) (l ++ movI m pre.length):=by
 refine ⟨fun p hp => ?_,?_⟩
 ·rcases List.mem_append.1 hp with hp | hp
  ·exact (h.mono).1 p hp
  ·obtain ⟨q,hq,rfl⟩:=mov_mem hp
   obtain ⟨h0,h1,h2,h3,h4⟩:=k.1 q hq
   have e1:(q.1 + (pre.length:Int)).toNat = q.1.toNat + pre.length:=toNat_add h0
   have e2:(q.2 + (pre.length:Int)).toNat = q.2.toNat + pre.length:=toNat_add (by omega)
   refine ⟨by simp only;omega,by simp only;omega,by simp only[List.length_append,List.length_map];omega,?_,?_⟩
   ·simp only[e1]
    rw[getD_lay (by omega)]
    exact h3
   ·simp only[e1,e2]
    rw[getD_lay (by omega),getD_lay (by omega)]
    rfl
 ·refine List.pairwise_append.2 ⟨h.2,mov_pw k.2,fun p hp q hq => ?_⟩
  obtain ⟨h0,h1,h2,_⟩:=h.1 p hp
  obtain ⟨q,hq',rfl⟩:=mov_mem hq
  obtain ⟨k0,_⟩:=k.1 q hq'
  unfold lessP
  simp only
  omega
theorem inC_mov {l:List (Int × Int)} {n i:Nat}:inC (movI l n) (i + n) = inC l i:=by
 unfold inC movI
 rw[List.filter_map,List.length_map]
 congr 1
 refine List.filter_congr fun p hp => ?_
 simp only[Function.comp,inB]
 have e1:(p.1 + (n:Int) == ((i + n:Nat):Int)) = (p.1 == (i:Int)):=by
  rw[Bool.eq_iff_iff];simp only[beq_iff_eq];omega
 have e2:(p.2 + (n:Int) == ((i + n:Nat):Int)) = (p.2 == (i:Int)):=by
  rw[Bool.eq_iff_iff];simp only[beq_iff_eq];omega
 rw[e1,e2]
theorem RmL.lay {pre es:List Ev} {l m:List (Int × Int)} {t:Int} (h:RmL pre l) (k:RmL es m):RmL (pre ++ es.map (thE t)) (l ++ movI m pre.length):=by
 refine ⟨fun p hp => ?_,fun i hi => ?_,?_,?_⟩
 ·rcases List.mem_append.1 hp with hp | hp
  ·exact (h.pairs p hp).mono
  ·obtain ⟨q,hq,rfl⟩:=mov_mem hp
   obtain ⟨h0,h1,h2,h3,h4⟩:=k.pairs q hq
   have e1:(q.1 + (pre.length:Int)).toNat = q.1.toNat + pre.length:=toNat_add h0
   have e2:(q.2 + (pre.length:Int)).toNat = q.2.toNat + pre.length:=toNat_add (by omega)
   refine ⟨by simp only;omega,by simp only;omega,by simp only[List.length_append,List.length_map];omega,?_⟩
   simp only[e1,e2]
   rw[getD_lay (by omega),getD_lay (by omega)]
   exact ⟨rfl,h4⟩
 ·rw[inC_app]
  rw[List.length_append,List.length_map] at hi
  by_cases c:i < pre.length
  ·have hz:inC (movI m pre.length) i = 0:=inC_zero fun p hp => by
    obtain ⟨q,hq,rfl⟩:=mov_mem hp
    obtain ⟨h0,h1,_⟩:=k.pairs q hq
    simp only
    omega
   rw[hz,getD_l c]
   exact h.once i c
  ·have hz:inC l i = 0:=inC_zero fun p hp => by
    obtain ⟨h0,h1,h2,_⟩:=h.pairs p hp
    omega
   obtain ⟨j,rfl⟩:∃ j,i = j + pre.length:=⟨i - pre.length,by omega⟩
   rw[hz,inC_mov,getD_lay (by omega),Nat.zero_add]
   exact k.once j (by omega)
 ·refine List.pairwise_append.2 ⟨h.rise,mov_pw k.rise,fun p hp q hq => ?_⟩
  obtain ⟨h0,h1,h2,_⟩:=h.pairs p hp
  obtain ⟨q,hq',rfl⟩:=mov_mem hq
  obtain ⟨k0,_⟩:=k.pairs q hq'
  unfold lessP
  simp only
  omega
 ·have:=h.len
  have:=k.len
  simp only[List.length_append,List.length_map,movI]
  omega
structure SkInv (X:Gr) (t:Int):Prop where
 locs:X.locs = 2
 two:∃ rest,X.evs = [wE 0,wE 1] ++ rest∧∀ e∈rest,1≤e.th∧e.th≤t∧EvS e
 th:X.evs.Pairwise fun a b => a.th≤b.th
 rmw:RmL X.evs X.rmw
 data:DpL X.evs X.data
 ctrl:DpL X.evs X.ctrl
 ctrli:X.ctrli = []
 dl:X.data.length≤X.evs.length * X.evs.length
 cl:X.ctrl.length≤X.evs.length * X.evs.length
theorem sk0_inv:SkInv sk0 0:=
 ⟨rfl,⟨[],rfl,fun e he => absurd he (List.not_mem_nil)⟩,by simp[sk0,wE],⟨fun p hp => absurd hp (List.not_mem_nil),fun i hi => by
  have:i = 0∨i = 1:=by have:(sk0.evs.length) = 2:=rfl;omega
  rcases this with rfl | rfl<;>exact ⟨Nat.zero_le _,rfl⟩,List.Pairwise.nil,Nat.zero_le _⟩,⟨fun p hp => absurd hp (List.not_mem_nil),List.Pairwise.nil⟩,⟨fun p hp => absurd hp (List.not_mem_nil),List.Pairwise.nil⟩,rfl,Nat.zero_le _,Nat.zero_le _⟩
theorem sq_add {a b m k:Nat} (h:a≤m * m) (h2:b≤k * k):a + b≤(m + k) * (m + k):=by
 have:(m + k) * (m + k) = m * m + m * k + (k * m + k * k):=by rw[Nat.add_mul,Nat.mul_add,Nat.mul_add]
 omega
theorem SkInv.lay {X:Gr} {t:Int} {s:RS} (h:SkInv X t) (h0:0≤t) (k:RInv s):SkInv (layX X s (t + 1)) (t + 1):=by
 obtain ⟨rest,h2,h3⟩:=h.two
 refine ⟨h.locs,⟨rest ++ s.evs.map (thE (t + 1)),by rw[show (layX X s (t + 1)).evs = X.evs ++ s.evs.map (thE (t + 1)) from rfl,h2,List.append_assoc],fun e he => ?_⟩,?_,h.rmw.lay k.rmw,h.data.lay k.b.data,h.ctrl.lay k.b.ctrl,h.ctrli,?_,?_⟩
 ·rcases List.mem_append.1 he with he | he
  ·obtain ⟨a,b,c⟩:=h3 e he
   exact ⟨a,by omega,c⟩
  ·obtain ⟨e',he',rfl⟩:=List.mem_map.1 he
   exact ⟨by show 1≤t + 1;omega,Int.le_refl _,(k.b.ev e' he').2⟩
 ·refine List.pairwise_append.2 ⟨h.th,?_,fun a ha b hb => ?_⟩
  ·rw[List.pairwise_map]
   exact List.pairwise_iff_getElem.2 fun i j hi hj hij => Int.le_refl _
  ·obtain ⟨e',he',rfl⟩:=List.mem_map.1 hb
   show a.th≤t + 1
   rw[h2] at ha
   rcases List.mem_append.1 ha with ha | ha
   ·have:a = wE 0∨a = wE 1:=by simpa using ha
    rcases this with rfl | rfl<;>(show (0:Int)≤_;omega)
   ·have:=(h3 a ha).2.1;omega
 ·show (X.data ++ movI s.data X.evs.length).length≤(X.evs ++ s.evs.map (thE (t + 1))).length * (X.evs ++ s.evs.map (thE (t + 1))).length
  simp only[List.length_append,List.length_map,movI]
  exact sq_add h.dl k.b.dl
 ·show (X.ctrl ++ movI s.ctrl X.evs.length).length≤(X.evs ++ s.evs.map (thE (t + 1))).length * (X.evs ++ s.evs.map (thE (t + 1))).length
  simp only[List.length_append,List.length_map,movI]
  exact sq_add h.cl k.b.cl
theorem pw_rising {l:List (Int × Int)} (h:l.Pairwise lessP):Rising l:=by
 intro i hi
 rw[List.getD_eq_getElem?_getD,List.getD_eq_getElem?_getD,List.getElem?_eq_getElem (by omega),List.getElem?_eq_getElem hi]
 exact List.pairwise_iff_getElem.1 h i (i + 1) (by omega) hi (by omega)
theorem getD_mem {α:Type} {l:List α} {i:Nat} {d:α} (h:i < l.length):l.getD i d∈l:=by
 rw[List.getD_eq_getElem?_getD,List.getElem?_eq_getElem h]
 exact List.getElem_mem h
theorem SkInv.ev {X:Gr} {t:Int} (h:SkInv X t) (h4:t≤4) {i:Nat} (hi:i < X.evs.length):EvOk X.locs i (X.evs.getD (i - 1) ev0) (X.evs.getD i ev0):=by
 obtain ⟨rest,h2,h3⟩:=h.two
 rw[h.locs]
 refine ⟨fun hl => ?_,fun hl => ?_⟩
 ·have:i = 0∨i = 1:=by omega
  rw[h2]
  rcases this with rfl | rfl<;>exact ⟨rfl,rfl,rfl,rfl,rfl,rfl⟩
 ·obtain ⟨j,rfl⟩:∃ j,i = 2 + j:=⟨i - 2,by omega⟩
  have he:X.evs.getD (2 + j) ev0 = rest.getD j ev0:=by
   rw[h2];exact getD_r (es:=[wE 0,wE 1])
  have hj:j < rest.length:=by rw[h2] at hi;simp at hi;omega
  obtain ⟨a,b,c⟩:=h3 _ (getD_mem (d:=ev0) hj)
  have hp:(X.evs.getD (2 + j - 1) ev0).th≤(X.evs.getD (2 + j) ev0).th:=by
   rw[List.getD_eq_getElem?_getD,List.getD_eq_getElem?_getD,List.getElem?_eq_getElem (by omega),List.getElem?_eq_getElem hi]
   exact List.pairwise_iff_getElem.1 h.th (2 + j - 1) (2 + j) (by omega) hi (by omega)
  rw[he] at hp ⊢
  refine ⟨a,by omega,hp,?_⟩
  rcases c with ⟨c1,c2,c3⟩ | ⟨c1,c2,c3⟩ | c
  ·exact .inl ⟨c1,by omega,by omega,c3⟩
  ·exact .inr (.inl ⟨c1,by omega,by omega,c3⟩)
  ·exact .inr (.inr c)
theorem DpL.ok {X:Gr} {l} (h:DpL X.evs l):DepsOk X l:=⟨fun i hi => h.1 _ (getD_mem hi),pw_rising h.2⟩
theorem SkInv.ok {X:Gr} {t:Int} (h:SkInv X t) (h4:t≤4) (hn:X.evs.length≤14) (hr:X.rf.length = X.evs.length) (hrf:∀ i,i < X.evs.length→RfOk X i) (hc:X.co.length = 2) (hco:∀ i,i < 2→CoOk X i):FewG X∧GraphOk X:=by
 have hl2:2≤X.evs.length:=by obtain ⟨rest,h2,_⟩:=h.two;rw[h2];simp
 have hm:=h.rmw.len
 have hsq:X.evs.length * X.evs.length≤14 * 14:=Nat.mul_le_mul hn hn
 have hd:=h.dl
 have hcl:=h.cl
 refine ⟨⟨by omega,by omega,by omega,fun c hc' => ?_,by omega,by omega,by omega,by rw[h.ctrli];simp⟩,⟨by rw[h.locs];omega,by rw[h.locs];omega,by rw[h.locs];omega,by omega,hr,by rw[h.locs,hc];rfl,fun i hi => h.ev h4 hi,hrf,fun i hi => hco i (by omega),⟨fun j hj => ?_,fun i hi => h.rmw.once i hi,pw_rising h.rmw.rise⟩,h.data.ok,h.ctrl.ok,by rw[h.ctrli];exact ⟨fun i hi => absurd hi (Nat.not_lt_zero _),fun i hi => absurd hi (Nat.not_lt_zero _)⟩⟩⟩
 ·obtain ⟨i,hi,rfl⟩:=List.mem_iff_getElem.1 hc'
  have h1:=(hco i (by omega)).len
  rw[List.getD_eq_getElem?_getD,List.getElem?_eq_getElem hi] at h1
  simp only[Option.getD_some] at h1
  have h2:=cntW_le X i X.evs.length
  omega
 ·obtain ⟨a,b,c,d⟩:=h.rmw.pairs _ (getD_mem (d:=(0,0)) hj)
  exact ⟨a,by omega,b,d⟩
end Go.Ab
end
section
set_option linter.unusedVariables false
set_option linter.unusedSimpArgs false
namespace Go.Ab
variable {F:Funs}
def wdB (p:Int × Int):Bool:=
 if p.1 = 1 then decide (-2147483648≤p.2) && decide (p.2≤2147483647) else if p.1 = 2 then decide (0≤p.2) && decide (p.2 < 8) else if p.1 = 3 then decide (1≤p.2) && decide (p.2≤6) else false
def chkG:List (Int × Int)→Nat→Option Nat
 | [],d => some d
 | p :: l,d => if wdB p = true then (if p.1 = 3 then (if d < 2 then none else chkG l (d - 1)) else chkG l (d + 1)) else none
theorem chkG_cons (p l d):chkG (p :: l) d = if wdB p = true then (if p.1 = 3 then (if d < 2 then none else chkG l (d - 1)) else chkG l (d + 1)) else none:=by simp only[chkG]
theorem chkG_nil (d):chkG [] d = some d:=by simp only[chkG]
def chkX (ex:List (Int × Int)):Bool:=match chkG ex 0 with
 | some d => decide (d = 1) && decide (ex.length≤9)
 | none => false
theorem sp_word (h:F 125 = some A_xref02_word) (p:Int × Int):pureS F 125 [.agg [.i .i64 p.1,.i .i64 p.2]] = some (.b (wdB p)):=by
 refine pure_of h ?_
 unfold wdB
 by_cases c1:p.1 = 1
 ·by_cases c2:-2147483648≤p.2
  ·by_cases c3:p.2≤2147483647<;>simp (disch:=omega) only[A_xref02_word,wp,qa,qb,qc,c1,c2,c3,if_true,Int.reduceBEq]
  ·simp (disch:=omega) only[A_xref02_word,wp,qa,qb,qc,c1,c2,if_true,Int.reduceBEq]
 have c1':(p.1 == 1) = false:=by simpa using c1
 by_cases c4:p.1 = 2
 ·by_cases c2:0≤p.2
  ·by_cases c3:p.2 < 8<;>simp (disch:=omega) only[A_xref02_word,wp,qa,qb,qc,c4,c2,c3,if_true,if_false,Int.reduceBEq,Int.reduceEq]
  ·simp (disch:=omega) only[A_xref02_word,wp,qa,qb,qc,c4,c2,if_true,if_false,Int.reduceBEq,Int.reduceEq]
 have c4':(p.1 == 2) = false:=by simpa using c4
 by_cases c5:p.1 = 3
 ·by_cases c2:1≤p.2
  ·by_cases c3:p.2≤6<;>simp (disch:=omega) only[A_xref02_word,wp,qa,qb,qc,c5,c2,c3,if_true,if_false,Int.reduceBEq,Int.reduceEq]
  ·simp (disch:=omega) only[A_xref02_word,wp,qa,qb,qc,c5,c2,if_true,if_false,Int.reduceBEq,Int.reduceEq]
 have c5':(p.1 == 3) = false:=by simpa using c5
 simp (disch:=omega) only[A_xref02_word,wp,qa,qb,qc,c1,c4,c5,c1',c4',c5',if_false]
theorem tk_drop:∀ {l:List (Int × Int)} {k:Nat} (h:k < l.length),(tkC l).drop (k * 2) = .i .i64 (l.getD k (0,0)).1 :: .i .i64 (l.getD k (0,0)).2 :: tkC (l.drop (k + 1))
 | a :: l,0,_ => by simp[tkC]
 | a :: l,k + 1,h => by
   have:=tk_drop (l:=l) (k:=k) (by simpa using h)
   simp only[tkC,List.flatMap_cons,Nat.add_mul,Nat.one_mul] at this ⊢
   rw[Nat.add_comm,←List.drop_drop]
   simpa using this
theorem tk_ag {l:List (Int × Int)} {k:Nat} (h:k < l.length):part ((tkC l).drop (k * 2)) 0 (some 2) = some (.agg [.i .i64 (l.getD k (0,0)).1,.i .i64 (l.getD k (0,0)).2]):=by
 rw[tk_drop h];simp[part]
theorem tk_k {l:List (Int × Int)} {k:Nat} (h:k < l.length):part ((tkC l).drop (k * 2)) 0 none = some (.i .i64 (l.getD k (0,0)).1):=by
 rw[tk_drop h];rfl
theorem tk_v {l:List (Int × Int)} {k:Nat} (h:k < l.length):part (((tkC l).drop (k * 2)).drop 1) 0 none = some (.i .i64 (l.getD k (0,0)).2):=by
 rw[tk_drop h];rfl
theorem tk_l {l:List (Int × Int)} {k:Nat} (h:k < l.length):2≤((tkC l).drop (k * 2)).length:=by
 rw[tk_drop h];simp
theorem drop_cons {α:Type} {l:List α} {d:α} {k:Nat} (h:k < l.length):l.drop k = l.getD k d :: l.drop (k + 1):=by
 rw[List.drop_eq_getElem_cons h,List.getD_eq_getElem?_getD,List.getElem?_eq_getElem h];rfl
theorem sp_exCheck (h109:F 109 = some A_xref02_Check) (h125:F 125 = some A_xref02_word) (ex:List (Int × Int)) (hl:ex.length≤1000000):pureS F 109 [exV ex] = some (.b (chkX ex)):=by
 refine pure_of h109 ?_
 unfold exV
 simp (disch:=omega) only[A_xref02_Check,wp,qa,qb,qc]
 refine blk_cutR (fun e g => ∃ d:Nat,e 0 = .sl (tkC ex) ex.length .non∧e 3 = .i .i64 ((d:Nat):Int)∧chkG ex 0 = some d) ?_ ?_
 ·refine W_loop (fun q e g => ∃ k d:Nat,q = ex.length - k∧k≤ex.length∧d≤k∧e 0 = .sl (tkC ex) ex.length .non∧e 3 = .i .i64 ((d:Nat):Int)∧e 4 = .i .i64 ((k:Nat):Int)∧chkG ex 0 = chkG (ex.drop k) d) ex.length ?_ ?_
  ·refine ⟨0,0,rfl,Nat.zero_le _,Nat.le_refl _,?_⟩
   simp (disch:=omega) only[wp,qa,qb,qc]
   exact ⟨rfl,rfl,rfl⟩
  ·rintro q e g ⟨k,d,rfl,hk,hd,e0,e3,e4,hc⟩
   by_cases c1:k < ex.length
   ·have c1':((k:Nat):Int) < ((ex.length:Nat):Int):=by omega
    have ha:=tk_ag c1
    have hkd:=tk_k c1
    have hl2:=tk_l c1
    have hw:=succ_wrap (k:=k) (by omega)
    have hwd:=succ_wrap (k:=d) (by omega)
    have hsp:=sp_word h125 (ex.getD k (0,0))
    have hdc:=drop_cons (d:=((0,0):Int × Int)) c1
    rw[hdc,chkG_cons] at hc
    generalize ex.getD k (0,0) = p at ha hkd hsp hc
    cases c2:wdB p with
    | false =>
      rw[c2] at hsp hc
      simp (disch:=omega) only[wp,qa,qb,qc,e0,e3,e4,c1',ha,hsp,Nat.mul_one,frz_ag2]
      unfold chkX
      rw[hc]
      simp
    | true =>
      rw[c2] at hsp hc
      rw[if_pos rfl] at hc
      by_cases c3:p.1 = 3
      ·rw[if_pos c3] at hc
       have c3':(p.1 != 3) = false:=by simpa using c3
       by_cases c4:d < 2
       ·rw[if_pos c4] at hc
        have c4':((d:Nat):Int) < 2:=by omega
        simp (disch:=omega) only[wp,qa,qb,qc,e0,e3,e4,c1',ha,hsp,hkd,c3',c4',frz_ag2]
        unfold chkX
        rw[hc]
       ·rw[if_neg c4] at hc
        have c4':¬ ((d:Nat):Int) < 2:=by omega
        have hs:IntKind.i64.wrap (((d:Nat):Int) - 1) = ((d - 1:Nat):Int):=by rw[i64_wrap (by omega) (by omega)];omega
        simp (disch:=omega) only[wp,qa,qb,qc,e0,e3,e4,c1',ha,hsp,hkd,c3',c4',hs,hw,frz_ag2]
        exact ⟨ex.length - (k + 1),by omega,k + 1,d - 1,rfl,by omega,by omega,rfl,rfl,hc⟩
      ·rw[if_neg c3] at hc
       have c3':(p.1 != 3) = true:=by simpa using c3
       simp (disch:=omega) only[wp,qa,qb,qc,e0,e3,e4,c1',ha,hsp,hkd,c3',hw,hwd,frz_ag2]
       exact ⟨ex.length - (k + 1),by omega,k + 1,d + 1,rfl,by omega,by omega,rfl,rfl,hc⟩
   ·have c1':¬ ((k:Nat):Int) < ((ex.length:Nat):Int):=by omega
    obtain rfl:k = ex.length:=by omega
    rw[List.drop_length] at hc
    simp (disch:=omega) only[wp,qa,qb,qc,e0,e3,e4,c1']
    exact ⟨d,rfl,hc⟩
 ·rintro e g ⟨d,e0,e3,hc⟩
  unfold chkX
  rw[hc]
  by_cases c1:d = 1
  ·subst c1
   have c2:((((1:Nat):Int)) == 1) = true:=rfl
   by_cases c3:ex.length≤9
   ·have c3':((ex.length:Nat):Int)≤9:=by omega
    simp (disch:=omega) only[wp,qa,qb,qc,e0,e3,c2,c3,c3']
   ·have c3':¬ ((ex.length:Nat):Int)≤9:=by omega
    simp (disch:=omega) only[wp,qa,qb,qc,e0,e3,c2,c3,c3']
  ·have c2:(((d:Nat):Int) == 1) = false:=by simp;omega
   simp (disch:=omega) only[wp,qa,qb,qc,e0,e3,c1,c2]
def xorI (a b:Int):Int:=IntKind.i64.wrap ((BitVec.ofInt IntKind.i64.bits a ^^^ BitVec.ofInt IntKind.i64.bits b).toNat:Nat)
theorem b_xor (a b:Int):abin .xor (.i .i64 a) (.i .i64 b) = some (.i .i64 (xorI a b)):=by simp[abin,ibin,xorI]
def doX (o a b:Int):Int:=
 if o = 1 then IntKind.i64.wrap (a + b) else if o = 2 then IntKind.i64.wrap (a - b) else if o = 3 then IntKind.i64.wrap (a * b) else if o = 4 then xorI a b else
  if o = 5 then (if a = b then 1 else 0) else if o = 6 then (if a < b then 1 else 0) else 0
theorem sp_do (h:F 128 = some A_xref02_Do) (o a b:Int):pureS F 128 [.i .i64 o,.i .i64 a,.i .i64 b] = some (.i .i64 (doX o a b)):=by
 refine pure_of h ?_
 unfold doX
 by_cases c1:o = 1
 ·simp (disch:=omega) only[A_xref02_Do,wp,qa,qb,qc,c1,if_true,Int.reduceBEq]
 have c1':(o == 1) = false:=by simpa using c1
 by_cases c2:o = 2
 ·simp (disch:=omega) only[A_xref02_Do,wp,qa,qb,qc,c2,if_true,if_false,Int.reduceBEq,Int.reduceEq]
 have c2':(o == 2) = false:=by simpa using c2
 by_cases c3:o = 3
 ·simp (disch:=omega) only[A_xref02_Do,wp,qa,qb,qc,c3,if_true,if_false,Int.reduceBEq,Int.reduceEq]
 have c3':(o == 3) = false:=by simpa using c3
 by_cases c4:o = 4
 ·simp (disch:=omega) only[A_xref02_Do,wp,qa,qb,qc,c4,if_true,if_false,Int.reduceBEq,Int.reduceEq,b_xor]
 have c4':(o == 4) = false:=by simpa using c4
 by_cases c5:o = 5
 ·subst c5
  by_cases c:a = b
  ·have c':(a == b) = true:=by simpa using c
   simp (disch:=omega) only[A_xref02_Do,wp,qa,qb,qc,c,c',if_true,if_false,Int.reduceBEq,Int.reduceEq]
  ·have c':(a == b) = false:=by simpa using c
   simp (disch:=omega) only[A_xref02_Do,wp,qa,qb,qc,c,c',if_true,if_false,Int.reduceBEq,Int.reduceEq]
 have c5':(o == 5) = false:=by simpa using c5
 by_cases c6:o = 6
 ·subst c6
  by_cases c:a < b
  ·simp (disch:=omega) only[A_xref02_Do,wp,qa,qb,qc,c,if_true,if_false,Int.reduceBEq,Int.reduceEq]
  ·simp (disch:=omega) only[A_xref02_Do,wp,qa,qb,qc,c,if_true,if_false,Int.reduceBEq,Int.reduceEq]
 have c6':(o == 6) = false:=by simpa using c6
 simp (disch:=omega) only[A_xref02_Do,wp,qa,qb,qc,c1,c2,c3,c4,c5,c6,c1',c2',c3',c4',c5',c6',if_false]
end Go.Ab
end
section
set_option linter.unusedVariables false
set_option linter.unusedSimpArgs false
namespace Go.Ab
variable {F:Funs}
theorem oSlice {c:CS} {al:Nat→Bool} {lo id:Nat} {e:Env} {g:G} (esz x l h m):opE c al lo id (.slice esz x l h m) e g = vSlice esz (x.ev e) (evo e l) (evo e h) (evo e m) g:=rfl
theorem evoN (e:Env):evo e none = none:=rfl
theorem evoS (e:Env) (x:Opd):evo e (some x) = some (x.ev e):=rfl
theorem slTo {esz n k:Nat} {cs:List AV} {t:Tok} {g:G} (h:k≤n):vSlice esz (.sl cs n t) none (some (.i .i64 ((k:Nat):Int))) none g = some (.sl (cs.take (k * esz)) k (if t = .rig∧((k:Nat):Int) = ((n:Nat):Int) then .rig else .non),g):=by
 simp only[vSlice,bnd]
 rw[if_pos ⟨by omega,by omega,by omega⟩]
 simp
theorem slFrom {esz n k:Nat} {cs:List AV} {t:Tok} {g:G} (h:k≤n):vSlice esz (.sl cs n t) (some (.i .i64 ((k:Nat):Int))) none none g = some (.sl ((cs.drop (k * esz)).take ((n - k) * esz)) (n - k) (if t = .rig then .rig else .non),g):=by
 simp only[vSlice,bnd]
 rw[if_pos ⟨by omega,by omega,by omega⟩]
 simp only[Int.toNat_natCast,and_true]
theorem intsC_take (l:List Int) (k:Nat):(intsC l).take (k * 1) = intsC (l.take k):=by simp[intsC,List.map_take]
theorem intsC_drop (l:List Int) (k:Nat):(intsC l).drop (k * 1) = intsC (l.drop k):=by simp[intsC,List.map_drop]
theorem intsC_len (l:List Int):(intsC l).length = l.length:=by simp[intsC]
theorem intsC_all {l:List Int} {n:Nat} (h:l.length = n):(intsC l).take (n * 1) = intsC l:=by
 rw[Nat.mul_one,←h,←intsC_len l,List.take_length]
theorem rp_put (h132:F 132 = some A_xref05_Put) (l:List Int) (v:Int) (t:Tok) (hl:l.length≤100000):pureS F 132 [.sl (intsC l) l.length t,.i .i64 v] = some (.sl (intsC (putI l v)) (putI l v).length .non):=by
 refine pure_of h132 ?_
 simp (disch:=omega) only[A_xref05_Put,wp,qa,qb,qc]
 refine blk_cut (fun e g => ∃ k:Nat,k≤l.length∧e 0 = .sl (intsC l) l.length t∧e 1 = .i .i64 v∧e 5 = .i .i64 ((k:Nat):Int)∧(∀ j,j < k→l.getD j 0 < v)∧(k < l.length→¬ l.getD k 0 < v)) ?_ ?_
 ·refine W_loop (fun q e g => ∃ k:Nat,q = l.length - k∧k≤l.length∧e 0 = .sl (intsC l) l.length t∧e 1 = .i .i64 v∧e 5 = .i .i64 ((k:Nat):Int)∧(∀ j,j < k→l.getD j 0 < v)) l.length ?_ ?_
  ·refine ⟨0,rfl,Nat.zero_le _,?_⟩
   simp (disch:=omega) only[wp,qa,qb,qc]
   exact ⟨rfl,fun j hj => absurd hj (Nat.not_lt_zero j)⟩
  ·rintro q e g ⟨k,rfl,hk,e0,e1,e5,hb⟩
   by_cases c1:k < l.length
   ·have c1':((k:Nat):Int) < ((l.length:Nat):Int):=by omega
    have hip:=ints_part c1
    have hw:=succ_wrap (k:=k) (by omega)
    by_cases c2:l.getD k 0 < v
    ·have hb':∀ j,j < k + 1→l.getD j 0 < v:=fun j hj => by
      by_cases hjk:j = k
      ·rw[hjk];exact c2
      ·exact hb j (by omega)
     simp (disch:=omega) only[wp,qa,qb,qc,e0,e1,e5,c1',c2,hip,hw]
     exact ⟨l.length - (k + 1),by omega,k + 1,rfl,by omega,rfl,hb'⟩
    ·simp (disch:=omega) only[wp,qa,qb,qc,e0,e1,e5,c1',c2,hip,hw]
     exact ⟨k,hk,rfl,hb,fun _ => c2⟩
   ·have c1':¬ ((k:Nat):Int) < ((l.length:Nat):Int):=by omega
    simp (disch:=omega) only[wp,qa,qb,qc,e0,e1,e5,c1']
    exact ⟨k,hk,rfl,hb,fun h => absurd h c1⟩
 ·rintro e g ⟨k,hk,e0,e1,e5,hb,hn⟩
  have fin:(k < l.length→l.getD k 0≠v)→putI l v = l.take k ++ v :: l.drop k:=fun h => putI_eq hk hb fun h1 => by have:=hn h1;have:=h h1;omega
  have hlt:(intsC (l.take k)).length = k:=by rw[intsC_len,List.length_take];omega
  have hld:(intsC (l.drop k)).length = l.length - k:=by rw[intsC_len,List.length_drop]
  have hla:(intsC (l.drop k)).take ((l.length - k) * 1) = intsC (l.drop k):=intsC_all (by rw[List.length_drop])
  have hit:(intsC l).take (k * 1) = intsC (l.take k):=intsC_take l k
  have hid:(intsC l).drop (k * 1) = intsC (l.drop k):=intsC_drop l k
  have key:(l.take k ++ v :: l.drop k).length = l.length + 1:=by simp;omega
  by_cases c1:k < l.length
  ·have c1':((k:Nat):Int) < ((l.length:Nat):Int):=by omega
   have hip:=ints_part c1
   rw[hid] at hip
   cases c2:(l.getD k 0 == v) with
   | true =>
     have h1:=putI_has (v:=v) c1 hb (by simpa using c2)
     rw[h1]
     simp (disch:=omega) only[wp,qa,qb,qc,e0,e1,e5,c1',c2,hip,hid]
   | false =>
     have h1:=fin fun _ => by simpa using c2
     by_cases k0:k = 0
     ·subst k0
      simp (disch:=omega) only[wp,qa,qb,qc,e0,e1,e5,c1',c2,hip,oSlice,evoN,evoS,slTo,slFrom,hit,hid,hla,hlt,hld]
      rw[h1,key,show 1 + (l.length - 0) = l.length + 1 by omega]
      simp[intsC]
     ·simp (disch:=omega) only[wp,qa,qb,qc,e0,e1,e5,c1',c2,hip,oSlice,evoN,evoS,slTo,slFrom,hit,hid,hla,hlt,hld]
      rw[h1,key,show k + 1 + (l.length - k) = l.length + 1 by omega]
      simp[intsC]
  ·have c1':¬ ((k:Nat):Int) < ((l.length:Nat):Int):=by omega
   have h1:=fin fun h => absurd h c1
   by_cases k0:k = 0
   ·subst k0
    simp (disch:=omega) only[wp,qa,qb,qc,e0,e1,e5,c1',oSlice,evoN,evoS,slTo,slFrom,hit,hid,hla,hlt,hld]
    rw[h1,key,show 1 + (l.length - 0) = l.length + 1 by omega]
    simp[intsC]
   ·simp (disch:=omega) only[wp,qa,qb,qc,e0,e1,e5,c1',oSlice,evoN,evoS,slTo,slFrom,hit,hid,hla,hlt,hld]
    rw[h1,key,show k + 1 + (l.length - k) = l.length + 1 by omega]
    simp[intsC]
theorem putI_len:∀ {l:List Int} {v:Int},(putI l v).length≤l.length + 1
 | [],v => Nat.le_refl _
 | a :: l,v => by
   unfold putI
   split
   ·have:=putI_len (l:=l) (v:=v)
    simp only[List.length_cons]
    omega
   ·split
    ·exact Nat.le_succ _
    ·exact Nat.le_refl _
theorem bothI_len:∀ {b a:List Int},(bothI a b).length≤a.length + b.length
 | [],a => Nat.le_refl _
 | v :: b,a => by
   show (bothI (putI a v) b).length≤_
   have h1:=bothI_len (b:=b) (a:=putI a v)
   have h2:=putI_len (l:=a) (v:=v)
   simp only[List.length_cons]
   omega
theorem take_getD {l:List Int} {k:Nat} (h:k < l.length):l.take (k + 1) = l.take k ++ [l.getD k 0]:=by
 rw[List.take_add_one,List.getD_eq_getElem?_getD,List.getElem?_eq_getElem h]
 rfl
theorem bothI_take {a b:List Int} {k:Nat} (h:k < b.length):bothI a (b.take (k + 1)) = putI (bothI a (b.take k)) (b.getD k 0):=by
 unfold bothI
 rw[take_getD h,List.foldl_append]
 rfl
theorem rp_both (h129:F 129 = some A_xref05_Both) (h132:F 132 = some A_xref05_Put) (a b:List Int) (t u:Tok) (hl:a.length + b.length≤100000):∃ v,v = .non∧pureS F 129 [.sl (intsC a) a.length t,.sl (intsC b) b.length u] = some (.sl (intsC (bothI a b)) (bothI a b).length v):=by
 refine ⟨.non,rfl,pure_of h129 ?_⟩
 simp (disch:=omega) only[A_xref05_Both,wp,qa,qb,qc]
 refine W_loop (fun q e g => ∃ (k:Nat) (w:Tok),q = b.length - k∧k≤b.length∧e 0 = .sl (intsC (bothI a (b.take k))) (bothI a (b.take k)).length w∧e 1 = .sl (intsC b) b.length u∧e 5 = .i .i64 ((k:Nat):Int)) b.length ?_ ?_
 ·refine ⟨0,t,rfl,Nat.zero_le _,?_⟩
  simp (disch:=omega) only[wp,qa,qb,qc]
  exact ⟨rfl,rfl⟩
 ·rintro q e g ⟨k,w,rfl,hk,e0,e1,e5⟩
  by_cases c1:k < b.length
  ·have c1':((k:Nat):Int) < ((b.length:Nat):Int):=by omega
   have hip:=ints_part c1
   have hw:=succ_wrap (k:=k) (by omega)
   have h1:=bothI_len (a:=a) (b:=b.take k)
   rw[List.length_take] at h1
   have hp:=rp_put h132 (bothI a (b.take k)) (b.getD k 0) .non (by omega)
   rw[←bothI_take c1] at hp
   simp (disch:=omega) only[wp,qa,qb,qc,e0,e1,e5,c1',hip,hw,hp]
   exact ⟨b.length - (k + 1),by omega,k + 1,.non,rfl,by omega,rfl,rfl⟩
  ·have c1':¬ ((k:Nat):Int) < ((b.length:Nat):Int):=by omega
   obtain rfl:k = b.length:=by omega
   rw[List.take_length] at e0
   simp (disch:=omega) only[wp,qa,qb,qc,e0,e1,e5,c1']
theorem pairsC_take (l:List (Int × Int)) (k:Nat):(pairsC l).take (k * 2) = pairsC (l.take k):=by
 induction l generalizing k with
 | nil => simp[pairsC]
 | cons a l ih =>
   cases k with
   | zero => simp[pairsC]
   | succ k =>
     have:=ih k
     simp only[pairsC,List.flatMap_cons,List.take_succ_cons,Nat.add_mul,Nat.one_mul] at this ⊢
     rw[←this]
     rfl
theorem pairsC_drop (l:List (Int × Int)) (k:Nat):(pairsC l).drop (k * 2) = pairsC (l.drop k):=by
 induction l generalizing k with
 | nil => simp[pairsC]
 | cons a l ih =>
   cases k with
   | zero => simp[pairsC]
   | succ k =>
     have:=ih k
     simp only[pairsC,List.flatMap_cons,List.drop_succ_cons,Nat.add_mul,Nat.one_mul] at this ⊢
     rw[←this]
     rfl
theorem pairsC_all {l:List (Int × Int)} {n:Nat} (h:l.length = n):(pairsC l).take (n * 2) = pairsC l:=by
 rw[pairsC_take,←h,List.take_length]
theorem pairsI_take {l:List (Int × Int)} {rs:List Int} {b:Int} {k:Nat} (h:k < rs.length):pairsI l (rs.take (k + 1)) b = insP (pairsI l (rs.take k) b) (rs.getD k 0,b):=by
 unfold pairsI
 rw[take_getD h,List.foldl_append]
 rfl
theorem rp_pairs (h130:F 130 = some A_xref05_pairs) (l:List (Int × Int)) (rs:List Int) (b:Int) (t u:Tok) (hl:l.length + rs.length≤100000):∃ v,v = .non∧pureS F 130 [.sl (pairsC l) l.length t,.sl (intsC rs) rs.length u,.i .i64 b] = some (.sl (pairsC (pairsI l rs b)) (pairsI l rs b).length v):=by
 refine ⟨.non,rfl,pure_of h130 ?_⟩
 have s2:∀ b1 b2 c1 c2:AV,splice [b1,b2] 0 [c1,c2] = [c1,c2]:=fun _ _ _ _ => rfl
 simp (disch:=omega) only[A_xref05_pairs,wp,qa,qb,qc]
 refine W_loop (fun q e g => ∃ (k:Nat) (w:Tok),q = rs.length - k∧k≤rs.length∧e 0 = .sl (pairsC (pairsI l (rs.take k) b)) (pairsI l (rs.take k) b).length w∧e 1 = .sl (intsC rs) rs.length u∧e 2 = .i .i64 b∧e 7 = .i .i64 ((k:Nat):Int)) rs.length ?_ ?_
 ·refine ⟨0,t,rfl,Nat.zero_le _,?_⟩
  simp (disch:=omega) only[wp,qa,qb,qc]
  exact ⟨rfl,rfl⟩
 ·rintro q e g ⟨i,w,rfl,hi,e0,e1,e2,e7⟩
  by_cases c0:i < rs.length
  ·have c0':((i:Nat):Int) < ((rs.length:Nat):Int):=by omega
   have hir:=ints_part c0
   have hwi:=succ_wrap (k:=i) (by omega)
   have hnx:=pairsI_take (l:=l) (b:=b) c0
   have hml:(pairsI l (rs.take i) b).length≤100000:=by rw[pairsI_len,List.length_take];omega
   generalize rs.getD i 0 = r at hir hnx
   generalize pairsI l (rs.take i) b = m at e0 hnx hml
   simp (disch:=omega) only[wp,qa,qb,qc,gl,e0,e1,e2,e7,c0',hir,s2]
   refine blk_cut (fun e g => ∃ (k id:Nat),k≤m.length∧e 0 = .sl (pairsC m) m.length w∧e 1 = .sl (intsC rs) rs.length u∧e 2 = .i .i64 b∧e 7 = .i .i64 ((i:Nat):Int)∧e 8 = .mp id 0∧g.hp id = some (.cells [.i .i64 r,.i .i64 b] false)∧id < g.nx∧e 9 = .i .i64 ((k:Nat):Int)∧(∀ j,j < k→lessP (m.getD j (0,0)) (r,b))∧(k < m.length→¬ lessP (m.getD k (0,0)) (r,b))) ?_ ?_
   ·refine W_loop (fun q e g => ∃ (k id:Nat),q = m.length - k∧k≤m.length∧e 0 = .sl (pairsC m) m.length w∧e 1 = .sl (intsC rs) rs.length u∧e 2 = .i .i64 b∧e 7 = .i .i64 ((i:Nat):Int)∧e 8 = .mp id 0∧g.hp id = some (.cells [.i .i64 r,.i .i64 b] false)∧id < g.nx∧e 9 = .i .i64 ((k:Nat):Int)∧(∀ j,j < k→lessP (m.getD j (0,0)) (r,b))) m.length ?_ ?_
    ·refine ⟨0,g.nx + 4 + 6,by omega,Nat.zero_le _,?_⟩
     simp (disch:=omega) only[wp,qa,qb,qc,e0,e1,e2,e7]
     exact ⟨by first | omega | (dsimp only;omega),rfl,fun j hj => absurd hj (Nat.not_lt_zero j)⟩
    ·rintro q e g ⟨k,id,rfl,hk,e0,e1,e2,e7,e8,hid,hin,e9,hb⟩
     by_cases c1:k < m.length
     ·have c1':((k:Nat):Int) < ((m.length:Nat):Int):=by omega
      have ha:=pairs_a c1
      have hbb:=pairs_b c1
      have hw:=succ_wrap (k:=k) (by omega)
      have hdl:(List.drop (k * 2) (pairsC m)).length = m.length * 2 - k * 2:=by rw[List.length_drop,pairsC_len]
      have step:lessP (m.getD k (0,0)) (r,b)→∀ j,j < k + 1→lessP (m.getD j (0,0)) (r,b):=fun h j hj => by
       by_cases hjk:j = k
       ·rw[hjk];exact h
       ·exact hb j (by omega)
      have stop:¬ lessP (m.getD k (0,0)) (r,b)→k < m.length→¬ lessP (m.getD k (0,0)) (r,b):=fun h _ => h
      generalize hp:m.getD k (0,0) = p at ha hbb step stop
      by_cases c2:p.1 < r
      ·simp (disch:=omega) only[wp,qa,qb,qc,gl,e0,e1,e2,e7,e8,e9,hid,c1',ha,hbb,hdl,c2,hw]
       exact ⟨m.length - (k + 1),by omega,k + 1,id,rfl,by omega,rfl,hid,by first | omega | (dsimp only;omega),rfl,step (.inl c2)⟩
      ·cases c3:(p.1 == r) with
       | false =>
         simp (disch:=omega) only[wp,qa,qb,qc,gl,e0,e1,e2,e7,e8,e9,hid,c1',ha,hbb,hdl,c2,c3,hw]
         exact ⟨k,id,hk,rfl,hid,by first | omega | (dsimp only;omega),rfl,hb,fun _ => by rw[hp];exact fun h => by rcases h with h | ⟨h,_⟩<;>simp only at h<;>first | exact c2 h | (rw[h] at c3;simp at c3)⟩
       | true =>
         by_cases c4:p.2 < b
         ·simp (disch:=omega) only[wp,qa,qb,qc,gl,e0,e1,e2,e7,e8,e9,hid,c1',ha,hbb,hdl,c2,c3,c4,hw]
          exact ⟨m.length - (k + 1),by omega,k + 1,id,rfl,by omega,rfl,hid,by first | omega | (dsimp only;omega),rfl,step (.inr ⟨by simpa using c3,c4⟩)⟩
         ·simp (disch:=omega) only[wp,qa,qb,qc,gl,e0,e1,e2,e7,e8,e9,hid,c1',ha,hbb,hdl,c2,c3,c4,hw]
          exact ⟨k,id,hk,rfl,hid,by first | omega | (dsimp only;omega),rfl,hb,fun _ => by rw[hp];exact fun h => by rcases h with h | ⟨_,h⟩<;>simp only at h<;>first | exact c2 h | exact c4 h⟩
     ·have c1':¬ ((k:Nat):Int) < ((m.length:Nat):Int):=by omega
      simp (disch:=omega) only[wp,qa,qb,qc,gl,e0,e1,e2,e7,e8,e9,c1']
      exact ⟨k,id,hk,rfl,hid,by first | omega | (dsimp only;omega),rfl,hb,fun h => absurd h c1⟩
   ·rintro e g ⟨k,id,hk,e0,e1,e2,e7,e8,hid,hin,e9,hb,hn⟩
    have h1:=insP_eq hk hb hn
    rw[h1] at hnx
    have hlt:(pairsC (m.take k)).length = k * 2:=by rw[pairsC_len,List.length_take];omega
    have hld:(pairsC (m.drop k)).length = (m.length - k) * 2:=by rw[pairsC_len,List.length_drop]
    have hla:(pairsC (m.drop k)).take ((m.length - k) * 2) = pairsC (m.drop k):=pairsC_all (by rw[List.length_drop])
    have hit:(pairsC m).take (k * 2) = pairsC (m.take k):=pairsC_take m k
    have hidr:(pairsC m).drop (k * 2) = pairsC (m.drop k):=pairsC_drop m k
    have key:(m.take k ++ (r,b) :: m.drop k).length = m.length + 1:=by simp;omega
    by_cases k0:k = 0
    ·subst k0
     simp (disch:=omega) only[wp,qa,qb,qc,gl,e0,e1,e2,e7,e8,e9,hid,oSlice,evoN,evoS,slTo,slFrom,hit,hidr,hla,hlt,hld,s2,hwi]
     refine ⟨rs.length - (i + 1),by omega,i + 1,.own (g.nx + 10) 2,rfl,by omega,?_,rfl⟩
     rw[hnx,key,show 1 + (m.length - 0) = m.length + 1 by omega]
     simp[pairsC]
    ·simp (disch:=omega) only[wp,qa,qb,qc,gl,e0,e1,e2,e7,e8,e9,hid,oSlice,evoN,evoS,slTo,slFrom,hit,hidr,hla,hlt,hld,s2,hwi]
     refine ⟨rs.length - (i + 1),by omega,i + 1,.own (g.nx + 10) 2,rfl,by omega,?_,rfl⟩
     rw[hnx,key,show k + 1 + (m.length - k) = m.length + 1 by omega]
     simp[pairsC]
  ·have c0':¬ ((i:Nat):Int) < ((rs.length:Nat):Int):=by omega
   obtain rfl:i = rs.length:=by omega
   rw[List.take_length] at e0
   simp (disch:=omega) only[wp,qa,qb,qc,gl,e0,e1,e2,e7,c0']
end Go.Ab
end
section
set_option linter.unusedVariables false
set_option linter.unusedSimpArgs false
namespace Go.Ab
variable {F:Funs}
theorem o_appM {c:CS} {al:Nat→Bool} {lo id:Nat} {e:Env} {g:G} (esz b x y):opE c al lo id (.appM esz b x y) e g = vAppM al id esz b (x.ev e) (y.ev e) g:=rfl
def apmR (id esz b m ld:Nat) (ds:List AV) (g:G) (ok:Bool):Option (AV × G):=if 1≤m∧m * b≤2 ^ 46∧m≤2 ^ 62∧ld = m * esz∧ok then some (.ms id 0 m,⟨upd g.hp id (some (.cells ds false)),g.nx⟩) else none
theorem vAppM_rig {al:Nat→Bool} {id esz b m:Nat} {ds:List AV} {t:Tok} {g:G}:vAppM al id esz b (.sl [] 0 .rig) (.sl ds m t) g = apmR id esz b m ds.length ds g (ds.all one):=rfl
theorem apmR_ok {id esz b m ld:Nat} {ds:List AV} {g:G} (h:1≤m∧b≤1000∧m≤1000000∧ld = m * esz):apmR id esz b m ld ds g true = some (.ms id 0 m,⟨upd g.hp id (some (.cells ds false)),g.nx⟩):=by
 obtain ⟨h1,h2,h3,h4⟩:=h
 exact if_pos ⟨h1,Nat.le_trans (Nat.mul_le_mul h3 h2) (by omega),Nat.le_trans h3 (by omega),h4,rfl⟩
def apmS (id esz bytes b n m ld:Nat) (ds:List AV) (g:G) (ok:Bool):Option Blk→Option (AV × G)
 | some (.cells cs false) => if 1≤n∧1≤m∧(n + m) * bytes≤2 ^ 46∧n + m≤2 ^ 62∧cs.length = n * esz∧ld = m * esz∧ok then
         some (.ms id 0 (n + m),⟨upd (upd g.hp b (some (.tok false))) id (some (.cells (cs ++ ds) false)),g.nx⟩)
    else none
 | _ => none
theorem vAppM_S {al:Nat→Bool} {id esz bytes b n m:Nat} {ds:List AV} {t:Tok} {g:G}:vAppM al id esz bytes (.ms b 0 n) (.sl ds m t) g = apmS id esz bytes b n m ds.length ds g (ds.all one) (selB (al b) (g.hp b)):=by
 unfold vAppM vSrcM
 simp only[rd_S]
 cases selB (al b) (g.hp b) with
 | none => rfl
 | some bl =>
   cases bl with
   | cells cs ro => cases ro<;>rfl
   | map es => rfl
   | tok l => rfl
theorem apmS_ok {id esz bytes b n m ld:Nat} {cs ds:List AV} {g:G} (h:1≤n∧1≤m∧bytes≤1000∧n + m≤1000000∧cs.length = n * esz∧ld = m * esz):apmS id esz bytes b n m ld ds g true (some (.cells cs false)) = some (.ms id 0 (n + m),⟨upd (upd g.hp b (some (.tok false))) id (some (.cells (cs ++ ds) false)),g.nx⟩):=by
 obtain ⟨h1,h2,h3,h4,h5,h6⟩:=h
 have h7:(n + m) * bytes≤2 ^ 46:=Nat.le_trans (Nat.mul_le_mul h4 h3) (by omega)
 exact if_pos ⟨h1,h2,h7,Nat.le_trans h4 (by omega),h5,h6,rfl⟩
def apcS (id esz bytes b k e n m ld:Nat) (ds:List AV) (g:G) (ok:Bool):Option Blk→Option (AV × G)
 | some (.cells cs false) => if e = esz∧1≤n∧k≤n∧1≤m∧(k + m) * bytes≤2 ^ 46∧k + m≤2 ^ 62∧cs.length = n * esz∧ld = m * esz∧ok then
         some (.ms id 0 (k + m),⟨upd (upd g.hp b (some (.tok false))) id (some (.cells (cs.take (k * esz) ++ ds) false)),g.nx⟩)
    else none
 | _ => none
theorem vAppM_C {al:Nat→Bool} {id esz bytes b k e n m:Nat} {ds:List AV} {t:Tok} {g:G}:vAppM al id esz bytes (.mc b k e n) (.sl ds m t) g = apcS id esz bytes b k e n m ds.length ds g (ds.all one) (selB (al b) (g.hp b)):=by
 unfold vAppM vSrcM
 simp only[rd_S]
 cases selB (al b) (g.hp b) with
 | none => rfl
 | some bl =>
   cases bl with
   | cells cs ro => cases ro<;>rfl
   | map es => rfl
   | tok l => rfl
theorem apcS_ok {id esz bytes b k n m ld:Nat} {cs ds:List AV} {g:G} (h:1≤n∧k≤n∧1≤m∧bytes≤1000∧k + m≤1000000∧cs.length = n * esz∧ld = m * esz):apcS id esz bytes b k esz n m ld ds g true (some (.cells cs false)) = some (.ms id 0 (k + m),⟨upd (upd g.hp b (some (.tok false))) id (some (.cells (cs.take (k * esz) ++ ds) false)),g.nx⟩):=by
 obtain ⟨h1,h2,h3,h4,h5,h6,h8⟩:=h
 have h7:(k + m) * bytes≤2 ^ 46:=Nat.le_trans (Nat.mul_le_mul h5 h4) (by omega)
 exact if_pos ⟨rfl,h1,h2,h3,h7,Nat.le_trans h5 (by omega),h6,h8,rfl⟩
theorem slHiM {esz b n:Nat} {ki:IntKind} {z:Int} {g:G} (h1:1≤n) (h2:0≤z) (h3:z≤(n:Int)):vSlice esz (.ms b 0 n) none (some (.i ki z)) none g = some (.mc b z.toNat esz n,g):=if_pos ⟨rfl,h1,h2,h3⟩
def evE (regs:List Int):List (Int × Int)→List Int→List Int
 | [],st => st
 | p :: l,st => if p.1 = 1 then evE regs l (p.2 :: st) else if p.1 = 3 then evE regs l (doX p.2 (st.getD 1 0) (st.getD 0 0) :: st.drop 2)
   else evE regs l ((if p.2 < regs.length then regs.getD p.2.toNat 0 else 0) :: st)
theorem evE_cons (regs p l st):evE regs (p :: l) st = if p.1 = 1 then evE regs l (p.2 :: st) else if p.1 = 3 then evE regs l (doX p.2 (st.getD 1 0) (st.getD 0 0) :: st.drop 2)
  else evE regs l ((if p.2 < regs.length then regs.getD p.2.toNat 0 else 0) :: st):=by simp only[evE]
theorem evE_nil (regs st):evE regs [] st = st:=by simp only[evE]
def evX (ex:List (Int × Int)) (regs:List Int):Int:=if chkX ex = true then (evE regs ex []).headD 0 else 0
theorem chkX_inv {ex:List (Int × Int)} (h:chkX ex = true):chkG ex 0 = some 1∧ex.length≤9:=by
 unfold chkX at h
 split at h
 ·rename_i d hd
  simp only[Bool.and_eq_true,decide_eq_true_eq] at h
  exact ⟨by rw[hd,h.1],h.2⟩
 ·cases h
def StkAt (st:List Int) (v:AV) (g:G):Prop:=(st = []∧v = .sl [] 0 .rig)∨(st≠[]∧∃ id,v = .ms id 0 st.length∧g.hp id = some (.cells (intsC st.reverse) false)∧id < g.nx)
structure EvI (ex:List (Int × Int)) (regs:List Int) (k:Nat) (st:List Int) (e:Env) (g:G):Prop where
 hk:k≤ex.length
 hs:st.length≤k
 e0:e 0 = .sl (tkC ex) ex.length .non
 e1:e 1 = .sl (intsC regs) regs.length .non
 e5:StkAt st (e 5) g
 e6:e 6 = .i .i64 ((k:Nat):Int)
 hc:chkG (ex.drop k) st.length = some 1
 ev:evE regs (ex.drop k) st = evE regs ex []
theorem ints_p1 {l:List Int} {k:Nat} (h:k < l.length):part (intsC l) (k * 1) none = some (.i .i64 (l.getD k 0)):=by
 have:=ints_part h
 simpa [part] using this
theorem sp_eval (h115:F 115 = some A_xref02_Eval) (h109:F 109 = some A_xref02_Check) (h125:F 125 = some A_xref02_word) (h128:F 128 = some A_xref02_Do) (ex:List (Int × Int)) (regs:List Int) (hl:ex.length≤1000000) (hr:regs.length≤1000000):
  pureS F 115 [exV ex,.sl (intsC regs) regs.length .non] = some (.i .i64 (evX ex regs)):=by
 refine pure_of h115 ?_
 have hck:=sp_exCheck h109 h125 ex hl
 unfold exV at hck ⊢
 unfold evX
 cases c0:chkX ex with
 | false =>
   rw[c0] at hck
   simp (disch:=omega) only[A_xref02_Eval,wp,qa,qb,qc,hck,if_false]
 | true =>
   rw[c0] at hck
   obtain ⟨hc0,hl9⟩:=chkX_inv c0
   rw[if_pos rfl]
   simp (disch:=omega) only[A_xref02_Eval,wp,qa,qb,qc,hck]
   refine blk_cut (fun e g => ∃ (v:Int) (id:Nat),e 5 = .ms id 0 1∧g.hp id = some (.cells [.i .i64 v] false)∧id < g.nx∧v = (evE regs ex []).headD 0) ?_ ?_
   ·refine W_loop (fun q e g => ∃ (k:Nat) (st:List Int),q = ex.length - k∧EvI ex regs k st e g) ex.length ?_ ?_
    ·exact ⟨0,[],rfl,Nat.zero_le _,Nat.le_refl _,rfl,rfl,.inl ⟨rfl,rfl⟩,rfl,hc0,rfl⟩
    ·rintro q e g ⟨k,st,rfl,hk,hsl,e0,e1,e5,e6,hc,hev⟩
     by_cases c1:k < ex.length
     ·have c1':((k:Nat):Int) < ((ex.length:Nat):Int):=by omega
      have hkd:=tk_k c1
      have hvd:=tk_v c1
      have hl2:=tk_l c1
      have hw:=succ_wrap (k:=k) (by omega)
      have hdc:=drop_cons (d:=((0,0):Int × Int)) c1
      rw[hdc] at hc hev
      rw[chkG_cons] at hc
      rw[evE_cons] at hev
      generalize ex.getD k (0,0) = p at hkd hvd hc hev
      cases c2:wdB p with
      | false => rw[c2] at hc;simp at hc
      | true =>
        rw[c2] at hc
        rw[if_pos rfl] at hc
        have next:∀ (st':List Int) (e':Env) (g':G),chkG (ex.drop (k + 1)) st'.length = some 1→evE regs (ex.drop (k + 1)) st' = evE regs ex []→st'.length≤k + 1→e' 0 = .sl (tkC ex) ex.length .non→e' 1 = .sl (intsC regs) regs.length .non→StkAt st' (e' 5) g'→e' 6 = .i .i64 ((k + 1:Nat):Int) →
          ∃ m',m' < ex.length - k∧∃ (k:Nat) (st:List Int),m' = ex.length - k∧EvI ex regs k st e' g':=
         fun st' e' g' a1 a2 a3 a4 a5 a6 a7 => ⟨ex.length - (k + 1),by omega,k + 1,st',rfl,⟨by omega,a3,a4,a5,a6,a7,a1,a2⟩⟩
        by_cases c3:p.1 = 1
        ·have c3a:(p.1 == 1) = true:=by simpa using c3
         rw[if_neg (by omega)] at hc
         rw[if_pos c3] at hev
         rcases e5 with ⟨rfl,e5⟩ | ⟨hne,b,e5,hb,hlt⟩
         ·simp (disch:=omega) only[wp,qa,qb,qc,e0,e1,e5,e6,c1',hkd,hvd,c3a,hw,o_appM,vAppM_rig,apmR_ok]
          refine next [p.2] _ _ hc hev ?_ ?_ ?_ ?_ ?_
          ·simp
          ·exact e0
          ·exact e1
          ·refine .inr ⟨by simp,_,rfl,?_,?_⟩
           ·simp (disch:=omega) only[upd_same,upd_ne];rfl
           ·dsimp only;omega
          ·rfl
         ·have h1:1≤st.length:=by cases st with | nil => exact absurd rfl hne | cons _ _ => simp
          have hcl:(intsC st.reverse).length = st.length * 1:=by rw[intsC_len,List.length_reverse,Nat.mul_one]
          simp (disch:=omega) only[wp,qa,qb,qc,e0,e1,e5,e6,c1',hkd,hvd,c3a,hw,hb,o_appM,vAppM_S,apmS_ok]
          refine next (p.2 :: st) _ _ hc hev ?_ ?_ ?_ ?_ ?_
          ·simp;omega
          ·exact e0
          ·exact e1
          ·refine .inr ⟨by simp,_,rfl,?_,?_⟩
           ·simp (disch:=omega) only[upd_same,upd_ne];simp[intsC]
           ·dsimp only;omega
          ·rfl
        ·have c3a:(p.1 == 1) = false:=by simpa using c3
         rw[if_neg c3] at hev
         by_cases c4:p.1 = 3
         ·have c4a:(p.1 == 3) = true:=by simpa using c4
          rw[if_pos c4] at hc hev
          by_cases c5:st.length < 2
          ·rw[if_pos c5] at hc;cases hc
          ·rw[if_neg c5] at hc
           obtain ⟨y,x,r,rfl⟩:∃ y x r,st = y :: x :: r:=by
            match st,c5 with
            | [],h => exact absurd (by simp) h
            | [_],h => exact absurd (by simp) h
            | y :: x :: r,_ => exact ⟨y,x,r,rfl⟩
           rcases e5 with ⟨h,_⟩ | ⟨hne,b,e5,hb,hlt⟩
           ·cases h
           ·have hrev:(y :: x :: r).reverse = r.reverse ++ [x,y]:=by simp
            rw[hrev] at hb
            simp only[List.length_cons] at e5 hc hsl
            have hcl:(intsC (r.reverse ++ [x,y])).length = (r.length + 1 + 1) * 1:=by rw[intsC_len];simp
            have hpx:part (intsC (r.reverse ++ [x,y])) (r.length * 1) none = some (.i .i64 x):=by
             rw[ints_p1 (by simp),List.getD_eq_getElem?_getD,List.getElem?_append_right (by simp)];simp
            have hpy:part (intsC (r.reverse ++ [x,y])) ((r.length + 1) * 1) none = some (.i .i64 y):=by
             rw[ints_p1 (by simp),List.getD_eq_getElem?_getD,List.getElem?_append_right (by simp)];simp
            have hs2:IntKind.i64.wrap (((r.length + 1 + 1:Nat):Int) - 2) = ((r.length:Nat):Int):=by rw[i64_wrap (by omega) (by omega)];omega
            have hs1:IntKind.i64.wrap (((r.length + 1 + 1:Nat):Int) - 1) = ((r.length + 1:Nat):Int):=by rw[i64_wrap (by omega) (by omega)];omega
            have hdo:=sp_do h128 p.2 x y
            simp (disch:=omega) only[wp,qa,qb,qc,e0,e1,e5,e6,c1',hkd,hvd,c3a,c4a,hw,hb,hs1,hs2,hpx,hpy,hdo,oSlice,evoN,evoS,slHiM,o_appM,vAppM_C,apcS_ok]
            refine next (doX p.2 x y :: r) _ _ hc hev ?_ ?_ ?_ ?_ ?_
            ·simp;omega
            ·exact e0
            ·exact e1
            ·refine .inr ⟨by simp,_,rfl,?_,?_⟩
             ·simp (disch:=omega) only[upd_same,upd_ne]
              rw[show (intsC (r.reverse ++ [x,y])).take (r.length * 1) = intsC r.reverse by rw[intsC_take,List.take_append_of_le_length (by simp),List.take_of_length_le (by simp)]]
              simp[intsC]
             ·dsimp only;omega
            ·rfl
         ·have c4a:(p.1 == 3) = false:=by simpa using c4
          rw[if_neg c4] at hc hev
          have hv0:0≤p.2∧p.2 < 8:=by
           unfold wdB at c2
           rw[if_neg c3,if_neg c4] at c2
           split at c2
           ·simpa using c2
           ·cases c2
          by_cases c6:p.2 < (regs.length:Int)
          ·rw[if_pos c6] at hev
           have hpr:=ints_part (l:=regs) (k:=p.2.toNat) (by omega)
           rcases e5 with ⟨rfl,e5⟩ | ⟨hne,b,e5,hb,hlt⟩
           ·simp (disch:=omega) only[wp,qa,qb,qc,e0,e1,e5,e6,c1',hkd,hvd,c3a,c4a,c6,hpr,hw,o_appM,vAppM_rig,apmR_ok]
            refine next [regs.getD p.2.toNat 0] _ _ hc hev ?_ ?_ ?_ ?_ ?_
            ·simp
            ·exact e0
            ·exact e1
            ·refine .inr ⟨by simp,_,rfl,?_,?_⟩
             ·simp (disch:=omega) only[upd_same,upd_ne];rfl
             ·dsimp only;omega
            ·rfl
           ·have h1:1≤st.length:=by cases st with | nil => exact absurd rfl hne | cons _ _ => simp
            have hcl:(intsC st.reverse).length = st.length * 1:=by rw[intsC_len,List.length_reverse,Nat.mul_one]
            simp (disch:=omega) only[wp,qa,qb,qc,e0,e1,e5,e6,c1',hkd,hvd,c3a,c4a,c6,hpr,hw,hb,o_appM,vAppM_S,apmS_ok]
            refine next (regs.getD p.2.toNat 0 :: st) _ _ hc hev ?_ ?_ ?_ ?_ ?_
            ·simp;omega
            ·exact e0
            ·exact e1
            ·refine .inr ⟨by simp,_,rfl,?_,?_⟩
             ·simp (disch:=omega) only[upd_same,upd_ne];simp[intsC]
             ·dsimp only;omega
            ·rfl
          ·rw[if_neg c6] at hev
           rcases e5 with ⟨rfl,e5⟩ | ⟨hne,b,e5,hb,hlt⟩
           ·simp (disch:=omega) only[wp,qa,qb,qc,e0,e1,e5,e6,c1',hkd,hvd,c3a,c4a,c6,hw,o_appM,vAppM_rig,apmR_ok]
            refine next [0] _ _ hc hev ?_ ?_ ?_ ?_ ?_
            ·simp
            ·exact e0
            ·exact e1
            ·refine .inr ⟨by simp,_,rfl,?_,?_⟩
             ·simp (disch:=omega) only[upd_same,upd_ne];rfl
             ·dsimp only;omega
            ·rfl
           ·have h1:1≤st.length:=by cases st with | nil => exact absurd rfl hne | cons _ _ => simp
            have hcl:(intsC st.reverse).length = st.length * 1:=by rw[intsC_len,List.length_reverse,Nat.mul_one]
            simp (disch:=omega) only[wp,qa,qb,qc,e0,e1,e5,e6,c1',hkd,hvd,c3a,c4a,c6,hw,hb,o_appM,vAppM_S,apmS_ok]
            refine next (0 :: st) _ _ hc hev ?_ ?_ ?_ ?_ ?_
            ·simp;omega
            ·exact e0
            ·exact e1
            ·refine .inr ⟨by simp,_,rfl,?_,?_⟩
             ·simp (disch:=omega) only[upd_same,upd_ne];simp[intsC]
             ·dsimp only;omega
            ·rfl
     ·have c1':¬ ((k:Nat):Int) < ((ex.length:Nat):Int):=by omega
      obtain rfl:k = ex.length:=by omega
      rw[List.drop_length] at hc hev
      rw[chkG_nil] at hc
      rw[evE_nil] at hev
      have hs1:st.length = 1:=Option.some.inj hc
      obtain ⟨v,rfl⟩:∃ v,st = [v]:=List.length_eq_one_iff.1 hs1
      rcases e5 with ⟨h,_⟩ | ⟨hne,b,e5,hb,hlt⟩
      ·cases h
      ·simp (disch:=omega) only[wp,qa,qb,qc,e0,e1,e5,e6,c1']
       exact ⟨v,b,rfl,hb,by omega,by rw[←hev];rfl⟩
   ·rintro e g ⟨v,id,e5,hid,hlt,rfl⟩
    simp (disch:=omega) only[wp,qa,qb,qc,e5,hid]
end Go.Ab
end
section
set_option linter.unusedVariables false
set_option linter.unusedSimpArgs false
namespace Go.Ab
variable {F:Funs}
structure TkS where
 t0:Tok
 t1:Tok
 td:Tok
 tc:Tok
 ti:Tok
 tr:Tok
 tn:Tok
 tt:Tok
 fs:List Tok
def frC (frm:List (List Int)) (ts:List Tok):List AV:=(List.range 8).map fun r => .sl (intsC (frm.getD r [])) (frm.getD r []).length (ts.getD r .non)
theorem frC_len (frm ts):(frC frm ts).length = 8:=by simp[frC]
theorem frC_at {frm ts} {r:Nat} (h:r < 8):(frC frm ts)[r]? = some (.sl (intsC (frm.getD r [])) (frm.getD r []).length (ts.getD r .non)):=by
 unfold frC
 rw[List.getElem?_map,List.getElem?_range h]
 rfl
theorem frC_set {frm:List (List Int)} {ts:List Tok} {r:Nat} {l:List Int} {t:Tok} (h:r < 8) (hf:frm.length = 8) (ht:ts.length = 8):(frC frm ts).set r (.sl (intsC l) l.length t) = frC (frm.set r l) (ts.set r t):=by
 refine List.ext_getElem? fun i => ?_
 by_cases hi:i < 8
 ·rw[frC_at hi,List.getElem?_set]
  by_cases hr:r = i
  ·subst hr
   rw[if_pos rfl,if_pos (by rw[frC_len];exact h)]
   simp[hf,ht,h]
  ·rw[if_neg hr,frC_at hi]
   simp[hr]
 ·rw[List.getElem?_eq_none (by rw[List.length_set,frC_len];omega),List.getElem?_eq_none (by rw[frC_len];omega)]
def stT (s:RS) (T:TkS):List AV:=frC s.frm T.fs ++ [.sl (intsC s.now) s.now.length T.tn,.sl [] 0 T.tt,.b s.short]
def stC (s:RS) (R:Nat) (reads:List Int) (T:TkS):List AV:=
 .sl (evsC s.evs) s.evs.length T.t0 :: .sl (pairsC s.rmw) s.rmw.length T.t1 :: .sl (pairsC s.data) s.data.length T.td :: .sl (pairsC s.ctrl) s.ctrl.length T.tc :: .sl [] 0 T.ti :: .i .i64 (s.used:Int) :: .ms R 0 8 :: .sl (intsC reads) reads.length T.tr :: stT s T
theorem stT_len (s T):(stT s T).length = 11:=by simp[stT,frC_len]
theorem stT_now (s T):(stT s T)[8]? = some (.sl (intsC s.now) s.now.length T.tn):=by
 unfold stT;rw[List.getElem?_append_right (by rw[frC_len];omega),frC_len];rfl
theorem stT_set (s T):(stT s T)[9]? = some (.sl [] 0 T.tt):=by
 unfold stT;rw[List.getElem?_append_right (by rw[frC_len];omega),frC_len];rfl
theorem stT_short (s T):(stT s T)[10]? = some (.b s.short):=by
 unfold stT;rw[List.getElem?_append_right (by rw[frC_len];omega),frC_len];rfl
theorem stT_frm (s T) {r:Nat} (h:r < 8):(stT s T)[r]? = some (.sl (intsC (s.frm.getD r [])) (s.frm.getD r []).length (T.fs.getD r .non)):=by
 unfold stT;rw[List.getElem?_append_left (by rw[frC_len];omega),frC_at h]
theorem p16 (a0 a1 a2 a3 a4 a5 a6 a7:AV) (l:List AV):part (a0 :: a1 :: a2 :: a3 :: a4 :: a5 :: a6 :: a7 :: l) 16 none = l[8]?:=rfl
theorem p17 (a0 a1 a2 a3 a4 a5 a6 a7:AV) (l:List AV):part (a0 :: a1 :: a2 :: a3 :: a4 :: a5 :: a6 :: a7 :: l) 17 none = l[9]?:=rfl
theorem p18 (a0 a1 a2 a3 a4 a5 a6 a7:AV) (l:List AV):part (a0 :: a1 :: a2 :: a3 :: a4 :: a5 :: a6 :: a7 :: l) 18 none = l[10]?:=rfl
structure SOk (s:RS) (R S:Nat) (reads:List Int) (T:TkS) (g:G):Prop where
 st:g.hp S = some (.cells (stC s R reads T) false)
 rg:g.hp R = some (.cells (intsC s.regs) false)
 l0:Live g 6 T.t0
 l1:Live g 2 T.t1
 ne:∀ i,T.t0≠.own i 6∨T.t1≠.own i 2
 sx:S < g.nx
 rx:R < g.nx
 sr:S≠R
 fs:T.fs.length = 8
 f8:s.frm.length = 8
 r8:s.regs.length = 8
structure Frm (S R:Nat) (g g':G):Prop where
 nx:g.nx≤g'.nx
 cells:∀ b cs ro,b≠S→b≠R→b < g.nx→g.hp b = some (.cells cs ro)→g'.hp b = some (.cells cs ro)
structure SBd (s:RS):Prop where
 evs:s.evs.length≤100
 rmw:s.rmw.length≤100
 data:s.data.length≤10000
 ctrl:s.ctrl.length≤10000
 now:s.now.length≤100
theorem stC_ev (s:RS) (e:Ev) (dl:List Int) (R:Nat) (reads:List Int) (T:TkS) (t:Tok):stC (evR s e dl) R reads { T with t0:=t,td:=.non,tc:=.non,ti:=.non } =
  .sl (evsC s.evs ++ [.i .i64 e.th,.i .i64 e.kd,.i .i64 e.md,.i .i64 e.lc,.i .i64 e.vl,.b e.ex]) (s.evs.length + 1) t :: .sl (pairsC s.rmw) s.rmw.length T.t1 :: .sl (pairsC (pairsI s.data dl s.evs.length)) (pairsI s.data dl s.evs.length).length .non :: .sl (pairsC (pairsI s.ctrl s.now s.evs.length)) (pairsI s.ctrl s.now s.evs.length).length .non :: .sl [] 0 .non :: .i .i64 (s.used:Int) :: .ms R 0 8 :: .sl (intsC reads) reads.length T.tr :: stT s T:=by
 unfold stC evR stT
 simp[evsC,evC]
theorem rp_event (h117:F 117 = some A_xref05_S_Event) (h130:F 130 = some A_xref05_pairs) {s:RS} {R S:Nat} {reads:List Int} {T:TkS} {g:G} (k:SOk s R S reads T g) (hb:SBd s) (e:Ev) (dl:List Int) (td:Tok) (hd:dl.length≤100):
  ∃ v g',callS F 117 [.mp S 0,.agg (evC e),.sl (intsC dl) dl.length td] g = some (v,g')∧v = .i .i64 (s.evs.length:Int)∧∃ T',SOk (evR s e dl) R S reads T' g'∧Frm S R g g':=by
 obtain ⟨st,rg,l0,l1,ne,sx,rx,sr,fs,f8,r8⟩:=k
 obtain ⟨b1,b2,b3,b4,b5⟩:=hb
 refine raw_of (P:=fun v g' => v = .i .i64 (s.evs.length:Int)∧∃ T',SOk (evR s e dl) R S reads T' g'∧Frm S R g g') h117 ?_
 obtain ⟨_,rfl,hp1⟩:=rp_pairs h130 s.data dl s.evs.length .non .non (by omega)
 obtain ⟨_,rfl,hp2⟩:=rp_pairs h130 s.ctrl s.now s.evs.length .non .non (by omega)
 have hp3:pureS F 130 [.sl [] 0 .non,.sl [] 0 .non,.i .i64 (s.evs.length:Int)] = some (.sl [] 0 .non):=by
  obtain ⟨_,rfl,h⟩:=rp_pairs h130 [] [] s.evs.length .non .non (by simp)
  exact h
 have hel:(evsC s.evs).length = s.evs.length * 6:=evsC_len _
 have s6:∀ b1 b2 b3 b4 b5 b6 c1 c2 c3 c4 c5 c6:AV,splice [b1,b2,b3,b4,b5,b6] 0 [c1,c2,c3,c4,c5,c6] = [c1,c2,c3,c4,c5,c6]:=fun _ _ _ _ _ _ _ _ _ _ _ _ => rfl
 have l5:∀ x:AV,List.replicate 5 x = [x,x,x,x,x]:=fun _ => rfl
 have hl:=stT_len s T
 have hn:=stT_now s T
 have hs:=stT_set s T
 unfold stC at st
 have p6:∀ a b c d e f:AV,part [a,b,c,d,e,f] 0 (some 6) = some (.agg [a,b,c,d,e,f]):=fun _ _ _ _ _ _ => rfl
 have hev:evC e = [.i .i64 e.th,.i .i64 e.kd,.i .i64 e.md,.i .i64 e.lc,.i .i64 e.vl,.b e.ex]:=rfl
 rcases l0 with h0 | ⟨τ,h0,hτ,lτ⟩
 ·rw[h0] at st
  simp (disch:=omega) only[A_xref05_S_Event,wp,qa,qb,qc,gl,st,hev,p6,p16,p17,hn,hs,hl,l5,s6,hel,hp1,hp2,hp3,List.length_set]
  refine ⟨_,rfl,rfl,{ T with t0:=.own (g.nx + 2 + 7 + 8) 6,td:=.non,tc:=.non,ti:=.non },⟨?_,?_,.inr ⟨_,rfl,?_,by first | omega | (dsimp only;omega)⟩,?_,fun i => ?_,by first | omega | (dsimp only;omega),by first | omega | (dsimp only;omega),sr,fs,f8,r8⟩,⟨by first | omega | (dsimp only;omega),fun b cs ro h1 h2 h3 h4 => ?_⟩⟩
  ·rw[stC_ev]
   simp (disch:=omega) only[upd_same]
  ·simp (disch:=omega) only[upd_ne,rg]
   rfl
  ·simp (disch:=omega) only[upd_same,upd_ne]
  ·rcases l1 with h1 | ⟨τ1,h1,hτ1,lτ1⟩
   ·exact .inl h1
   ·have n1:τ1≠S:=fun h => by rw[h,st] at hτ1;cases hτ1
    skip
    exact .inr ⟨τ1,h1,by simp (disch:=omega) only[upd_ne,hτ1],by first | omega | (dsimp only;omega)⟩
  ·by_cases hi:i = g.nx + 2 + 7 + 8
   ·refine .inr fun h => ?_
    rcases l1 with h1 | ⟨τ1,h1,hτ1,lτ1⟩
    ·rw[show (_:TkS).t1 = T.t1 from rfl,h1] at h;cases h
    ·rw[show (_:TkS).t1 = T.t1 from rfl,h1] at h;injection h with h;omega
   ·exact .inl fun h => by injection h with h;omega
  ·simp (disch:=omega) only[upd_ne,h4]
 ·rw[h0] at st
  have m1:τ≠S:=fun h => by rw[h,st] at hτ;cases hτ
  have m2:τ≠R:=fun h => by rw[h,rg] at hτ;cases hτ
  simp (disch:=omega) only[A_xref05_S_Event,wp,qa,qb,qc,gl,st,hτ,hev,p6,p16,p17,hn,hs,hl,l5,s6,hel,hp1,hp2,hp3,List.length_set]
  refine ⟨_,rfl,rfl,{ T with t0:=.own (g.nx + 2 + 7 + 8) 6,td:=.non,tc:=.non,ti:=.non },⟨?_,?_,.inr ⟨_,rfl,?_,by first | omega | (dsimp only;omega)⟩,?_,fun i => ?_,by first | omega | (dsimp only;omega),by first | omega | (dsimp only;omega),sr,fs,f8,r8⟩,⟨by first | omega | (dsimp only;omega),fun b cs ro h1 h2 h3 h4 => ?_⟩⟩
  ·rw[stC_ev]
   simp (disch:=omega) only[upd_same]
  ·simp (disch:=omega) only[upd_ne,rg]
   rfl
  ·simp (disch:=omega) only[upd_same,upd_ne]
  ·rcases l1 with h1 | ⟨τ1,h1,hτ1,lτ1⟩
   ·exact .inl h1
   ·have n1:τ1≠S:=fun h => by rw[h,st] at hτ1;cases hτ1
    have n2:τ1≠τ:=fun h => by rcases ne τ with h2 | h2<;>first | exact h2 h0 | exact h2 (by rw[h1,h])
    exact .inr ⟨τ1,h1,by simp (disch:=omega) only[upd_ne,hτ1],by first | omega | (dsimp only;omega)⟩
  ·by_cases hi:i = g.nx + 2 + 7 + 8
   ·refine .inr fun h => ?_
    rcases l1 with h1 | ⟨τ1,h1,hτ1,lτ1⟩
    ·rw[show (_:TkS).t1 = T.t1 from rfl,h1] at h;cases h
    ·rw[show (_:TkS).t1 = T.t1 from rfl,h1] at h;injection h with h;omega
   ·exact .inl fun h => by injection h with h;omega
  ·have n3:b≠τ:=fun h => by rw[h,hτ] at h4;cases h4
   simp (disch:=omega) only[upd_ne,h4]
end Go.Ab
end
section
set_option linter.unusedVariables false
set_option linter.unusedSimpArgs false
namespace Go.Ab
variable {F:Funs}
theorem set8 (a0 a1 a2 a3 a4 a5 a6 a7:AV) (l:List AV) (r:Nat) (v:AV):(a0 :: a1 :: a2 :: a3 :: a4 :: a5 :: a6 :: a7 :: l).set (8 + r * 1) v = a0 :: a1 :: a2 :: a3 :: a4 :: a5 :: a6 :: a7 :: l.set r v:=by
 rw[show 8 + r * 1 = r + 8 by omega]
 rfl
theorem pt6 (a0 a1 a2 a3 a4 a5 a6:AV) (l:List AV):part (a0 :: a1 :: a2 :: a3 :: a4 :: a5 :: a6 :: l) 6 none = some a6:=rfl
theorem pt7 (a0 a1 a2 a3 a4 a5 a6 a7:AV) (l:List AV):part (a0 :: a1 :: a2 :: a3 :: a4 :: a5 :: a6 :: a7 :: l) 7 none = some a7:=rfl
theorem part8 (a0 a1 a2 a3 a4 a5 a6 a7:AV) (l:List AV) (r:Nat):part (a0 :: a1 :: a2 :: a3 :: a4 :: a5 :: a6 :: a7 :: l) (8 + r * 1) none = l[r]?:=by
 rw[show 8 + r * 1 = r + 8 by omega]
 rfl
theorem stT_putF (s:RS) (T:TkS) {r:Nat} {l:List Int} {t:Tok} (h:r < 8) (hf:s.frm.length = 8) (ht:T.fs.length = 8):(stT s T).set r (.sl (intsC l) l.length t) = stT { s with frm:=s.frm.set r l } { T with fs:=T.fs.set r t }:=by
 unfold stT
 rw[List.set_append_left _ _ (by rw[frC_len];exact h),frC_set h hf ht]
theorem stT_putS (s:RS) (T:TkS) (b:Bool):(stT s T).set 10 (.b b) = stT { s with short:=b } T:=by
 unfold stT
 rw[List.set_append_right _ _ (by rw[frC_len];omega),frC_len]
 rfl
theorem stT_putN (s:RS) (T:TkS) (l:List Int) (t:Tok):(stT s T).set 8 (.sl (intsC l) l.length t) = stT { s with now:=l } { T with tn:=t }:=by
 unfold stT
 rw[List.set_append_right _ _ (by rw[frC_len];omega),frC_len]
 rfl
theorem intsC_set (l:List Int) (r:Nat) (v:Int):(intsC l).set (r * 1) (.i .i64 v) = intsC (l.set r v):=by
 rw[Nat.mul_one];unfold intsC;rw[List.map_set]
theorem SOk.put {s s1:RS} {R S:Nat} {reads:List Int} {T T1:TkS} {g:G} (k:SOk s R S reads T g) (hr:s1.regs = s.regs) (hf:s1.frm.length = 8) (h0:T1.t0 = T.t0) (h1:T1.t1 = T.t1) (hfs:T1.fs.length = 8) {hp':Nat→Option Blk} {m:Nat} (hS:hp' S = some (.cells (stC s1 R reads T1) false)) (ho:∀ i,i < g.nx→i≠S→hp' i = g.hp i) (hm:g.nx≤m):SOk s1 R S reads T1 ⟨hp',m⟩:=by
 obtain ⟨st,rg,l0,l1,ne,sx,rx,sr,fs,f8,r8⟩:=k
 refine ⟨hS,by show hp' R = _;rw[ho R rx (fun h => sr h.symm),hr];exact rg,?_,?_,by rw[h0,h1];exact ne,Nat.lt_of_lt_of_le sx hm,Nat.lt_of_lt_of_le rx hm,sr,hfs,hf,by rw[hr];exact r8⟩
 ·rw[h0]
  rcases l0 with h | ⟨τ,h,hτ,lτ⟩
  ·exact .inl h
  ·exact .inr ⟨τ,h,by show hp' τ = _;rw[ho τ lτ fun h => by rw[h,st] at hτ;cases hτ];exact hτ,Nat.lt_of_lt_of_le lτ hm⟩
 ·rw[h1]
  rcases l1 with h | ⟨τ,h,hτ,lτ⟩
  ·exact .inl h
  ·exact .inr ⟨τ,h,by show hp' τ = _;rw[ho τ lτ fun h => by rw[h,st] at hτ;cases hτ];exact hτ,Nat.lt_of_lt_of_le lτ hm⟩
theorem SOk.old {s:RS} {R S:Nat} {reads:List Int} {T:TkS} {g:G} (k:SOk s R S reads T g) {hp':Nat→Option Blk} {m:Nat} (ho:∀ i,i < g.nx→hp' i = g.hp i) (hm:g.nx≤m):SOk s R S reads T ⟨hp',m⟩:=
 k.put rfl k.f8 rfl rfl k.fs (by rw[ho S k.sx];exact k.st) (fun i hi _ => ho i hi) hm
theorem SOk.putR {s s1:RS} {R S:Nat} {reads:List Int} {T T1:TkS} {g:G} (k:SOk s R S reads T g) (hr8:s1.regs.length = 8) (hf:s1.frm.length = 8) (h0:T1.t0 = T.t0) (h1:T1.t1 = T.t1) (hfs:T1.fs.length = 8) {hp':Nat→Option Blk} {m:Nat} (hS:hp' S = some (.cells (stC s1 R reads T1) false)) (hR:hp' R = some (.cells (intsC s1.regs) false)) (ho:∀ i,i < g.nx→i≠S→i≠R→hp' i = g.hp i) (hm:g.nx≤m):SOk s1 R S reads T1 ⟨hp',m⟩:=by
 obtain ⟨st,rg,l0,l1,ne,sx,rx,sr,fs,f8,r8⟩:=k
 refine ⟨hS,hR,?_,?_,by rw[h0,h1];exact ne,Nat.lt_of_lt_of_le sx hm,Nat.lt_of_lt_of_le rx hm,sr,hfs,hf,hr8⟩
 ·rw[h0]
  rcases l0 with h | ⟨τ,h,hτ,lτ⟩
  ·exact .inl h
  ·exact .inr ⟨τ,h,by show hp' τ = _;rw[ho τ lτ (fun h => by rw[h,st] at hτ;cases hτ) (fun h => by rw[h,rg] at hτ;cases hτ)];exact hτ,Nat.lt_of_lt_of_le lτ hm⟩
 ·rw[h1]
  rcases l1 with h | ⟨τ,h,hτ,lτ⟩
  ·exact .inl h
  ·exact .inr ⟨τ,h,by show hp' τ = _;rw[ho τ lτ (fun h => by rw[h,st] at hτ;cases hτ) (fun h => by rw[h,rg] at hτ;cases hτ)];exact hτ,Nat.lt_of_lt_of_le lτ hm⟩
theorem Frm.trans {S R:Nat} {g g1 g2:G} (h:Frm S R g g1) (k:Frm S R g1 g2):Frm S R g g2:=
 ⟨Nat.le_trans h.nx k.nx,fun b cs ro h1 h2 h3 h4 => k.cells b cs ro h1 h2 (Nat.lt_of_lt_of_le h3 h.nx) (h.cells b cs ro h1 h2 h3 h4)⟩
theorem Frm.of {S R:Nat} {g:G} {hp':Nat→Option Blk} {m:Nat} (hm:g.nx≤m) (ho:∀ i,i < g.nx→i≠S→i≠R→hp' i = g.hp i):Frm S R g ⟨hp',m⟩:=
 ⟨hm,fun b cs ro h1 h2 h3 h4 => by show hp' b = _;rw[ho b h3 h1 h2];exact h4⟩
theorem rp_read (h113:F 113 = some A_xref05_S_Read) (h117:F 117 = some A_xref05_S_Event) (h130:F 130 = some A_xref05_pairs) {s:RS} {R S:Nat} {reads:List Int} {T:TkS} {g:G} (k:SOk s R S reads T g) (hb:SBd s) (hu:s.used≤1000) (loc mode:Int) (ex:Bool) {reg:Nat} (hreg:reg < 8):
  ∃ v g',callS F 113 [.mp S 0,.i .i64 loc,.i .i64 mode,.b ex,.i .i64 ((reg:Nat):Int)] g = some (v,g')∧v = .b (!decide (reads.length≤s.used))∧∃ T',SOk (rdR s reads loc mode ex reg) R S reads T' g'∧Frm S R g g':=by
 have k0:=k
 obtain ⟨st,rg,l0,l1,ne,sx,rx,sr,fs,f8,r8⟩:=k
 refine raw_of (P:=fun v g' => v = .b (!decide (reads.length≤s.used))∧∃ T',SOk (rdR s reads loc mode ex reg) R S reads T' g'∧Frm S R g g') h113 ?_
 have hl:=stT_len s T
 have hn:=stT_now s T
 have hs:=stT_set s T
 have l5:∀ x:AV,List.replicate 5 x = [x,x,x,x,x]:=fun _ => rfl
 unfold stC at st
 by_cases c1:reads.length≤s.used
 ·have c1':((reads.length:Nat):Int)≤((s.used:Nat):Int):=by omega
  simp (disch:=omega) only[A_xref05_S_Read,wp,qa,qb,qc,gl,st,c1',hl,pt6,pt7,p16,p17,set8,part8,hn,hs,List.length_set]
  refine ⟨_,rfl,by rw[decide_eq_true c1];rfl,T,?_,?_⟩
  ·rw[stT_putS]
   unfold rdR
   rw[if_pos c1]
   refine SOk.put (s1:={ s with short:=true }) (T1:=T) k0 rfl f8 rfl rfl fs ?_ (fun i hi h1 => ?_) ?_
   ·simp (disch:=omega) only[upd_same];rfl
   ·simp (disch:=omega) only[upd_ne]
   ·omega
  ·refine Frm.of ?_ fun i hi h1 h2 => ?_
   ·omega
   ·simp (disch:=omega) only[upd_ne]
 ·have c1':¬ ((reads.length:Nat):Int)≤((s.used:Nat):Int):=by omega
  have hip:=ints_part (l:=reads) (k:=s.used) (by omega)
  have hwu:=succ_wrap (k:=s.used) (by omega)
  have hrd:rdR s reads loc mode ex reg = { evR { s with used:=s.used + 1 } ⟨0,1,mode,loc,reads.getD s.used 0,ex⟩ [] with regs:=(evR { s with used:=s.used + 1 } ⟨0,1,mode,loc,reads.getD s.used 0,ex⟩ []).regs.set reg (reads.getD s.used 0),frm:=(evR { s with used:=s.used + 1 } ⟨0,1,mode,loc,reads.getD s.used 0,ex⟩ []).frm.set reg [(s.evs.length:Int)] }:=by
   unfold rdR
   rw[if_neg c1]
  generalize reads.getD s.used 0 = val at hip hrd
  simp (disch:=omega) only[A_xref05_S_Read,wp,qa,qb,qc,gl,st,c1',hl,pt6,pt7,p16,p17,set8,part8,hn,hs,hip,hwu,l5,List.length_set]
  have k1:SOk { s with used:=s.used + 1 } R S reads T ⟨upd g.hp S (some (.cells (stC { s with used:=s.used + 1 } R reads T) false)),g.nx + 1 + 11 + 12 + 10 + 8⟩:=
   SOk.put (s1:={ s with used:=s.used + 1 }) (T1:=T) k0 rfl f8 rfl rfl fs (upd_same ..) (fun i hi h1 => upd_ne _ _ h1) (by omega)
  refine bindO_call (P:=fun v g' => v = .i .i64 (s.evs.length:Int)∧∃ T',SOk (evR { s with used:=s.used + 1 } ⟨0,1,mode,loc,val,ex⟩ []) R S reads T' g'∧Frm S R _ g') (rp_event h117 h130 k1 ⟨hb.evs,hb.rmw,hb.data,hb.ctrl,hb.now⟩ ⟨0,1,mode,loc,val,ex⟩ [] .rig (Nat.zero_le _)) ?_
  rintro v g2 ⟨rfl,T2,k2,fr⟩
  generalize evR { s with used:=s.used + 1 } ⟨0,1,mode,loc,val,ex⟩ [] = s1 at k2 hrd
  have st2:=k2.st
  have rg2:=k2.rg
  have sx2:=k2.sx
  have rx2:=k2.rx
  have hl2:=stT_len s1 T2
  have hrl:(intsC s1.regs).length = 8:=by rw[intsC_len];exact k2.r8
  unfold stC at st2
  simp (disch:=omega) only[wp,qa,qb,qc,gl,st2,rg2,hl2,hrl,pt6,pt7,p16,p17,set8,part8,intsC_set,List.length_set]
  refine ⟨_,rfl,by rw[decide_eq_false c1];rfl,{ T2 with fs:=T2.fs.set reg .rig },?_,?_⟩
  ·rw[hrd]
   have hset:=stT_putF s1 T2 (l:=[(s.evs.length:Int)]) (t:=.rig) hreg k2.f8 k2.fs
   rw[show AV.sl [AV.i .i64 (s.evs.length:Int)] 1 .rig = .sl (intsC [(s.evs.length:Int)]) [(s.evs.length:Int)].length .rig from rfl,hset]
   refine SOk.putR (s1:={ s1 with regs:=s1.regs.set reg val,frm:=s1.frm.set reg [(s.evs.length:Int)] }) (T1:={ T2 with fs:=T2.fs.set reg .rig }) k2 ?_ ?_ rfl rfl ?_ ?_ ?_ (fun i hi h1 h2 => ?_) ?_
   ·show (s1.regs.set reg val).length = 8
    rw[List.length_set];exact k2.r8
   ·show (s1.frm.set reg _).length = 8
    rw[List.length_set];exact k2.f8
   ·show (T2.fs.set reg _).length = 8
    rw[List.length_set];exact k2.fs
   ·simp (disch:=omega) only[upd_same];rfl
   ·have:=k2.sr
    simp (disch:=omega) only[upd_same,upd_ne]
   ·simp (disch:=omega) only[upd_ne]
   ·omega
  ·refine (Frm.of (S:=S) (R:=R) (g:=g) (m:=g.nx + 1 + 11 + 12 + 10 + 8) ?_ fun i hi h1 h2 => ?_).trans (fr.trans (Frm.of ?_ fun i hi h1 h2 => ?_))
   ·omega
   ·exact upd_ne _ _ h1
   ·omega
   ·simp (disch:=omega) only[upd_ne]
end Go.Ab
end
section
set_option linter.unusedVariables false
set_option linter.unusedSimpArgs false
namespace Go.Ab
variable {F:Funs}
theorem rp_write (h114:F 114 = some A_xref05_S_Write) (h117:F 117 = some A_xref05_S_Event) (h130:F 130 = some A_xref05_pairs) {s:RS} {R S:Nat} {reads:List Int} {T:TkS} {g:G} (k:SOk s R S reads T g) (hb:SBd s) (loc mode:Int) (ex:Bool) (val:Int) (dl:List Int) (td:Tok) (hd:dl.length≤100):
  ∃ v g',callS F 114 [.mp S 0,.i .i64 loc,.i .i64 mode,.b ex,.i .i64 val,.sl (intsC dl) dl.length td] g = some (v,g')∧∃ T',SOk (wrR s loc mode ex val dl) R S reads T' g'∧Frm S R g g':=by
 refine raw_of (P:=fun v g' => ∃ T',SOk (wrR s loc mode ex val dl) R S reads T' g'∧Frm S R g g') h114 ?_
 have l5:∀ x:AV,List.replicate 5 x = [x,x,x,x,x]:=fun _ => rfl
 have s2:∀ b1 b2 c1 c2:AV,splice [b1,b2] 0 [c1,c2] = [c1,c2]:=fun _ _ _ _ => rfl
 simp (disch:=omega) only[A_xref05_S_Write,wp,qa,qb,qc,gl,l5]
 have k1:SOk s R S reads T ⟨g.hp,g.nx + 9⟩:=k.old (fun i hi => rfl) (by omega)
 refine bindO_call (P:=fun v g' => v = .i .i64 (s.evs.length:Int)∧∃ T',SOk (evR s ⟨0,2,mode,loc,val,ex⟩ dl) R S reads T' g'∧Frm S R _ g') (rp_event h117 h130 k1 hb ⟨0,2,mode,loc,val,ex⟩ dl td hd) ?_
 rintro v g2 ⟨rfl,T2,k2,fr⟩
 have fr0:Frm S R g g2:=(Frm.of (S:=S) (R:=R) (g:=g) (m:=g.nx + 9) (by omega) fun i hi h1 h2 => rfl).trans fr
 have hwr:wrR s loc mode ex val dl = if ex then { evR s ⟨0,2,mode,loc,val,ex⟩ dl with rmw:=(evR s ⟨0,2,mode,loc,val,ex⟩ dl).rmw ++ [((s.evs.length:Int) - 1,(s.evs.length:Int))] } else evR s ⟨0,2,mode,loc,val,ex⟩ dl:=rfl
 have hrm:(evR s ⟨0,2,mode,loc,val,ex⟩ dl).rmw.length≤100:=hb.rmw
 generalize evR s ⟨0,2,mode,loc,val,ex⟩ dl = s1 at k2 hwr hrm
 have sx2:=k2.sx
 have rx2:=k2.rx
 cases ex with
 | false =>
   simp (disch:=omega) only[wp,qa,qb,qc,gl]
   refine ⟨_,rfl,T2,?_,?_⟩
   ·rw[hwr]
    exact k2.old (fun i hi => rfl) (by omega)
   ·exact fr0.trans (Frm.of (by omega) fun i hi h1 h2 => rfl)
 | true =>
   have st2:=k2.st
   have hpl:(pairsC s1.rmw).length = s1.rmw.length * 2:=pairsC_len _
   have hw:IntKind.i64.wrap ((s.evs.length:Int) - 1) = (s.evs.length:Int) - 1:=i64_wrap (by omega) (by have:=hb.evs;omega)
   unfold stC at st2
   rcases k2.l1 with h1 | ⟨τ,h1,hτ,lτ⟩
   ·rw[h1] at st2
    simp (disch:=omega) only[wp,qa,qb,qc,gl,st2,hpl,hw,s2,List.length_set]
    refine ⟨_,rfl,{ T2 with t1:=.own (g2.nx + 1 + 11) 2 },?_,?_⟩
    ·rw[hwr,if_pos rfl]
     have sr2:=k2.sr
     refine ⟨?_,?_,?_,.inr ⟨_,rfl,?_,?_⟩,fun i => ?_,?_,?_,sr2,k2.fs,k2.f8,k2.r8⟩
     ·simp (disch:=omega) only[upd_same]
      unfold stC stT
      simp[pairsC]
     ·simp (disch:=omega) only[upd_ne,k2.rg]
     ·rcases k2.l0 with h0 | ⟨τ1,h0,hτ1,lτ1⟩
      ·exact .inl h0
      ·have n1:τ1≠S:=fun h => by rw[h,st2] at hτ1;cases hτ1
       skip
       exact .inr ⟨τ1,h0,by simp (disch:=omega) only[upd_ne,hτ1],by dsimp only;omega⟩
     ·simp (disch:=omega) only[upd_same,upd_ne]
     ·dsimp only;omega
     ·by_cases hi:i = g2.nx + 1 + 11
      ·refine .inl fun h => ?_
       rcases k2.l0 with h0 | ⟨τ1,h0,hτ1,lτ1⟩
       ·rw[show (_:TkS).t0 = T2.t0 from rfl,h0] at h;cases h
       ·rw[show (_:TkS).t0 = T2.t0 from rfl,h0] at h;injection h with h;omega
      ·exact .inr fun h => by injection h with h;omega
     ·dsimp only;omega
     ·dsimp only;omega
    ·refine fr0.trans ⟨by dsimp only;omega,fun b cs ro h1 h2 h3 h4 => ?_⟩
     ·simp (disch:=omega) only[upd_ne,h4]
   ·rw[h1] at st2
    have m1:τ≠S:=fun h => by rw[h,st2] at hτ;cases hτ
    simp (disch:=omega) only[wp,qa,qb,qc,gl,st2,hτ,hpl,hw,s2,List.length_set]
    refine ⟨_,rfl,{ T2 with t1:=.own (g2.nx + 1 + 11) 2 },?_,?_⟩
    ·rw[hwr,if_pos rfl]
     have sr2:=k2.sr
     have m2:τ≠R:=fun h => by rw[h,k2.rg] at hτ;cases hτ
     refine ⟨?_,?_,?_,.inr ⟨_,rfl,?_,?_⟩,fun i => ?_,?_,?_,sr2,k2.fs,k2.f8,k2.r8⟩
     ·simp (disch:=omega) only[upd_same]
      unfold stC stT
      simp[pairsC]
     ·simp (disch:=omega) only[upd_ne,k2.rg]
     ·rcases k2.l0 with h0 | ⟨τ1,h0,hτ1,lτ1⟩
      ·exact .inl h0
      ·have n1:τ1≠S:=fun h => by rw[h,st2] at hτ1;cases hτ1
       have n2:τ1≠τ:=fun h => by rcases k2.ne τ with h3 | h3<;>first | exact h3 (by rw[h0,h]) | exact h3 h1
       exact .inr ⟨τ1,h0,by simp (disch:=omega) only[upd_ne,hτ1],by dsimp only;omega⟩
     ·simp (disch:=omega) only[upd_same,upd_ne]
     ·dsimp only;omega
     ·by_cases hi:i = g2.nx + 1 + 11
      ·refine .inl fun h => ?_
       rcases k2.l0 with h0 | ⟨τ1,h0,hτ1,lτ1⟩
       ·rw[show (_:TkS).t0 = T2.t0 from rfl,h0] at h;cases h
       ·rw[show (_:TkS).t0 = T2.t0 from rfl,h0] at h;injection h with h;omega
      ·exact .inr fun h => by injection h with h;omega
     ·dsimp only;omega
     ·dsimp only;omega
    ·refine fr0.trans ⟨by dsimp only;omega,fun b cs ro h1 h2 h3 h4 => ?_⟩
     ·have n3:b≠τ:=fun h => by rw[h,hτ] at h4;cases h4
      simp (disch:=omega) only[upd_ne,h4]
end Go.Ab
end
section
set_option linter.unusedVariables false
set_option linter.unusedSimpArgs false
namespace Go.Ab
variable {F:Funs}
def natC (l:List Nat):List AV:=l.map fun (r:Nat) => .i .i64 ((r:Nat):Int)
def ofL (s:RS) (rs:List Nat):List Int:=rs.foldl (fun l r => bothI l (s.frm.getD r [])) []
theorem ofL_take {s:RS} {rs:List Nat} {k:Nat} (h:k < rs.length):ofL s (rs.take (k + 1)) = bothI (ofL s (rs.take k)) (s.frm.getD (rs.getD k 0) []):=by
 have ht:rs.take (k + 1) = rs.take k ++ [rs.getD k 0]:=by
  rw[List.take_add_one,List.getD_eq_getElem?_getD,List.getElem?_eq_getElem h]
  rfl
 unfold ofL
 rw[ht,List.foldl_append]
 rfl
theorem ofL_len {s:RS} (hf:∀ r,(s.frm.getD r []).length≤100) (rs:List Nat):∀ k,k≤rs.length→(ofL s (rs.take k)).length≤100 * k
 | 0,_ => Nat.zero_le _
 | k + 1,h => by
   rw[ofL_take (by omega)]
   have h1:=bothI_len (a:=ofL s (rs.take k)) (b:=s.frm.getD (rs.getD k 0) [])
   have h2:=ofL_len hf rs k (by omega)
   have h3:=hf (rs.getD k 0)
   omega
theorem nat_part {l:List Nat} {k:Nat} (h:k < l.length):part ((natC l).drop (k * 1)) 0 none = some (.i .i64 ((l.getD k 0:Nat):Int)):=by
 simp only[part,Nat.mul_one,natC]
 rw[List.getElem?_drop,Nat.add_zero,List.getElem?_map,List.getD_eq_getElem?_getD,List.getElem?_eq_getElem h]
 rfl
theorem rp_of (h116:F 116 = some A_xref05_S_Of) (h129:F 129 = some A_xref05_Both) (h132:F 132 = some A_xref05_Put) {s:RS} {R S:Nat} {reads:List Int} {T:TkS} {g:G} (k:SOk s R S reads T g) (hf:∀ r,(s.frm.getD r []).length≤100) {ex:List (Int × Int)} {rs:List Nat} (hrs:pureS F 126 [exV ex] = some (.sl (natC rs) rs.length .non)) (h8:∀ r∈rs,r < 8) (hl8:rs.length≤8):
  ∃ v g',callS F 116 [.mp S 0,exV ex] g = some (v,g')∧(∃ t,v = .sl (intsC (ofL s rs)) (ofL s rs).length t)∧g'.hp = g.hp∧g.nx≤g'.nx:=by
 refine raw_of (P:=fun v g' => (∃ t,v = .sl (intsC (ofL s rs)) (ofL s rs).length t)∧g'.hp = g.hp∧g.nx≤g'.nx) h116 ?_
 obtain ⟨st,rg,l0,l1,ne,sx,rx,sr,fs,f8,r8⟩:=k
 have hl:=stT_len s T
 unfold stC at st
 unfold exV at hrs ⊢
 simp (disch:=omega) only[A_xref05_S_Of,wp,qa,qb,qc,gl,hrs]
 refine W_loop (fun q e g1 => ∃ (i:Nat) (w:Tok),q = rs.length - i∧i≤rs.length∧e 0 = .mp S 0∧e 5 = .sl (intsC (ofL s (rs.take i))) (ofL s (rs.take i)).length w∧e 6 = .sl (natC rs) rs.length .non∧e 7 = .i .i64 ((i:Nat):Int)∧g1.hp = g.hp∧g.nx≤g1.nx) rs.length ?_ ?_
 ·refine ⟨0,.rig,rfl,Nat.zero_le _,?_⟩
  simp (disch:=omega) only[wp,qa,qb,qc]
  exact ⟨rfl,rfl,by omega⟩
 ·rintro q e g1 ⟨i,w,rfl,hi,e0,e5,e6,e7,hh,hx⟩
  rw[←hh] at st
  by_cases c1:i < rs.length
  ·have c1':((i:Nat):Int) < ((rs.length:Nat):Int):=by omega
   have hip:=nat_part c1
   have hw:=succ_wrap (k:=i) (by omega)
   have hr8:rs.getD i 0 < 8:=h8 _ (by rw[List.getD_eq_getElem?_getD,List.getElem?_eq_getElem c1];exact List.getElem_mem c1)
   have hfa:=stT_frm s T hr8
   have hlen:=ofL_len hf rs i hi
   have hfr:=hf (rs.getD i 0)
   obtain ⟨_,rfl,hbo⟩:=rp_both h129 h132 (ofL s (rs.take i)) (s.frm.getD (rs.getD i 0) []) .non .non (by omega)
   rw[←ofL_take c1] at hbo
   generalize rs.getD i 0 = r at hip hr8 hfa hfr hbo
   simp (disch:=omega) only[wp,qa,qb,qc,gl,e0,e5,e6,e7,c1',hip,hw,st,part8,hfa,hl,hbo,List.length_set]
   exact ⟨rs.length - (i + 1),by omega,i + 1,.non,rfl,by omega,rfl,rfl,hh,by omega⟩
  ·have c1':¬ ((i:Nat):Int) < ((rs.length:Nat):Int):=by omega
   obtain rfl:i = rs.length:=by omega
   rw[List.take_length] at e5
   simp (disch:=omega) only[wp,qa,qb,qc,gl,e0,e5,e6,e7,c1']
   exact ⟨_,rfl,⟨w,rfl⟩,hh,by omega⟩
theorem ints_pt {l:List Int} {k:Nat} (h:k < l.length):part (intsC l) (k * 1) none = some (.i .i64 (l.getD k 0)):=by
 simp only[part,Nat.mul_one,intsC]
 rw[List.getElem?_map,List.getD_eq_getElem?_getD,List.getElem?_eq_getElem h]
 rfl
theorem rdR_bd {s:RS} {reads:List Int} {loc md:Int} {ex:Bool} {reg:Nat} (hb:SBd s) (h1:s.evs.length + 1≤100) (h2:s.ctrl.length + 100≤10000):SBd (rdR s reads loc md ex reg):=by
 unfold rdR
 split
 ·exact ⟨hb.evs,hb.rmw,hb.data,hb.ctrl,hb.now⟩
 ·refine ⟨by show (s.evs ++ [_]).length≤100;simpa using h1,hb.rmw,hb.data,?_,hb.now⟩
  show (pairsI s.ctrl s.now _).length≤10000
  rw[pairsI_len]
  have:=hb.now
  omega
theorem rdR_frm {s:RS} {reads:List Int} {loc md:Int} {ex:Bool} {reg:Nat} {m:Nat} (hm:1≤m) (hf:∀ r,(s.frm.getD r []).length≤m) (r:Nat):((rdR s reads loc md ex reg).frm.getD r []).length≤m:=by
 unfold rdR
 split
 ·exact hf r
 ·show ((s.frm.set reg [_]).getD r []).length≤m
  rw[List.getD_eq_getElem?_getD,List.getElem?_set]
  split
  ·split
   ·simpa using hm
   ·simp
  ·have:=hf r
   rwa [List.getD_eq_getElem?_getD] at this
structure RunF (F:Funs):Prop where
 event:F 117 = some A_xref05_S_Event
 read:F 113 = some A_xref05_S_Read
 write:F 114 = some A_xref05_S_Write
 of_:F 116 = some A_xref05_S_Of
 faa:F 118 = some A_xref05_S_faa
 move:F 119 = some A_xref05_S_Move
 skip:F 120 = some A_xref05_S_Skip
 start:F 112 = some A_xref05_Start
 do_:F 104 = some A_xref05_Do
 both:F 129 = some A_xref05_Both
 pairs:F 130 = some A_xref05_pairs
 put:F 132 = some A_xref05_Put
structure ExW (F:Funs) (ex:List (Int × Int)) (regs:List Int) (rs:List Nat) (val:Int):Prop where
 reck:pureS F 115 [exV ex,.sl (intsC regs) 8 .non] = some (.i .i64 val)
 regs:pureS F 126 [exV ex] = some (.sl (natC rs) rs.length .non)
 lt:∀ r∈rs,r < 8
 len:rs.length≤8
theorem ints_flat (l:List Int):(intsC l).all flat = true:=by
 unfold intsC
 rw[List.all_map]
 exact List.all_eq_true.2 fun x _ => rfl
theorem rp_move (A:RunF F) {s:RS} {R S:Nat} {reads:List Int} {T:TkS} {g:G} (k:SOk s R S reads T g) (hf:∀ r,(s.frm.getD r []).length≤100) {ex:List (Int × Int)} {rs:List Nat} {val:Int} (X:ExW F ex s.regs rs val) {reg:Nat} (hreg:reg < 8):
  ∃ v g',callS F 119 [.mp S 0,.i .i64 ((reg:Nat):Int),exV ex] g = some (v,g')∧∃ T',SOk { s with regs:=s.regs.set reg val,frm:=s.frm.set reg (ofL s rs) } R S reads T' g'∧Frm S R g g':=by
 refine raw_of (P:=fun v g' => ∃ T',SOk { s with regs:=s.regs.set reg val,frm:=s.frm.set reg (ofL s rs) } R S reads T' g'∧Frm S R g g') A.move ?_
 simp (disch:=omega) only[A_xref05_S_Move,wp,qa,qb,qc,gl]
 refine bindO_see (P:=fun v g' => (∃ t,v = .sl (intsC (ofL s rs)) (ofL s rs).length t)∧g'.hp = g.hp∧g.nx + 4≤g'.nx) (rp_of A.of_ A.both A.put (k.old (m:=g.nx + 4) (fun i hi => rfl) (by omega)) hf X.regs X.lt X.len) (fun v g' h => fun i b hb => by rw[h.2.1];exact hb) ?_
 rintro v g2 ⟨⟨w,rfl⟩,hh,hx⟩
 have k2:SOk s R S reads T g2:=k.old (hp':=g2.hp) (m:=g2.nx) (fun i hi => by rw[hh]) (by omega)
 have st2:=k2.st
 have rg2:=k2.rg
 have sx2:=k2.sx
 have rx2:=k2.rx
 have sr2:=k2.sr
 have hl2:=stT_len s T
 have hrl:(intsC s.regs).length = 8:=by rw[intsC_len];exact k2.r8
 have hev:=X.reck
 have hr8:=k.r8
 have hrt:(intsC s.regs).take (8 * 1) = intsC s.regs:=intsC_all k.r8
 unfold exV at hev ⊢
 unfold stC at st2
 simp (disch:=omega) only[wp,qa,qb,qc,gl,st2,rg2,hl2,hrl,hrt,hev,ints_flat,pt6,pt7,p16,p17,set8,part8,intsC_set,List.length_set]
 refine ⟨_,rfl,{ T with fs:=T.fs.set reg w },?_,?_⟩
 ·rw[stT_putF s T hreg k.f8 k.fs]
  refine SOk.putR (s1:={ s with regs:=s.regs.set reg val,frm:=s.frm.set reg (ofL s rs) }) (T1:={ T with fs:=T.fs.set reg w }) k2 ?_ ?_ rfl rfl ?_ ?_ ?_ (fun i hi h1 h2 => ?_) ?_
  ·show (s.regs.set reg val).length = 8
   rw[List.length_set];exact hr8
  ·show (s.frm.set reg _).length = 8
   rw[List.length_set];exact k.f8
  ·show (T.fs.set reg _).length = 8
   rw[List.length_set];exact k.fs
  ·simp (disch:=omega) only[upd_same];rfl
  ·simp (disch:=omega) only[upd_same,upd_ne]
  ·simp (disch:=omega) only[upd_ne]
  ·omega
 ·refine Frm.of ?_ fun i hi h1 h2 => ?_
  ·omega
  ·simp (disch:=omega) only[upd_ne]
   rw[hh]
theorem rp_skip (A:RunF F) {s:RS} {R S:Nat} {reads:List Int} {T:TkS} {g:G} (k:SOk s R S reads T g) (hb:SBd s) (hf:∀ r,(s.frm.getD r []).length≤100) {ex:List (Int × Int)} {rs:List Nat} {val:Int} (X:ExW F ex s.regs rs val) (n:Int):
  ∃ v g',callS F 120 [.mp S 0,.i .i64 n,exV ex] g = some (v,g')∧v = .i .i64 (if val = 0 then 0 else n)∧∃ T',SOk { s with now:=bothI s.now (ofL s rs) } R S reads T' g'∧Frm S R g g':=by
 refine raw_of (P:=fun v g' => v = .i .i64 (if val = 0 then 0 else n)∧∃ T',SOk { s with now:=bothI s.now (ofL s rs) } R S reads T' g'∧Frm S R g g') A.skip ?_
 have st0:=k.st
 have sx:=k.sx
 have hl:=stT_len s T
 have hn:=stT_now s T
 unfold stC at st0
 have hol:=ofL_len hf rs rs.length (Nat.le_refl _)
 rw[List.take_length] at hol
 have h8:=X.len
 have hnw:=hb.now
 obtain ⟨_,rfl,hbo⟩:=rp_both A.both A.put s.now (ofL s rs) .non .non (by omega)
 simp (disch:=omega) only[A_xref05_S_Skip,wp,qa,qb,qc,gl,st0,p16,p17,hl,hn,List.length_set]
 refine bindO_see (P:=fun v g' => (∃ t,v = .sl (intsC (ofL s rs)) (ofL s rs).length t)∧g'.hp = g.hp∧g.nx + 13≤g'.nx) (rp_of A.of_ A.both A.put (k.old (m:=g.nx + 13) (fun i hi => rfl) (by omega)) hf X.regs X.lt X.len) (fun v g' h => fun i b hb => by rw[h.2.1];exact hb) ?_
 rintro v g2 ⟨⟨w,rfl⟩,hh,hx⟩
 have k2:SOk s R S reads T g2:=k.old (hp':=g2.hp) (m:=g2.nx) (fun i hi => by rw[hh]) (by omega)
 have st2:=k2.st
 have rg2:=k2.rg
 have sx2:=k2.sx
 have rx2:=k2.rx
 have sr2:=k2.sr
 have hrl:(intsC s.regs).length = 8:=by rw[intsC_len];exact k2.r8
 have hev:=X.reck
 have hrt:(intsC s.regs).take (8 * 1) = intsC s.regs:=intsC_all k.r8
 unfold exV at hev ⊢
 unfold stC at st2
 by_cases c:val = 0
 ·rw[if_pos c]
  have c':(val != 0) = false:=by simp[c]
  simp (disch:=omega) only[wp,qa,qb,qc,gl,st2,rg2,hl,hn,hrl,hrt,hev,ints_flat,hbo,c',pt6,pt7,p16,p17,set8,part8,intsC_set,List.length_set]
  refine ⟨_,rfl,rfl,{ T with tn:=.non },?_,?_⟩
  ·rw[stT_putN]
   refine SOk.put (s1:={ s with now:=bothI s.now (ofL s rs) }) (T1:={ T with tn:=.non }) k2 rfl k.f8 rfl rfl k.fs ?_ (fun i hi h1 => ?_) ?_
   ·simp (disch:=omega) only[upd_same];rfl
   ·simp (disch:=omega) only[upd_ne]
   ·omega
  ·refine Frm.of ?_ fun i hi h1 h2 => ?_
   ·omega
   ·simp (disch:=omega) only[upd_ne]
    rw[hh]
 ·rw[if_neg c]
  have c':(val != 0) = true:=by simpa using c
  simp (disch:=omega) only[wp,qa,qb,qc,gl,st2,rg2,hl,hn,hrl,hrt,hev,ints_flat,hbo,c',pt6,pt7,p16,p17,set8,part8,intsC_set,List.length_set]
  refine ⟨_,rfl,rfl,{ T with tn:=.non },?_,?_⟩
  ·rw[stT_putN]
   refine SOk.put (s1:={ s with now:=bothI s.now (ofL s rs) }) (T1:={ T with tn:=.non }) k2 rfl k.f8 rfl rfl k.fs ?_ (fun i hi h1 => ?_) ?_
   ·simp (disch:=omega) only[upd_same];rfl
   ·simp (disch:=omega) only[upd_ne]
   ·omega
  ·refine Frm.of ?_ fun i hi h1 h2 => ?_
   ·omega
   ·simp (disch:=omega) only[upd_ne]
    rw[hh]
theorem rp_faa (A:RunF F)  {s:RS} {R S:Nat} {reads:List Int} {T:TkS} {g:G} (k:SOk s R S reads T g) (hb:SBd s) (hb1:s.evs.length + 1≤100) (hb2:s.ctrl.length + 100≤10000) (hu:s.used≤1000) (hf5:∀ r,(s.frm.getD r []).length≤50) {ex:List (Int × Int)} {rs:List Nat} {val:Int} (ho:(ofL s rs).length≤50) (X:ExW F ex s.regs rs val) (kd md md2 loc n:Int) {reg:Nat} (hreg:reg < 8):
  ∃ v g',callS F 118 [.mp S 0,.agg [.i .i64 kd,.i .i64 md,.i .i64 md2,.i .i64 ((reg:Nat):Int),.i .i64 loc,exV ex,.i .i64 n]] g = some (v,g')∧∃ T',SOk (faR s reads loc md md2 reg (ofL s rs) val) R S reads T' g'∧Frm S R g g':=by
 refine raw_of (P:=fun v g' => ∃ T',SOk (faR s reads loc md md2 reg (ofL s rs) val) R S reads T' g'∧Frm S R g g') A.faa ?_
 have hf:∀ r,(s.frm.getD r []).length≤100:=fun r => Nat.le_trans (hf5 r) (by omega)
 unfold exV
 simp (disch:=omega) only[A_xref05_S_faa,wp,qa,qb,qc,gl]
 generalize hC:[AV.i .i64 kd,AV.i .i64 md,AV.i .i64 md2,AV.i .i64 ((reg:Nat):Int),AV.i .i64 loc,AV.sl (tkC ex) ex.length .non,AV.i .i64 n] = C
 have c1:part C 1 none = some (.i .i64 md):=by rw[←hC];rfl
 have c2:part C 2 none = some (.i .i64 md2):=by rw[←hC];rfl
 have c3:part C 3 none = some (.i .i64 ((reg:Nat):Int)):=by rw[←hC];rfl
 have c4:part C 4 none = some (.i .i64 loc):=by rw[←hC];rfl
 have c5:part C 5 none = some (.sl (tkC ex) ex.length .non):=by rw[←hC];rfl
 have cl:C.length = 7:=by rw[←hC];rfl
 have kx:SOk s R S reads T ⟨upd g.hp g.nx (some (.cells C false)),g.nx + 1 + 5⟩:=k.old (fun i hi => upd_ne _ _ (by omega)) (by omega)
 refine bindO_see (P:=fun v g' => (∃ t,v = .sl (intsC (ofL s rs)) (ofL s rs).length t)∧g'.hp = upd g.hp g.nx (some (.cells C false))∧g.nx + 1 + 5≤g'.nx) (rp_of A.of_ A.both A.put kx hf X.regs X.lt X.len) (fun v g' h => fun i b hb => by rw[h.2.1];exact hb) ?_
 rintro v g2 ⟨⟨w,rfl⟩,hh,hx⟩
 have k2:SOk s R S reads T g2:=kx.old (hp':=g2.hp) (m:=g2.nx) (fun i hi => by rw[hh]) hx
 have hbx:g2.hp g.nx = some (.cells C false):=by rw[hh];exact upd_same ..
 have fr2:Frm S R g g2:=Frm.of (by omega) fun i hi h1 h2 => by rw[hh];exact upd_ne _ _ (by omega)
 have gx:g.nx < g2.nx:=by omega
 have sx:=k.sx
 have rx:=k.rx
 have st2:=k2.st
 have rg2:=k2.rg
 have sx2:=k2.sx
 have rx2:=k2.rx
 have sr2:=k2.sr
 have hrl:(intsC s.regs).length = 8:=by rw[intsC_len];exact k2.r8
 have hev:=X.reck
 have hrt:(intsC s.regs).take (8 * 1) = intsC s.regs:=intsC_all k.r8
 unfold exV at hev
 unfold stC at st2
 simp (disch:=omega) only[wp,qa,qb,qc,gl,hbx,c1,c3,c4,c5,cl,st2,rg2,hrl,hrt,hev,ints_flat,pt6,pt7,List.length_set]
 refine bindO_call (P:=fun v g' => v = .b (!decide (reads.length≤s.used))∧∃ T',SOk (rdR s reads loc md true reg) R S reads T' g'∧Frm S R _ g') (rp_read A.read A.event A.pairs (k2.old (hp':=g2.hp) (m:=g2.nx + 9 + 8) (fun i hi => rfl) (by omega)) hb hu loc md true hreg) ?_
 rintro v g3 ⟨rfl,T3,k3,fr3⟩
 have fr03:Frm S R g g3:=fr2.trans ((Frm.of (hp':=g2.hp) (m:=g2.nx + 9 + 8) (by omega) fun i hi h1 h2 => rfl).trans fr3)
 have hbx3:g3.hp g.nx = some (.cells C false):=fr3.cells g.nx C false (by omega) (by omega) (by dsimp only;omega) hbx
 have gx3:g.nx < g3.nx:=by have:=fr3.nx;dsimp only at this;omega
 have hfa:faR s reads loc md md2 reg (ofL s rs) val = if reads.length≤s.used then rdR s reads loc md true reg else wrR (rdR s reads loc md true reg) loc md2 true (IntKind.i64.wrap ((rdR s reads loc md true reg).regs.getD reg 0 + val)) (bothI (ofL s rs) ((rdR s reads loc md true reg).frm.getD reg [])):=rfl
 by_cases cu:reads.length≤s.used
 ·rw[decide_eq_true cu]
  rw[if_pos cu] at hfa
  simp (disch:=omega) only[wp,qa,qb,qc,gl,Bool.not_true]
  exact ⟨_,rfl,T3,by rw[hfa];exact k3,fr03⟩
 ·rw[decide_eq_false cu]
  rw[if_neg cu] at hfa
  have hb3:SBd (rdR s reads loc md true reg):=rdR_bd hb hb1 hb2
  have hf3:((rdR s reads loc md true reg).frm.getD reg []).length≤50:=rdR_frm (by omega) hf5 reg
  generalize rdR s reads loc md true reg = s1 at k3 hfa hb3 hf3
  have st3:=k3.st
  have rg3:=k3.rg
  have sx3:=k3.sx
  have rx3:=k3.rx
  have hl3:=stT_len s1 T3
  have hrl3:(intsC s1.regs).length = 8:=by rw[intsC_len];exact k3.r8
  have hrp:=ints_pt (l:=s1.regs) (k:=reg) (by rw[k3.r8];exact hreg)
  have hfp:=stT_frm s1 T3 hreg
  obtain ⟨_,rfl,hbo⟩:=rp_both A.both A.put (ofL s rs) (s1.frm.getD reg []) .non .non (by omega)
  unfold stC at st3
  simp (disch:=omega) only[wp,qa,qb,qc,gl,Bool.not_false,hbx3,c1,c2,c3,c4,c5,cl,st3,rg3,hl3,hrl3,hrp,hfp,hbo,part8,pt6,pt7,List.length_set]
  have hbl:=bothI_len (a:=ofL s rs) (b:=s1.frm.getD reg [])
  refine bindO_call (P:=fun v g' => ∃ T',SOk (wrR s1 loc md2 true (IntKind.i64.wrap (s1.regs.getD reg 0 + val)) (bothI (ofL s rs) (s1.frm.getD reg []))) R S reads T' g'∧Frm S R _ g') (rp_write A.write A.event A.pairs (k3.old (hp':=g3.hp) (m:=g3.nx + 26) (fun i hi => rfl) (by omega)) hb3 loc md2 true _ (bothI (ofL s rs) (s1.frm.getD reg [])) .non (by omega)) ?_
  rintro v g4 ⟨T4,k4,fr4⟩
  simp (disch:=omega) only[wp,qa,qb,qc,gl]
  exact ⟨_,rfl,T4,by rw[hfa];exact k4,fr03.trans ((Frm.of (hp':=g3.hp) (m:=g3.nx + 26) (by omega) fun i hi h1 h2 => rfl).trans fr4)⟩
end Go.Ab
end
section
set_option linter.unusedVariables false
set_option linter.unusedSimpArgs false
namespace Go.Ab
variable {F:Funs}
theorem rp_start (A:RunF F) (g:G) (reads:List Int) (tr:Tok):
  ∃ v g',callS F 112 [.sl (intsC reads) reads.length tr] g = some (v,g')∧∃ R S T,v = .mp S 0∧SOk rs0 R S reads T g'∧g.nx≤S∧g.nx≤R∧(∀ i,i < g.nx→g'.hp i = g.hp i)∧g.nx≤g'.nx:=by
 refine raw_of (P:=fun v g' => ∃ R S T,v = .mp S 0∧SOk rs0 R S reads T g'∧g.nx≤S∧g.nx≤R∧(∀ i,i < g.nx→g'.hp i = g.hp i)∧g.nx≤g'.nx) A.start ?_
 have l5:∀ x:AV,List.replicate 5 x = [x,x,x,x,x]:=fun _ => rfl
 have l12:∀ x:AV,List.replicate 12 x = [x,x,x,x,x,x,x,x,x,x,x,x]:=fun _ => rfl
 have hmk:∀ (id:Nat) (g:G),vMksl id [.i .i64 0] 1 8 (.i .i64 8) (.i .i64 8) g = some (.ms id 0 8,⟨upd g.hp id (some (.cells (intsC (List.replicate 8 0)) false)),g.nx⟩):=fun id g => vMksl_ms (n:=8) (by omega) (by omega) (by omega) rfl
 simp (disch:=omega) only[A_xref05_Start,wp,qa,qb,qc,gl,l5,l12,o_mksl,hmk,List.length_set]
 refine ⟨_,rfl,g.nx + 1 + 4 + 1,g.nx + 1 + 2,⟨.rig,.rig,.rig,.rig,.rig,tr,.rig,.rig,List.replicate 8 .rig⟩,rfl,⟨?_,?_,.inl rfl,.inl rfl,fun i => .inl (fun h => by cases h),?_,?_,?_,rfl,rfl,rfl⟩,?_,?_,fun i hi => ?_,?_⟩
 ·simp (disch:=omega) only[upd_same]
  rfl
 ·simp (disch:=omega) only[upd_same,upd_ne]
  rfl
 ·dsimp only;omega
 ·dsimp only;omega
 ·omega
 ·omega
 ·omega
 ·simp (disch:=omega) only[upd_ne]
 ·first | omega | (dsimp only;omega)
theorem p07 (a0 a1 a2 a3 a4 a5 a6:AV) (l:List AV):part (a0 :: a1 :: a2 :: a3 :: a4 :: a5 :: a6 :: l) 0 (some 7) = some (.agg [a0,a1,a2,a3,a4,a5,a6]):=by
 have h:0 + 7≤(a0 :: a1 :: a2 :: a3 :: a4 :: a5 :: a6 :: l).length:=by simp only[List.length_cons];omega
 simp only[part,if_pos h]
 rfl
theorem res_c7 {n m b:Nat} {e:Env} {g:G} {cs:List AV} {ro:Bool} {v:AV} {a:Option Nat} (h:e n = .mp b 0) (h2:g.hp b = some (.cells cs ro)) (h3:part cs 0 a = some v):resE [.cell n a,.t m] e g = some (.tup [v,e m]):=by
 simp only[resE,resAll,resOne,h,h2,h3]
theorem retC7 {n m b:Nat} {e:Env} {g:G} {cs:List AV} {ro:Bool} {v V w:AV} {a:Option Nat} (h:e n = .mp b 0) (h2:g.hp b = some (.cells cs ro)) (h3:part cs 0 a = some v) (h5:e m = w) (h4:frz g.hp depth (.tup [v,w]) = some V):(match resE [.cell n a,.t m] e g with | some v0 => frz g.hp depth v0 | none => none) = some V:=by
 rw[res_c7 h h2 h3,h5]
 exact h4
theorem frzL_ints (hp:Nat→Option Blk) (k:Nat):∀ l:List Int,frzL hp (k + 1) (intsC l) = some (intsC l)
 | [] => by simp[intsC,frzL]
 | x :: l => by
   have:=frzL_ints hp k l
   simp only[intsC,List.map_cons,frzL,frz] at this ⊢
   rw[this]
def zR:List AV:=[.sl [] 0 .rig,.sl [] 0 .rig,.sl [] 0 .rig,.sl [] 0 .rig,.sl [] 0 .rig,.i .i64 0,.sl [] 0 .rig]
def roC (s:RS):List AV:=if s.short then [.sl [] 0 .non,.sl [] 0 .non,.sl [] 0 .non,.sl [] 0 .non,.sl [] 0 .non,.i .i64 0,.sl [] 0 .non] else
 [.sl (evsC s.evs) s.evs.length .non,.sl (pairsC s.rmw) s.rmw.length .non,.sl (pairsC s.data) s.data.length .non,.sl (pairsC s.ctrl) s.ctrl.length .non,.sl [] 0 .non,.i .i64 (s.used:Int),.sl (intsC s.regs) 8 .non]
def VOk (F:Funs) (V:List (Int × Int)→List Int→Int):Prop:=∀ ex regs,ExOk ex→regs.length = 8→ExW F ex regs (exR ex) (V ex regs)
structure DoI (F:Funs) (V:List (Int × Int)→List Int→Int) (th:List Ins) (reads:List Int) (R S k:Nat) (s:RS) (T:TkS) (e:Env) (g:G):Prop where
 hk:k≤th.length
 e0:e 0 = .sl (insLC th) th.length .non
 e4:e 4 = .mp 0 0
 e6:e 6 = .mp S 0
 e7:e 7 = .i .i64 ((k:Nat):Int)
 h0:g.hp 0 = some (.cells zR false)
 ok:SOk s R S reads T g
 s0:0 < S
 r0:0 < R
 inv:RInv s
 run:runR V reads th (th.length - k) k s = doR V th reads
 used:s.used≤k
 evs:s.evs.length≤2 * k
theorem DoI.mv {V:List (Int × Int)→List Int→Int} {th:List Ins} {reads:List Int} {R S k:Nat} {s:RS} {T:TkS} {e e':Env} {g:G} {m:Nat} (I:DoI F V th reads R S k s T e g) (h0:e' 0 = e 0) (h4:e' 4 = e 4) (h6:e' 6 = e 6) (h7:e' 7 = e 7) (hm:g.nx≤m):DoI F V th reads R S k s T e' ⟨g.hp,m⟩:=
 ⟨I.hk,h0.trans I.e0,h4.trans I.e4,h6.trans I.e6,h7.trans I.e7,I.h0,I.ok.old (fun i hi => rfl) hm,I.s0,I.r0,I.inv,I.run,I.used,I.evs⟩
theorem rp_do (A:RunF F) {V:List (Int × Int)→List Int→Int} (hV:VOk F V) {th:List Ins} (hth:ThK th) (reads:List Int) (tr:Tok) (hr:reads.length≤1000):
  pureS F 104 [.sl (insLC th) th.length .non,.sl (intsC reads) reads.length tr] = some (.tup [.agg (roC (doR V th reads)),.b (!(doR V th reads).short)]):=by
 refine pure_of A.do_ ?_
 have l5:∀ x:AV,List.replicate 5 x = [x,x,x,x,x]:=fun _ => rfl
 have s7:∀ b1 b2 b3 b4 b5 b6 b7 c1 c2 c3 c4 c5 c6 c7:AV,splice [b1,b2,b3,b4,b5,b6,b7] 0 [c1,c2,c3,c4,c5,c6,c7] = [c1,c2,c3,c4,c5,c6,c7]:=fun _ _ _ _ _ _ _ _ _ _ _ _ _ _ => rfl
 simp (disch:=omega) only[A_xref05_Do,wp,qa,qb,qc,gl,l5]
 refine bindO_call (P:=fun v g' => ∃ R S T,v = .mp S 0∧SOk rs0 R S reads T g'∧1≤S∧1≤R∧(∀ i,i < 1→g'.hp i = some (.cells zR false))∧1≤g'.nx) ?_ ?_
 ·obtain ⟨v,g',h1,R,S,T,h2,h3,h4,h5,h6,h7⟩:=rp_start A ⟨upd (fun _ => none) 0 (some (.cells zR false)),5⟩ reads tr
  exact ⟨v,g',h1,R,S,T,h2,h3,by dsimp only at h4;omega,by dsimp only at h5;omega,fun i hi => by
   obtain rfl:i = 0:=by omega
   rw[h6 0 (by dsimp only;omega)]
   rfl,by dsimp only at h7;omega⟩
 ·rintro v g1 ⟨R,S,T,rfl,k0,hS,hR,hz,hx⟩
  simp (disch:=omega) only[wp,qa,qb,qc,gl]
  refine blk_cut (fun e g => ∃ (k:Nat) (s:RS) (T:TkS),DoI F V th reads R S k s T e g∧(s.short = true∨k = th.length)) ?_ ?_
  ·refine W_loop (fun q e g => ∃ (k:Nat) (s:RS) (T:TkS),q = th.length - k∧DoI F V th reads R S k s T e g) th.length ?_ ?_
   ·refine ⟨0,rs0,T,rfl,⟨Nat.zero_le _,?_,?_,?_,?_,?_,?_,hS,hR,rs0_inv,rfl,Nat.zero_le _,Nat.zero_le _⟩⟩
    ·rfl
    ·rfl
    ·rfl
    ·rfl
    ·exact hz 0 (by omega)
    ·exact k0.old (fun i hi => rfl) (by omega)
   ·rintro q e g ⟨k,s,T,rfl,I⟩
    have hle:=hth.len
    have st:=I.ok.st
    have sx:=I.ok.sx
    have rx:=I.ok.rx
    have hz0:=I.h0
    have sS:=I.s0
    have sR:=I.r0
    have e0:=I.e0
    have e4:=I.e4
    have e6:=I.e6
    have e7:=I.e7
    have hl:=stT_len s T
    have hsh:=stT_short s T
    have rgv:=I.ok.rg
    have hrl:(intsC s.regs).length = 8:=by rw[intsC_len];exact I.ok.r8
    have hrt:(intsC s.regs).take (8 * 1) = intsC s.regs:=intsC_all I.ok.r8
    unfold stC at st
    by_cases c1:k < th.length
    ·have c1':((k:Nat):Int) < ((th.length:Nat):Int):=by omega
     cases c2:s.short with
     | true =>
       rw[c2] at hsh
       simp (disch:=omega) only[wp,qa,qb,qc,gl,e0,e6,e7,c1',st,p18,hl,hsh]
       exact ⟨k,s,T,I.mv rfl rfl rfl rfl (by omega),.inl c2⟩
     | false =>
       rw[c2] at hsh
       have hia:=ins_at c1
       have hx:=hth.ins k c1
       have hwk:=succ_wrap (k:=k) (by omega)
       have hev:=I.evs
       have hsq:s.evs.length * s.evs.length≤24 * 24:=Nat.mul_le_mul (by omega) (by omega)
       have hrm:=I.inv.rmw.len
       have hdl:=I.inv.b.dl
       have hcl:=I.inv.b.cl
       have hnw:=I.inv.b.now.len
       have hbd:SBd s:=⟨by omega,by omega,by omega,by omega,by omega⟩
       have hfr:∀ r,(s.frm.getD r []).length≤50:=fun r => by have:=(I.inv.b.at r).len;omega
       have hfr2:∀ r,(s.frm.getD r []).length≤100:=fun r => by have:=hfr r;omega
       have hof:∀ ex,(ofL s (exR ex)).length≤50:=fun ex => by have:=(I.inv.b.of ex).len;unfold ofR at this;unfold ofL;omega
       have hus:=I.used
       have hrn:=I.run
       rw[show th.length - k = (th.length - (k + 1)) + 1 by omega] at hrn
       unfold runR at hrn
       rw[if_pos ⟨c1,c2⟩] at hrn
       have hin:=fun x => (I.inv.st (V:=V) (reads:=reads) (x:=x) (left:=((th.length - 1 - k:Nat):Int)))
       have hsu:=stR_used V reads s (th.getD k fence0)
       have hse:=stR_evs V reads s (th.getD k fence0)
       have hin':=hin _ hx
       generalize th.getD k fence0 = x at hia hx hrn hsu hse hin'
       have fin:∀ (e':Env) (g':G) (T':TkS) (k':Nat),k' = k + skR V s x + 1→k'≤th.length→e' 0 = .sl (insLC th) th.length .non→e' 4 = .mp 0 0→e' 6 = .mp S 0→e' 7 = .i .i64 ((k':Nat):Int)→g'.hp 0 = some (.cells zR false)→SOk (stR V reads s x) R S reads T' g'→∃ m',m' < th.length - k∧∃ (k:Nat) (s:RS) (T:TkS),m' = th.length - k∧DoI F V th reads R S k s T e' g':=by
        intro e' g' T' k' hk' hkl a0 a4 a6 a7 ah ak
        refine ⟨th.length - k',by omega,k',stR V reads s x,T',rfl,⟨hkl,a0,a4,a6,a7,ah,ak,I.s0,I.r0,hin',?_,by omega,by omega⟩⟩
        rw[←hrn,hk']
        exact runR_fuel _ _ _ _ (by omega) (by omega)
       have hval:True:=trivial
       cases hx with
       | ld md rg lc h1 h2 h3 =>
         obtain ⟨r,rfl⟩:∃ r:Nat,rg = (r:Int):=⟨rg.toNat,by omega⟩
         simp (disch:=omega) only[wp,qa,qb,qc,gl,insC,exV,e0,e6,e7,c1',st,p18,hl,hsh,hia,l5,s7,part_ag7,rgv,hrl,hrt,ints_flat,hval,pt6,hwk,Int.reduceBEq]
         refine bindO_call (P:=fun v g' => v = .b (!decide (reads.length≤s.used))∧∃ T',SOk (rdR s reads lc md false r) R S reads T' g'∧Frm S R _ g') (rp_read A.read A.event A.pairs (I.ok.old (fun i hi => by simp (disch:=omega) only[upd_ne]) (by omega)) hbd (by omega) lc md false (by omega)) ?_
         rintro v g2 ⟨rfl,T2,k2,fr⟩
         have h02:g2.hp 0 = some (.cells zR false):=fr.cells 0 zR false (by omega) (by omega) (by dsimp only;omega) (by simp (disch:=omega) only[upd_ne,hz0])
         simp (disch:=omega) only[wp,qa,qb,qc,gl,e0,e4,e6,e7,hwk]
         exact fin _ _ T2 (k + 1) (by simp[skR]) (by omega) e0 e4 e6 rfl h02 (by unfold stR;rw[if_pos rfl];exact k2.old (fun i hi => rfl) (by omega))
       | st md lc ex h1 h3 he =>
         have hval:=(hV ex s.regs he I.ok.r8).reck
         unfold exV at hval
         simp (disch:=omega) only[wp,qa,qb,qc,gl,insC,exV,e0,e6,e7,c1',st,p18,hl,hsh,hia,l5,s7,part_ag7,rgv,hrl,hrt,ints_flat,hval,pt6,hwk,Int.reduceBEq]
         have X:=hV ex s.regs he I.ok.r8
         refine bindO_see (P:=fun v g' => (∃ t,v = .sl (intsC (ofL s (exR ex))) (ofL s (exR ex)).length t)∧g'.hp = _∧_≤g'.nx) (rp_of A.of_ A.both A.put (I.ok.old (fun i hi => by simp (disch:=omega) only[upd_ne]) (by omega)) hfr2 X.regs X.lt X.len) (fun v g' h => fun i b hb => by rw[h.2.1];exact hb) ?_
         rintro v g2 ⟨⟨w,rfl⟩,hh,hx2⟩
         dsimp only at hh hx2
         have k2:SOk s R S reads T g2:=I.ok.old (hp':=g2.hp) (m:=g2.nx) (fun i hi => by rw[hh];simp (disch:=omega) only[upd_ne]) (by omega)
         have hz2:g2.hp 0 = some (.cells zR false):=by rw[hh];have:=I.ok.sx;simp (disch:=omega) only[upd_ne,hz0]
         have hx0:0 < g2.nx:=by omega
         simp (disch:=omega) only[wp,qa,qb,qc,gl]
         refine bindO_call (P:=fun v g' => ∃ T',SOk (wrR s lc md false (V ex s.regs) (ofL s (exR ex))) R S reads T' g'∧Frm S R _ g') (rp_write A.write A.event A.pairs (k2.old (fun i hi => rfl) (by omega)) hbd lc md false _ (ofL s (exR ex)) w (by have:=hof ex;omega)) ?_
         rintro v g3 ⟨T3,k3,fr⟩
         have h02:g3.hp 0 = some (.cells zR false):=fr.cells 0 zR false (by omega) (by omega) (by dsimp only;omega) hz2
         simp (disch:=omega) only[wp,qa,qb,qc,gl,e0,e4,e6,e7,hwk]
         exact fin _ _ T3 (k + 1) (by simp[skR]) (by omega) e0 e4 e6 rfl h02 (by unfold stR;rw[if_neg (by simp),if_pos rfl];exact k3.old (fun i hi => rfl) (by omega))
       | fe md h1 =>
         simp (disch:=omega) only[wp,qa,qb,qc,gl,insC,exV,e0,e6,e7,c1',st,p18,hl,hsh,hia,l5,s7,part_ag7,rgv,hrl,hrt,ints_flat,hval,pt6,hwk,Int.reduceBEq]
         refine bindO_call (P:=fun v g' => v = .i .i64 (s.evs.length:Int)∧∃ T',SOk (evR s ⟨0,3,md,0,0,false⟩ []) R S reads T' g'∧Frm S R _ g') (rp_event A.event A.pairs (I.ok.old (fun i hi => by simp (disch:=omega) only[upd_ne]) (by omega)) hbd ⟨0,3,md,0,0,false⟩ [] .rig (Nat.zero_le _)) ?_
         rintro v g2 ⟨rfl,T2,k2,fr⟩
         have h02:g2.hp 0 = some (.cells zR false):=fr.cells 0 zR false (by omega) (by omega) (by dsimp only;omega) (by simp (disch:=omega) only[upd_ne,hz0])
         simp (disch:=omega) only[wp,qa,qb,qc,gl,e0,e4,e6,e7,hwk]
         exact fin _ _ T2 (k + 1) (by simp[skR]) (by omega) e0 e4 e6 rfl h02 (by unfold stR;rw[if_neg (by simp),if_neg (by simp),if_pos rfl];exact k2.old (fun i hi => rfl) (by omega))
       | fa md md2 rg lc c h1 h4 h2 h3 h5 =>
         obtain ⟨r,rfl⟩:∃ r:Nat,rg = (r:Int):=⟨rg.toNat,by omega⟩
         simp (disch:=omega) only[wp,qa,qb,qc,gl,insC,exV,e0,e6,e7,c1',st,p18,hl,hsh,hia,l5,s7,part_ag7,rgv,hrl,hrt,ints_flat,hval,pt6,hwk,Int.reduceBEq]
         refine bindO_call (P:=fun v g' => ∃ T',SOk (faR s reads lc md md2 r (ofL s (exR [(1,c)])) (V [(1,c)] s.regs)) R S reads T' g'∧Frm S R _ g') (rp_faa A (I.ok.old (fun i hi => by simp (disch:=omega) only[upd_ne]) (by omega)) hbd (by omega) (by omega) (by omega) hfr (hof _) (hV [(1,c)] s.regs ⟨0,c,0,by omega,by omega,by omega,by omega,by omega,by omega,rfl⟩ I.ok.r8) 4 md md2 lc 0 (by omega)) ?_
         rintro v g2 ⟨T2,k2,fr⟩
         have h02:g2.hp 0 = some (.cells zR false):=fr.cells 0 zR false (by omega) (by omega) (by dsimp only;omega) (by simp (disch:=omega) only[upd_ne,hz0])
         simp (disch:=omega) only[wp,qa,qb,qc,gl,e0,e4,e6,e7,hwk]
         exact fin _ _ T2 (k + 1) (by simp[skR]) (by omega) e0 e4 e6 rfl h02 (by unfold stR;rw[if_neg (by simp),if_neg (by simp),if_neg (by simp),if_pos rfl];exact k2.old (fun i hi => rfl) (by omega))
       | se rg ex h2 he =>
         obtain ⟨r,rfl⟩:∃ r:Nat,rg = (r:Int):=⟨rg.toNat,by omega⟩
         simp (disch:=omega) only[wp,qa,qb,qc,gl,insC,exV,e0,e6,e7,c1',st,p18,hl,hsh,hia,l5,s7,part_ag7,rgv,hrl,hrt,ints_flat,hval,pt6,hwk,Int.reduceBEq]
         refine bindO_call (P:=fun v g' => ∃ T',SOk { s with regs:=s.regs.set r (V ex s.regs),frm:=s.frm.set r (ofL s (exR ex)) } R S reads T' g'∧Frm S R _ g') (rp_move A (I.ok.old (fun i hi => by simp (disch:=omega) only[upd_ne]) (by omega)) hfr2 (hV ex s.regs he I.ok.r8) (by omega)) ?_
         rintro v g2 ⟨T2,k2,fr⟩
         have h02:g2.hp 0 = some (.cells zR false):=fr.cells 0 zR false (by omega) (by omega) (by dsimp only;omega) (by simp (disch:=omega) only[upd_ne,hz0])
         simp (disch:=omega) only[wp,qa,qb,qc,gl,e0,e4,e6,e7,hwk]
         exact fin _ _ T2 (k + 1) (by simp[skR]) (by omega) e0 e4 e6 rfl h02 (by unfold stR;rw[if_neg (by simp),if_neg (by simp),if_neg (by simp),if_neg (by simp),if_pos rfl];exact k2.old (fun i hi => rfl) (by omega))
       | sk ex n he h0 h1 =>
         simp (disch:=omega) only[wp,qa,qb,qc,gl,insC,exV,e0,e6,e7,c1',st,p18,hl,hsh,hia,l5,s7,part_ag7,rgv,hrl,hrt,ints_flat,hval,pt6,hwk,Int.reduceBEq]
         refine bindO_call (P:=fun v g' => v = .i .i64 (if V ex s.regs = 0 then 0 else n)∧∃ T',SOk { s with now:=bothI s.now (ofL s (exR ex)) } R S reads T' g'∧Frm S R _ g') (rp_skip A (I.ok.old (fun i hi => by simp (disch:=omega) only[upd_ne]) (by omega)) hbd hfr2 (hV ex s.regs he I.ok.r8) n) ?_
         rintro v g2 ⟨rfl,T2,k2,fr⟩
         have h02:g2.hp 0 = some (.cells zR false):=fr.cells 0 zR false (by omega) (by omega) (by dsimp only;omega) (by simp (disch:=omega) only[upd_ne,hz0])
         obtain ⟨m,hm,hsk,hml⟩:∃ m:Nat,(if V ex s.regs = 0 then 0 else n) = (m:Int)∧skR V s ⟨6,0,0,0,0,ex,n⟩ = m∧m≤th.length - 1 - k:=by
          by_cases c:V ex s.regs = 0
          ·exact ⟨0,by rw[if_pos c];rfl,by simp[skR,c],Nat.zero_le _⟩
          ·exact ⟨n.toNat,by rw[if_neg c];omega,by simp[skR,c],by omega⟩
         rw[hm]
         have hw1:IntKind.i64.wrap ((k:Int) + (m:Int)) = ((k + m:Nat):Int):=by rw[i64_wrap (by omega) (by omega)];omega
         have hw2:=succ_wrap (k:=k + m) (by omega)
         simp (disch:=omega) only[wp,qa,qb,qc,gl,e0,e4,e6,e7,hw1,hw2]
         exact fin _ _ T2 (k + m + 1) (by rw[hsk]) (by omega) e0 e4 e6 rfl h02 (by unfold stR;rw[if_neg (by simp),if_neg (by simp),if_neg (by simp),if_neg (by simp),if_neg (by simp)];exact k2.old (fun i hi => rfl) (by omega))
    ·have c1':¬ ((k:Nat):Int) < ((th.length:Nat):Int):=by omega
     simp (disch:=omega) only[wp,qa,qb,qc,gl,e0,e6,e7,c1']
     exact ⟨k,s,T,I.mv rfl rfl rfl rfl (by omega),.inr (by have:=I.hk;omega)⟩
  ·rintro e g ⟨k,s,T,I,hend⟩
   have hdo:s = doR V th reads:=by
    rcases hend with h | h
    ·rw[←I.run,runR_end h]
    ·rw[←I.run,h,Nat.sub_self];rfl
   rw[←hdo]
   have st:=I.ok.st
   have sx:=I.ok.sx
   have e4:=I.e4
   have e6:=I.e6
   have hz0:=I.h0
   have sS:=I.s0
   have sR:=I.r0
   have hx0:0 < g.nx:=by omega
   have hl:=stT_len s T
   have hsh:=stT_short s T
   have rgv:=I.ok.rg
   have rx:=I.ok.rx
   unfold stC at st
   unfold zR at hz0
   cases c2:s.short with
   | true =>
     rw[c2] at hsh
     simp (disch:=omega) only[wp,qa,qb,qc,gl,e4,e6,st,p18,hl,hsh,hz0,l5,s7]
     refine retC7 (b:=0) (ro:=false) (w:=.b false) e4 rfl (p07 ..) rfl ?_
     show frz _ (8 + 1) _ = _
     simp only[frz,frzL,roC,c2,if_true,Option.map_some]
   | false =>
     rw[c2] at hsh
     simp (disch:=omega) only[wp,qa,qb,qc,gl,e4,e6,st,p18,hl,hsh,hz0,l5,s7,p07]
     refine retC7 (b:=0) (ro:=false) (w:=.b true) e4 rfl (p07 ..) rfl ?_
     show frz _ (8 + 1) _ = _
     have hrl:(upd g.hp 0 (some (.cells [AV.sl (evsC s.evs) s.evs.length T.t0,AV.sl (pairsC s.rmw) s.rmw.length T.t1,AV.sl (pairsC s.data) s.data.length T.td,AV.sl (pairsC s.ctrl) s.ctrl.length T.tc,AV.sl [] 0 T.ti,AV.i .i64 (s.used:Int),AV.ms R 0 8] false))) R = some (.cells (intsC s.regs) false):=by rw[upd_ne _ _ (by omega)];exact rgv
     simp only[frz,frzL,roC,c2,hrl,List.drop_zero,frzL_ints,if_false,Option.map_some,Bool.false_eq_true]
end Go.Ab
end
section
set_option linter.unusedVariables false
set_option linter.unusedSimpArgs false
namespace Go.Ab
variable {F:Funs}
def rgS (l:List Int) (p:Int × Int):List Int:=if p.1 = 2 then putI l p.2 else l
def regsX (ex:List (Int × Int)):List Int:=ex.foldl rgS []
theorem foldl_take {α β:Type} {f:β→α→β} {b:β} {l:List α} {d:α} {k:Nat} (h:k < l.length):(l.take (k + 1)).foldl f b = f ((l.take k).foldl f b) (l.getD k d):=by
 rw[List.take_add_one,List.getElem?_eq_getElem h,List.getD_eq_getElem?_getD,List.getElem?_eq_getElem h,List.foldl_append];rfl
theorem slEq {cs ds:List AV} {n m:Nat} {t:Tok} (h:cs = ds) (h2:n = m):∃ w,AV.sl cs n t = AV.sl ds m w:=⟨t,by rw[h,h2]⟩
structure RgI (ex:List (Int × Int)) (i:Nat) (w:Tok) (e:Env):Prop where
 hi:i≤ex.length
 e0:e 0 = .sl (tkC ex) ex.length .non
 e3:e 3 = .sl (intsC ((ex.take i).foldl rgS [])) ((ex.take i).foldl rgS []).length w
 e4:e 4 = .i .i64 ((i:Nat):Int)
structure RgJ (ex:List (Int × Int)) (l:List Int) (v:Int) (i k:Nat) (w:Tok) (e:Env):Prop where
 hk:k≤l.length
 e0:e 0 = .sl (tkC ex) ex.length .non
 e3:e 3 = .sl (intsC l) l.length w
 e4:e 4 = .i .i64 ((i:Nat):Int)
 e5:e 5 = .i .i64 ((k:Nat):Int)
 hb:∀ j,j < k→l.getD j 0 < v
theorem regsX_len (ex:List (Int × Int)):∀ k,k≤ex.length→((ex.take k).foldl rgS []).length≤k
 | 0,_ => Nat.le_refl _
 | k + 1,h => by
   rw[foldl_take (d:=(0,0)) (by omega)]
   have ih:=regsX_len ex k (by omega)
   have h1:=putI_len (l:=(ex.take k).foldl rgS []) (v:=(ex.getD k (0,0)).2)
   generalize (ex.take k).foldl rgS [] = l at ih h1 ⊢
   unfold rgS
   split<;>omega
theorem sp_regs (h126:F 126 = some A_xref02_Regs) (ex:List (Int × Int)) (hl:ex.length≤100000):pureS F 126 [exV ex] = some (.sl (intsC (regsX ex)) (regsX ex).length .non):=by
 refine pure_of h126 ?_
 unfold exV
 simp (disch:=omega) only[A_xref02_Regs,wp,qa,qb,qc]
 refine blk_cut (fun e g => ∃ w,e 3 = .sl (intsC (regsX ex)) (regsX ex).length w) ?_ ?_
 ·refine W_loop (fun q e g => ∃ (i:Nat) (w:Tok),q = ex.length - i∧RgI ex i w e) ex.length ?_ ?_
  ·exact ⟨0,.rig,rfl,Nat.zero_le _,rfl,rfl,rfl⟩
  ·rintro q e g ⟨i,w,rfl,hi,e0,e3,e4⟩
   by_cases c0:i < ex.length
   ·have c0':((i:Nat):Int) < ((ex.length:Nat):Int):=by omega
    have hkd:=tk_k c0
    have hvd:=tk_v c0
    have hl2:=tk_l c0
    have hwi:=succ_wrap (k:=i) (by omega)
    have hll:=regsX_len ex i hi
    have hnx:=foldl_take (f:=rgS) (b:=[]) (d:=((0,0):Int × Int)) c0
    generalize ex.getD i (0,0) = p at hkd hvd hnx
    generalize (ex.take i).foldl rgS [] = l at e3 hll hnx
    have next:∀ (e':Env) (g':G),e' 0 = .sl (tkC ex) ex.length .non→(∃ w',e' 3 = .sl (intsC (rgS l p)) (rgS l p).length w')→e' 4 = .i .i64 ((i + 1:Nat):Int) →
      ∃ m',m' < ex.length - i∧∃ (i:Nat) (w:Tok),m' = ex.length - i∧RgI ex i w e':=
     fun e' g' a1 ⟨w',a2⟩ a3 => ⟨ex.length - (i + 1),by omega,i + 1,w',rfl,⟨by omega,a1,by rw[hnx];exact a2,a3⟩⟩
    by_cases c1:p.1 = 2
    ·have c1a:(p.1 != 2) = false:=by simpa using c1
     have hrg:rgS l p = putI l p.2:=if_pos c1
     rw[hrg] at next
     generalize p.2 = v at hvd next
     simp (disch:=omega) only[wp,qa,qb,qc,e0,e3,e4,c0',hkd,c1a]
     refine blk_cut (fun e g => ∃ k:Nat,RgJ ex l v i k w e∧(k < l.length→¬ l.getD k 0 < v)) ?_ ?_
     ·refine W_loop (fun q e g => ∃ k:Nat,q = l.length - k∧RgJ ex l v i k w e) l.length ?_ ?_
      ·exact ⟨0,rfl,Nat.zero_le _,e0,e3,e4,rfl,fun j hj => absurd hj (Nat.not_lt_zero j)⟩
      ·rintro q e g ⟨k,rfl,hk,e0,e3,e4,e5,hb⟩
       by_cases c2:k < l.length
       ·have c2':((k:Nat):Int) < ((l.length:Nat):Int):=by omega
        have hip:=ints_part c2
        have hw:=succ_wrap (k:=k) (by omega)
        by_cases c3:l.getD k 0 < v
        ·have hb':∀ j,j < k + 1→l.getD j 0 < v:=fun j hj => by
          by_cases hjk:j = k
          ·rw[hjk];exact c3
          ·exact hb j (by omega)
         simp (disch:=omega) only[wp,qa,qb,qc,e0,e3,e4,e5,c0',c2',hip,hvd,c3,hw]
         exact ⟨l.length - (k + 1),by omega,k + 1,rfl,⟨by omega,e0,e3,e4,rfl,hb'⟩⟩
        ·simp (disch:=omega) only[wp,qa,qb,qc,e0,e3,e4,e5,c0',c2',hip,hvd,c3]
         exact ⟨k,⟨hk,e0,e3,e4,e5,hb⟩,fun _ => c3⟩
       ·have c2':¬ ((k:Nat):Int) < ((l.length:Nat):Int):=by omega
        simp (disch:=omega) only[wp,qa,qb,qc,e0,e3,e4,e5,c2']
        exact ⟨k,⟨hk,e0,e3,e4,e5,hb⟩,fun h => absurd h c2⟩
     ·rintro e g ⟨k,⟨hk,e0,e3,e4,e5,hb⟩,hn⟩
      have fin:(k < l.length→l.getD k 0≠v)→putI l v = l.take k ++ v :: l.drop k:=fun h => putI_eq hk hb fun h1 => by have:=hn h1;have:=h h1;omega
      have hlt:(intsC (l.take k)).length = k:=by rw[intsC_len,List.length_take];omega
      have hld:(intsC (l.drop k)).length = l.length - k:=by rw[intsC_len,List.length_drop]
      have hla:(intsC (l.drop k)).take ((l.length - k) * 1) = intsC (l.drop k):=intsC_all (by rw[List.length_drop])
      have hit:(intsC l).take (k * 1) = intsC (l.take k):=intsC_take l k
      have hid:(intsC l).drop (k * 1) = intsC (l.drop k):=intsC_drop l k
      have key:(l.take k ++ v :: l.drop k).length = l.length + 1:=by simp;omega
      by_cases c2:k < l.length
      ·have c2':((k:Nat):Int) < ((l.length:Nat):Int):=by omega
       have hip:=ints_part c2
       rw[hid] at hip
       cases c3:(l.getD k 0 == v) with
       | true =>
         have h1:=putI_has (v:=v) c2 hb (by simpa using c3)
         rw[h1] at next
         simp (disch:=omega) only[wp,qa,qb,qc,e0,e3,e4,e5,c0',c2',hip,hid,hvd,c3,hwi]
         refine next _ g ?_ ?_ ?_
         ·exact e0
         ·exact ⟨w,e3⟩
         ·rfl
       | false =>
         have h1:=fin fun _ => by simpa using c3
         rw[h1] at next
         by_cases k0:k = 0
         ·subst k0
          simp (disch:=omega) only[wp,qa,qb,qc,e0,e3,e4,e5,c0',c2',hip,hvd,c3,hwi,oSlice,evoN,evoS,slTo,slFrom,hit,hid,hla,hlt,hld]
          refine next _ g ?_ ?_ ?_
          ·exact e0
          ·exact slEq (by simp[intsC]) (by rw[key];omega)
          ·rfl
         ·simp (disch:=omega) only[wp,qa,qb,qc,e0,e3,e4,e5,c0',c2',hip,hvd,c3,hwi,oSlice,evoN,evoS,slTo,slFrom,hit,hid,hla,hlt,hld]
          refine next _ g ?_ ?_ ?_
          ·exact e0
          ·exact slEq (by simp[intsC]) (by rw[key];omega)
          ·rfl
      ·have c2':¬ ((k:Nat):Int) < ((l.length:Nat):Int):=by omega
       have h1:=fin fun h => absurd h c2
       rw[h1] at next
       by_cases k0:k = 0
       ·subst k0
        simp (disch:=omega) only[wp,qa,qb,qc,e0,e3,e4,e5,c0',c2',hvd,hwi,oSlice,evoN,evoS,slTo,slFrom,hit,hid,hla,hlt,hld]
        refine next _ g ?_ ?_ ?_
        ·exact e0
        ·exact slEq (by simp[intsC]) (by rw[key];omega)
        ·rfl
       ·simp (disch:=omega) only[wp,qa,qb,qc,e0,e3,e4,e5,c0',c2',hvd,hwi,oSlice,evoN,evoS,slTo,slFrom,hit,hid,hla,hlt,hld]
        refine next _ g ?_ ?_ ?_
        ·exact e0
        ·exact slEq (by simp[intsC]) (by rw[key];omega)
        ·rfl
    ·have c1a:(p.1 != 2) = true:=by simpa using c1
     have hrg:rgS l p = l:=if_neg c1
     rw[hrg] at next
     simp (disch:=omega) only[wp,qa,qb,qc,e0,e3,e4,c0',hkd,c1a,hwi]
     refine next _ g ?_ ?_ ?_
     ·exact e0
     ·exact ⟨w,e3⟩
     ·rfl
   ·have c0':¬ ((i:Nat):Int) < ((ex.length:Nat):Int):=by omega
    obtain rfl:i = ex.length:=by omega
    rw[List.take_length] at e3
    simp (disch:=omega) only[wp,qa,qb,qc,e0,e3,e4,c0']
    exact ⟨w,rfl⟩
 ·rintro e g ⟨w,e3⟩
  simp (disch:=omega) only[wp,qa,qb,qc,e3]
theorem exOk_regs {ex:List (Int × Int)} (h:ExOk ex):intsC (regsX ex) = natC (exR ex)∧(regsX ex).length = (exR ex).length∧(∀ r∈exR ex,r < 8)∧(exR ex).length≤8∧ex.length≤3:=by
 obtain ⟨a,b,m,a0,a3,b0,b3,m0,m3,rfl⟩:=h
 have ha:(a.toNat:Int) = a:=Int.toNat_of_nonneg a0
 unfold exM
 split
 ·simp[regsX,rgS,exR,intsC,natC]
 split
 ·simp[regsX,rgS,exR,intsC,natC,putI,ha];omega
 split
 ·simp[regsX,rgS,exR,intsC,natC,putI,ha];omega
 split
 ·simp[regsX,rgS,exR,intsC,natC,putI,ha];omega
 split
 ·simp[regsX,rgS,exR,intsC,natC,putI,ha];omega
 ·simp[regsX,rgS,exR,intsC,natC]
structure ExF (F:Funs):Prop where
 check:F 109 = some A_xref02_Check
 word:F 125 = some A_xref02_word
 eval:F 115 = some A_xref02_Eval
 do_:F 128 = some A_xref02_Do
 regs:F 126 = some A_xref02_Regs
theorem vok (E:ExF F):VOk F evX:=by
 intro ex regs hex h8
 obtain ⟨r1,r2,r3,r4,r5⟩:=exOk_regs hex
 refine ⟨?_,?_,r3,r4⟩
 ·have:=sp_eval E.eval E.check E.word E.do_ ex regs (by omega) (by omega)
  rw[h8] at this
  exact this
 ·have:=sp_regs E.regs ex (by omega)
  rw[r1,r2] at this
  exact this
end Go.Ab
end
section
set_option linter.unusedVariables false
set_option linter.unusedSimpArgs false
namespace Go.Ab
variable {F:Funs}
theorem o_ldQ {c:CS} {al:Nat→Bool} {lo id:Nat} {e:Env} {g:G} (agg x t):opE c al lo id (.ldQ agg x t) e g = vLdQ al agg (x.ev e) (e t) g:=rfl
theorem vLdQ_S {al:Nat→Bool} {agg:Option Nat} {b off o:Nat} {g:G}:vLdQ al agg (.mp b off) (.mp b o) g = ldS agg off g (selB (al b) (g.hp b)):=by
 have h:(ids1 (.mp b o)).contains b = true:=by simp[ids1]
 simp only[vLdQ,h,if_true,rd_S]
 cases selB (al b) (g.hp b) with
 | none => rfl
 | some bl => cases bl<;>rfl
theorem o_stN {c:CS} {al:Nat→Bool} {lo id:Nat} {e:Env} {g:G} (n a x ts):opE c al lo id (.stN n a x ts) e g = vStN al n (a.ev e) (x.ev e) (ts.map e) g:=rfl
theorem vStN_1 {al:Nat→Bool} {n b off q o:Nat} {x:AV} {g:G} (h:b≠q):vStN al n (.mp b off) x [.mp q o] g = vSt al n (.mp b off) x g:=if_pos (by simp[ids1,h])
theorem sp_exSelf (h127:F 127 = some A_xref02_Same) (ex:List (Int × Int)) (hl:ex.length≤1000000):pureS F 127 [exV ex,exV ex] = some (.b true):=by
 refine pure_of h127 ?_
 unfold exV
 have c0:(((ex.length:Nat):Int) != ((ex.length:Nat):Int)) = false:=by simp
 simp (disch:=omega) only[A_xref02_Same,wp,qa,qb,qc,c0]
 refine blk_cut (fun e g => True) ?_ ?_
 ·refine W_loop (fun q e g => ∃ k:Nat,q = ex.length - k∧k≤ex.length∧e 0 = .sl (tkC ex) ex.length .non∧e 1 = .sl (tkC ex) ex.length .non∧e 5 = .i .i64 ((k:Nat):Int)) ex.length ?_ ?_
  ·refine ⟨0,rfl,Nat.zero_le _,?_⟩
   simp (disch:=omega) only[wp,qa,qb,qc]
   trivial
  ·rintro q e g ⟨k,rfl,hk,e0,e1,e5⟩
   by_cases c1:k < ex.length
   ·have c1':((k:Nat):Int) < ((ex.length:Nat):Int):=by omega
    have hkd:=tk_k c1
    have hvd:=tk_v c1
    have hl2:=tk_l c1
    have hw:=succ_wrap (k:=k) (by omega)
    have c2:((ex.getD k (0,0)).1 != (ex.getD k (0,0)).1) = false:=by simp
    have c3:((ex.getD k (0,0)).2 != (ex.getD k (0,0)).2) = false:=by simp
    simp (disch:=omega) only[wp,qa,qb,qc,e0,e1,e5,c1',hkd,hvd,c2,c3,hw]
    exact ⟨ex.length - (k + 1),by omega,k + 1,rfl,by omega,rfl⟩
   ·have c1':¬ ((k:Nat):Int) < ((ex.length:Nat):Int):=by omega
    simp (disch:=omega) only[wp,qa,qb,qc,e0,e1,e5,c1']
 ·rintro e g -
  simp (disch:=omega) only[wp,qa,qb,qc]
theorem i7_0 (a0 a1 a2 a3 a4 a5 a6:AV):part [a0,a1,a2,a3,a4,a5,a6] 0 (some 7) = some (.agg [a0,a1,a2,a3,a4,a5,a6]):=rfl
theorem i7_6 (a0 a1 a2 a3 a4 a5 a6:AV):part [a0,a1,a2,a3,a4,a5,a6] 6 none = some a6:=rfl
theorem sp7 (b0 b1 b2 b3 b4 b5 b6 c0 c1 c2 c3 c4 c5 c6:AV):splice [b0,b1,b2,b3,b4,b5,b6] 0 [c0,c1,c2,c3,c4,c5,c6] = [c0,c1,c2,c3,c4,c5,c6]:=rfl
theorem z7:List.replicate 5 (AV.i .i64 0) ++ [.sl [] 0 .rig,.i .i64 0] = [.i .i64 0,.i .i64 0,.i .i64 0,.i .i64 0,.i .i64 0,.sl [] 0 .rig,.i .i64 0]:=rfl
theorem sp_insSelf (h111:F 111 = some A_xref03_SameInstr) (h127:F 127 = some A_xref02_Same) (x:Ins) (hl:x.ex.length≤1000000):pureS F 111 [.agg (insC x),.agg (insC x)] = some (.b true):=by
 refine pure_of h111 ?_
 have hs:=sp_exSelf h127 x.ex hl
 unfold exV at hs
 unfold insC exV
 simp (disch:=omega) only[A_xref03_SameInstr,wp,qa,qb,qc,gl,i7_6,hs]
theorem exM_chk {a b m:Int} (h0:0≤a) (h1:a < 3) (h2:0≤b) (h3:b < 3):chkX (exM a b m) = true∧(exM a b m).length≤3:=by
 have hr:wdB (2,a) = true:=by unfold wdB;simp;omega
 have hc:wdB (1,b) = true:=by unfold wdB;simp;omega
 have w4:wdB (3,4) = true:=rfl
 have w5:wdB (3,5) = true:=rfl
 have w6:wdB (3,6) = true:=rfl
 have w3:wdB (3,3) = true:=rfl
 have w1:wdB (1,1) = true:=rfl
 unfold exM
 split
 ·exact ⟨by unfold chkX;simp[chkG,hc],by simp⟩
 split
 ·exact ⟨by unfold chkX;simp[chkG,hr],by simp⟩
 split
 ·exact ⟨by unfold chkX;simp[chkG,hr,w4],by simp⟩
 split
 ·exact ⟨by unfold chkX;simp[chkG,hr,hc,w5],by simp⟩
 split
 ·exact ⟨by unfold chkX;simp[chkG,hr,hc,w6],by simp⟩
 ·exact ⟨by unfold chkX;simp[chkG,hc,w1,w3],by simp⟩
theorem ExOk.chk {ex:List (Int × Int)} (h:ExOk ex):chkX ex = true∧ex.length≤3:=by
 obtain ⟨a,b,m,a0,a3,b0,b3,m0,m3,rfl⟩:=h
 exact exM_chk a0 a3 b0 b3
structure ChF (F:Funs):Prop where
 ex:ExF F
 same:F 127 = some A_xref02_Same
 sins:F 111 = some A_xref03_SameInstr
 ins:F 98 = some A_xref04_Instr
 uses:F 110 = some A_xref04_Uses
 events:F 99 = some A_xref04_Events
 paths:F 100 = some A_xref04_Paths
 chk:F 87 = some A_xref04_Check
theorem sp_uses0 (A:ChF F) {ex:List (Int × Int)} {r:Int} (h:regsX ex = []) (hl:ex.length≤1000):pureS F 110 [exV ex,.i .i64 r] = some (.b false):=by
 refine pure_of A.uses ?_
 have hr:=sp_regs A.ex.regs ex (by omega)
 rw[h] at hr
 unfold exV at hr ⊢
 have c1:¬ (0:Int) < ((0:Nat):Int):=by omega
 simp (disch:=omega) only[A_xref04_Uses,wp,qa,qb,qc,hr,intsC,List.map_nil]
 refine blk_cut (fun e g => True) ?_ ?_
 ·refine W_loop (fun q e g => e 5 = .sl [] 0 .non∧e 6 = .i .i64 0) 0 ?_ ?_
  ·simp (disch:=omega) only[wp,qa,qb,qc]
  ·rintro q e g ⟨e5,e6⟩
   simp (disch:=omega) only[wp,qa,qb,qc,e5,e6,c1]
 ·rintro e g -
  simp (disch:=omega) only[wp,qa,qb,qc]
theorem sp_uses1 (A:ChF F) {c r:Int}:pureS F 110 [exV [(1,c)],.i .i64 r] = some (.b false):=sp_uses0 A rfl (by simp)
theorem sp4_ld (A:ChF F) {left md rg lc:Int} (h1:md = 0∨md = 1) (h2:rg = 0∨rg = 1∨rg = 2) (h3:lc = 0∨lc = 1):pureS F 98 [.agg (insC ⟨1,md,0,rg,lc,[],0⟩),.i .i64 2,.i .i64 left] = some (.b true):=by
 refine pure_of A.ins ?_
 have hck:=sp_exCheck A.ex.check A.ex.word [] (by simp)
 have hself:=sp_insSelf A.sins A.same ⟨1,md,0,rg,lc,[],0⟩ (by simp)
 rw[show chkX [] = false from rfl] at hck
 unfold insC exV at hself
 unfold exV at hck
 simp only[tkC,List.flatMap_nil,List.length_nil] at hck hself
 have a1:0≤rg:=by omega
 have a2:rg < 8:=by omega
 have a3:0≤lc:=by omega
 have a4:lc < 2:=by omega
 unfold insC exV
 simp only[tkC,List.flatMap_nil,List.length_nil]
 rcases h1 with rfl | rfl<;>simp (disch:=omega) only[A_xref04_Instr,wp,qa,qb,qc,gl,i7_6,i7_0,sp7,z7,frz_ag7,hck,hself,a1,a2,a3,a4,o_ldQ,vLdQ_S,o_stN,vStN_1,Int.reduceBEq,allow_lt]
theorem sp4_st (A:ChF F) {left md lc:Int} {ex:List (Int × Int)} (h1:md = 0∨md = 2) (h3:lc = 0∨lc = 1) (he:ExOk ex):pureS F 98 [.agg (insC ⟨2,md,0,0,lc,ex,0⟩),.i .i64 2,.i .i64 left] = some (.b true):=by
 refine pure_of A.ins ?_
 obtain ⟨hx,hl⟩:=he.chk
 have hck:=sp_exCheck A.ex.check A.ex.word ex (by omega)
 have hself:=sp_insSelf A.sins A.same ⟨2,md,0,0,lc,ex,0⟩ (by dsimp only;omega)
 rw[hx] at hck
 unfold insC exV at hself
 unfold exV at hck
 have a3:0≤lc:=by omega
 have a4:lc < 2:=by omega
 have z0:(0:Int)≤0:=by omega
 have z8:(0:Int) < 8:=by omega
 unfold insC exV
 rcases h1 with rfl | rfl<;>simp (disch:=omega) only[A_xref04_Instr,wp,qa,qb,qc,gl,i7_6,i7_0,sp7,z7,frz_ag7,hck,hself,a3,a4,z0,z8,o_ldQ,vLdQ_S,o_stN,vStN_1,Int.reduceBEq,allow_lt]
theorem sp4_fe (A:ChF F) {left md:Int} (h1:md = 1∨md = 2∨md = 3∨md = 4):pureS F 98 [.agg (insC ⟨3,md,0,0,0,[],0⟩),.i .i64 2,.i .i64 left] = some (.b true):=by
 refine pure_of A.ins ?_
 have hck:=sp_exCheck A.ex.check A.ex.word [] (by simp)
 have hself:=sp_insSelf A.sins A.same ⟨3,md,0,0,0,[],0⟩ (by simp)
 rw[show chkX [] = false from rfl] at hck
 unfold insC exV at hself
 unfold exV at hck
 simp only[tkC,List.flatMap_nil,List.length_nil] at hck hself
 have a1:1≤md:=by omega
 have a2:md≤4:=by omega
 have z0:(0:Int)≤0:=by omega
 have z8:(0:Int) < 8:=by omega
 have z2:(0:Int) < 2:=by omega
 unfold insC exV
 simp only[tkC,List.flatMap_nil,List.length_nil]
 simp (disch:=omega) only[A_xref04_Instr,wp,qa,qb,qc,gl,i7_6,i7_0,sp7,z7,frz_ag7,hck,hself,a1,a2,z0,z8,z2,o_ldQ,vLdQ_S,o_stN,vStN_1,Int.reduceBEq,allow_lt]
theorem sp4_fa (A:ChF F) {left md md2 rg lc c:Int} (h1:md = 0∨md = 1) (h4:md2 = 0∨md2 = 2) (h2:rg = 0∨rg = 1∨rg = 2) (h3:lc = 0∨lc = 1) (h5:c = 0∨c = 1):pureS F 98 [.agg (insC ⟨4,md,md2,rg,lc,[(1,c)],0⟩),.i .i64 2,.i .i64 left] = some (.b true):=by
 refine pure_of A.ins ?_
 have hck:=sp_exCheck A.ex.check A.ex.word [(1,c)] (by simp)
 have hself:=sp_insSelf A.sins A.same ⟨4,md,md2,rg,lc,[(1,c)],0⟩ (by simp)
 have hus:=sp_uses1 A (c:=c) (r:=rg)
 rw[show chkX [(1,c)] = true by rcases h5 with rfl | rfl<;>rfl] at hck
 unfold insC exV at hself
 unfold exV at hck hus
 have a1:0≤rg:=by omega
 have a2:rg < 8:=by omega
 have a3:0≤lc:=by omega
 have a4:lc < 2:=by omega
 have a5:(([(1,c)]:List (Int × Int)).length:Int)≤7:=by simp
 unfold insC exV
 generalize ([(1,c)]:List (Int × Int)) = ex at hck hself hus a5
 rcases h1 with rfl | rfl<;>rcases h4 with rfl | rfl<;>simp (disch:=omega) only[A_xref04_Instr,wp,qa,qb,qc,gl,i7_6,i7_0,sp7,z7,frz_ag7,hck,hself,hus,a1,a2,a3,a4,a5,o_ldQ,vLdQ_S,o_stN,vStN_1,Int.reduceBEq,allow_lt]
theorem sp4_se (A:ChF F) {left rg:Int} {ex:List (Int × Int)} (h2:rg = 0∨rg = 1∨rg = 2) (he:ExOk ex):pureS F 98 [.agg (insC ⟨5,0,0,rg,0,ex,0⟩),.i .i64 2,.i .i64 left] = some (.b true):=by
 refine pure_of A.ins ?_
 obtain ⟨hx,hl⟩:=he.chk
 have hck:=sp_exCheck A.ex.check A.ex.word ex (by omega)
 have hself:=sp_insSelf A.sins A.same ⟨5,0,0,rg,0,ex,0⟩ (by dsimp only;omega)
 rw[hx] at hck
 unfold insC exV at hself
 unfold exV at hck
 have a1:0≤rg:=by omega
 have a2:rg < 8:=by omega
 have z0:(0:Int)≤0:=by omega
 have z2:(0:Int) < 2:=by omega
 unfold insC exV
 simp (disch:=omega) only[A_xref04_Instr,wp,qa,qb,qc,gl,i7_6,i7_0,sp7,z7,frz_ag7,hck,hself,a1,a2,z0,z2,o_ldQ,vLdQ_S,o_stN,vStN_1,Int.reduceBEq,allow_lt]
theorem sp4_sk (A:ChF F) {left n:Int} {ex:List (Int × Int)} (he:ExOk ex) (h0:0≤n) (h1:n≤left):pureS F 98 [.agg (insC ⟨6,0,0,0,0,ex,n⟩),.i .i64 2,.i .i64 left] = some (.b true):=by
 refine pure_of A.ins ?_
 obtain ⟨hx,hl⟩:=he.chk
 have hck:=sp_exCheck A.ex.check A.ex.word ex (by omega)
 have hself:=sp_insSelf A.sins A.same ⟨6,0,0,0,0,ex,n⟩ (by dsimp only;omega)
 rw[hx] at hck
 unfold insC exV at hself
 unfold exV at hck
 have z0:(0:Int)≤0:=by omega
 have z8:(0:Int) < 8:=by omega
 have z2:(0:Int) < 2:=by omega
 unfold insC exV
 simp (disch:=omega) only[A_xref04_Instr,wp,qa,qb,qc,gl,i7_6,i7_0,sp7,z7,frz_ag7,hck,hself,h0,h1,z0,z8,z2,o_ldQ,vLdQ_S,o_stN,vStN_1,Int.reduceBEq,allow_lt]
theorem sp4_instr (A:ChF F) {left:Int} {x:Ins} (h:InsK left x):pureS F 98 [.agg (insC x),.i .i64 2,.i .i64 left] = some (.b true):=by
 cases h with
 | ld md rg lc h1 h2 h3 => exact sp4_ld A h1 h2 h3
 | st md lc ex h1 h3 he => exact sp4_st A h1 h3 he
 | fe md h1 => exact sp4_fe A h1
 | fa md md2 rg lc c h1 h4 h2 h3 h5 => exact sp4_fa A h1 h4 h2 h3 h5
 | se rg ex h2 he => exact sp4_se A h2 he
 | sk ex n he h0 h1 => exact sp4_sk A he h0 h1
end Go.Ab
end
section
set_option linter.unusedVariables false
set_option linter.unusedSimpArgs false
namespace Go.Ab
variable {F:Funs}
theorem ins_kd {l:List Ins} {k:Nat} (h:k < l.length):part ((insLC l).drop (k * 7)) 0 none = some (.i .i64 (l.getD k fence0).kd):=by
 rw[insLC_drop h];rfl
theorem ins_ln {l:List Ins} {k:Nat} (h:k < l.length):7≤((insLC l).drop (k * 7)).length:=by
 rw[insLC_drop h,List.length_append,insC_len];omega
structure EtI (th:List Ins) (k n:Nat) (e:Env):Prop where
 hk:k≤th.length
 hn:n≤2 * k
 e0:e 0 = .sl (insLC th) th.length .non
 e3:e 3 = .i .i64 ((n:Nat):Int)
 e4:e 4 = .i .i64 ((k:Nat):Int)
theorem sp4_events (A:ChF F) (th:List Ins) (hl:th.length≤1000000):∃ n:Nat,n≤2 * th.length∧pureS F 99 [.sl (insLC th) th.length .non] = some (.i .i64 ((n:Nat):Int)):=by
 have key:∃ v,pureS F 99 [.sl (insLC th) th.length .non] = some v∧∃ n:Nat,n≤2 * th.length∧v = .i .i64 ((n:Nat):Int):=by
  refine pureV_of A.events ?_
  simp (disch:=omega) only[A_xref04_Events,wp,qa,qb,qc]
  refine blk_cut (fun e g => ∃ n:Nat,n≤2 * th.length∧e 3 = .i .i64 ((n:Nat):Int)) ?_ ?_
  ·refine W_loop (fun q e g => ∃ k n:Nat,q = th.length - k∧EtI th k n e) th.length ?_ ?_
   ·exact ⟨0,0,rfl,Nat.zero_le _,Nat.le_refl _,rfl,rfl,rfl⟩
   ·rintro q e g ⟨k,n,rfl,hk,hn,e0,e3,e4⟩
    by_cases c1:k < th.length
    ·have c1':((k:Nat):Int) < ((th.length:Nat):Int):=by omega
     have hkd:=ins_kd c1
     have hln:=ins_ln c1
     have hw:=succ_wrap (k:=k) (by omega)
     have hw1:=succ_wrap (k:=n) (by omega)
     have hw2:IntKind.i64.wrap (((n:Nat):Int) + 2) = ((n + 2:Nat):Int):=by rw[i64_wrap (by omega) (by omega)];omega
     generalize (th.getD k fence0).kd = kd at hkd
     have next:∀ (m:Nat) (e':Env),n≤m→m≤n + 2→e' 0 = .sl (insLC th) th.length .non→e' 3 = .i .i64 ((m:Nat):Int)→e' 4 = .i .i64 ((k + 1:Nat):Int)→∃ m',m' < th.length - k∧∃ k n:Nat,m' = th.length - k∧EtI th k n e':=
      fun m e' b1 b2 a1 a2 a3 => ⟨th.length - (k + 1),by omega,k + 1,m,rfl,by omega,by omega,a1,a2,a3⟩
     cases k1:(kd == 1) with
     | true =>
       simp (disch:=omega) only[wp,qa,qb,qc,e0,e3,e4,c1',hkd,k1,hw,hw1]
       exact next (n + 1) _ (by omega) (by omega) e0 rfl rfl
     | false =>
       cases k2:(kd == 2) with
       | true =>
         simp (disch:=omega) only[wp,qa,qb,qc,e0,e3,e4,c1',hkd,k1,k2,hw,hw1]
         exact next (n + 1) _ (by omega) (by omega) e0 rfl rfl
       | false =>
         cases k3:(kd == 3) with
         | true =>
           simp (disch:=omega) only[wp,qa,qb,qc,e0,e3,e4,c1',hkd,k1,k2,k3,hw,hw1]
           exact next (n + 1) _ (by omega) (by omega) e0 rfl rfl
         | false =>
           cases k4:(kd == 4) with
           | true =>
             simp (disch:=omega) only[wp,qa,qb,qc,e0,e3,e4,c1',hkd,k1,k2,k3,k4,hw,hw2]
             exact next (n + 2) _ (by omega) (by omega) e0 rfl rfl
           | false =>
             simp (disch:=omega) only[wp,qa,qb,qc,e0,e3,e4,c1',hkd,k1,k2,k3,k4,hw]
             exact next n _ (by omega) (by omega) e0 e3 rfl
    ·have c1':¬ ((k:Nat):Int) < ((th.length:Nat):Int):=by omega
     simp (disch:=omega) only[wp,qa,qb,qc,e0,e3,e4,c1']
     exact ⟨n,by omega,rfl⟩
  ·rintro e g ⟨n,hn,e3⟩
   simp (disch:=omega) only[wp,qa,qb,qc,e3]
   refine ⟨.i .i64 ((n:Nat):Int),?_,n,hn,rfl⟩
   simp (disch:=omega) only[wp,qa,qb,qc]
 obtain ⟨v,h1,n,h2,rfl⟩:=key
 exact ⟨n,h2,h1⟩
structure PtI (th:List Ins) (k:Nat) (e:Env):Prop where
 hk:k≤th.length
 e0:e 0 = .sl (insLC th) th.length .non
 e3:e 3 = .i .i64 ((2 ^ skips (th.take k):Nat):Int)
 e4:e 4 = .i .i64 ((k:Nat):Int)
theorem sp4_paths (A:ChF F) (th:List Ins) (hl:th.length≤1000000) (hs:skips th≤2):pureS F 100 [.sl (insLC th) th.length .non] = some (.i .i64 ((2 ^ skips th:Nat):Int)):=by
 refine pure_of A.paths ?_
 simp (disch:=omega) only[A_xref04_Paths,wp,qa,qb,qc]
 refine blk_cut (fun e g => e 3 = .i .i64 ((2 ^ skips th:Nat):Int)) ?_ ?_
 ·refine W_loop (fun q e g => ∃ k:Nat,q = th.length - k∧PtI th k e) th.length ?_ ?_
  ·exact ⟨0,rfl,Nat.zero_le _,rfl,rfl,rfl⟩
  ·rintro q e g ⟨k,rfl,hk,e0,e3,e4⟩
   by_cases c1:k < th.length
   ·have c1':((k:Nat):Int) < ((th.length:Nat):Int):=by omega
    have hkd:=ins_kd c1
    have hln:=ins_ln c1
    have hw:=succ_wrap (k:=k) (by omega)
    have hst:=skips_take c1
    have hsl:=skips_le th (k + 1)
    generalize (th.getD k fence0).kd = kd at hkd hst
    generalize skips (th.take k) = s at e3 hst
    cases k6:(kd == 6) with
    | true =>
      rw[if_pos (by simpa using k6)] at hst
      have hs2:s≤1:=by omega
      have hw2:IntKind.i64.wrap (2 * ((2 ^ s:Nat):Int)) = ((2 ^ (s + 1):Nat):Int):=by
       have:s = 0∨s = 1:=by omega
       rcases this with rfl | rfl<;>rfl
      have hlt:¬ ((1000000:Int) < ((2 ^ (s + 1):Nat):Int)):=by
       have:s = 0∨s = 1:=by omega
       rcases this with rfl | rfl<;>decide
      simp (disch:=omega) only[wp,qa,qb,qc,e0,e3,e4,c1',hkd,k6,hw,hw2,hlt,if_false]
      exact ⟨th.length - (k + 1),by omega,k + 1,rfl,by omega,e0,by rw[hst];rfl,rfl⟩
    | false =>
      rw[if_neg (by simpa using k6)] at hst
      simp (disch:=omega) only[wp,qa,qb,qc,e0,e3,e4,c1',hkd,k6,hw]
      exact ⟨th.length - (k + 1),by omega,k + 1,rfl,by omega,e0,by rw[hst];exact e3,rfl⟩
   ·have c1':¬ ((k:Nat):Int) < ((th.length:Nat):Int):=by omega
    obtain rfl:k = th.length:=by omega
    rw[List.take_length] at e3
    simp (disch:=omega) only[wp,qa,qb,qc,e0,e3,e4,c1']
 ·rintro e g e3
  simp (disch:=omega) only[wp,qa,qb,qc,e3]
structure PgK (ths:List (List Ins)) (L:Nat):Prop where
 one:1≤ths.length
 four:ths.length≤4
 len:∀ i,i < ths.length→(ths.getD i []).length≤L
 th:∀ i,i < ths.length→ThK (ths.getD i [])
 big:2 + 2 * L * ths.length≤40
structure CkI (ths:List (List Ins)) (L i n:Nat) (e:Env) (g:G):Prop where
 hi:i≤ths.length
 hn:n≤2 + 2 * L * i
 e1:e 1 = .mp 0 0
 e3:e 3 = .i .i64 ((n:Nat):Int)
 e4:e 4 = .b false
 e5:e 5 = .i .i64 ((i:Nat):Int)
 h0:g.hp 0 = some (.cells [.i .i64 2,.sl (thsC ths) ths.length .non] false)
 nx:0 < g.nx
structure CkJ (ths:List (List Ins)) (L i n k:Nat) (th:List Ins) (e:Env) (g:G):Prop where
 hk:k≤th.length
 e1:e 1 = .mp 0 0
 e3:e 3 = .i .i64 ((n:Nat):Int)
 e4:e 4 = .b false
 e5:e 5 = .i .i64 ((i:Nat):Int)
 e6:e 6 = .sl (insLC th) th.length .non
 e7:e 7 = .i .i64 ((k:Nat):Int)
 h0:g.hp 0 = some (.cells [.i .i64 2,.sl (thsC ths) ths.length .non] false)
 nx:0 < g.nx
theorem sp4_check (A:ChF F) {ths:List (List Ins)} {L:Nat} (P:PgK ths L):pureS F 87 [.agg [.i .i64 2,.sl (thsC ths) ths.length .non]] = some (.i .i64 0):=by
 refine pure_of A.chk ?_
 have h1:=P.one
 have h4:=P.four
 have hbig:=P.big
 have c1:¬ (2:Int) < 1:=by omega
 have c2:¬ (4:Int) < 2:=by omega
 have c3:(((ths.length:Nat):Int) == 0) = false:=by rw[beq_eq_false_iff_ne];omega
 have c4:¬ (4:Int) < ((ths.length:Nat):Int):=by omega
 simp (disch:=omega) only[A_xref04_Check,wp,qa,qb,qc,gl,c1,c2,c3,c4,allow_lt]
 refine blk_cut (fun e g => ∃ n:Nat,CkI ths L ths.length n e g) ?_ ?_
 ·refine W_loop (fun q e g => ∃ i n:Nat,q = ths.length - i∧CkI ths L i n e g) ths.length ?_ ?_
  ·exact ⟨0,2,rfl,Nat.zero_le _,by omega,rfl,rfl,rfl,rfl,rfl,by first | omega | (dsimp only;omega)⟩
  ·rintro q e g ⟨i,n,rfl,hi,hn,e1,e3,e4,e5,h0,hx⟩
   by_cases d1:i < ths.length
   ·have d1':((i:Nat):Int) < ((ths.length:Nat):Int):=by omega
    have hth:=th_at d1
    have hwi:=succ_wrap (k:=i) (by omega)
    have hK:=P.th i d1
    have hL:=P.len i d1
    generalize ths.getD i [] = th at hth hK hL
    have hlen:=hK.len
    simp (disch:=omega) only[wp,qa,qb,qc,gl,e1,e3,e4,e5,h0,d1',hth]
    refine blk_cut (fun e g => CkJ ths L i n th.length th e g) ?_ ?_
    ·refine W_loop (fun q e g => ∃ k:Nat,q = th.length - k∧CkJ ths L i n k th e g) th.length ?_ ?_
     ·exact ⟨0,rfl,Nat.zero_le _,e1,e3,e4,e5,rfl,rfl,h0,by first | omega | (dsimp only;omega)⟩
     ·rintro q e g ⟨k,rfl,hk,e1,e3,e4,e5,e6,e7,h0,hx⟩
      by_cases d2:k < th.length
      ·have d2':((k:Nat):Int) < ((th.length:Nat):Int):=by omega
       have hins:=ins_at d2
       have hln:=ins_ln d2
       have hw:=succ_wrap (k:=k) (by omega)
       have hw1:IntKind.i64.wrap (((th.length:Nat):Int) - 1) = ((th.length - 1:Nat):Int):=by rw[i64_wrap (by omega) (by omega)];omega
       have hw2:IntKind.i64.wrap (((th.length - 1:Nat):Int) - ((k:Nat):Int)) = ((th.length - 1 - k:Nat):Int):=by rw[i64_wrap (by omega) (by omega)];omega
       have hsp:=sp4_instr A (hK.ins k d2)
       generalize th.getD k fence0 = x at hins hsp
       unfold insC exV at hins hsp
       simp (disch:=omega) only[wp,qa,qb,qc,gl,e1,e3,e4,e5,e6,e7,h0,d2',hins,hw,hw1,hw2,hsp,frz_ag7,allow_lt]
       exact ⟨th.length - (k + 1),by omega,k + 1,rfl,by omega,e1,e3,e4,e5,e6,rfl,h0,by first | omega | (dsimp only;omega)⟩
      ·have d2':¬ ((k:Nat):Int) < ((th.length:Nat):Int):=by omega
       obtain rfl:k = th.length:=by omega
       simp (disch:=omega) only[wp,qa,qb,qc,e1,e3,e4,e5,e6,e7,d2']
       exact ⟨Nat.le_refl _,e1,e3,e4,e5,e6,e7,h0,by first | omega | (dsimp only;omega)⟩
    ·rintro e g ⟨hk,e1,e3,e4,e5,e6,e7,h0,hx⟩
     obtain ⟨m,hm,hev⟩:=sp4_events A th (by omega)
     have hpa:=sp4_paths A th (by omega) hK.sk
     have hsk:=hK.sk
     have hp4:¬ ((64:Int) < ((2 ^ skips th:Nat):Int)):=by
      have:skips th = 0∨skips th = 1∨skips th = 2:=by omega
      rcases this with h | h | h<;>rw[h]<;>decide
     have hl12:¬ (12:Int) < ((th.length:Nat):Int):=by omega
     have hmul:2 * L * (i + 1) = 2 * L * i + 2 * L:=by rw[Nat.mul_add,Nat.mul_one]
     have hmi:2 * L * i≤2 * L * ths.length:=Nat.mul_le_mul_left _ hi
     have hwn:IntKind.i64.wrap (((n:Nat):Int) + ((m:Nat):Int)) = ((n + m:Nat):Int):=by rw[i64_wrap (by omega) (by omega)];omega
     simp (disch:=omega) only[wp,qa,qb,qc,gl,e1,e3,e4,e5,e6,h0,hev,hpa,hp4,hl12,hwn,hwi]
     exact ⟨ths.length - (i + 1),by omega,i + 1,n + m,rfl,by omega,by omega,e1,rfl,rfl,rfl,h0,by first | omega | (dsimp only;omega)⟩
   ·have d1':¬ ((i:Nat):Int) < ((ths.length:Nat):Int):=by omega
    obtain rfl:i = ths.length:=by omega
    simp (disch:=omega) only[wp,qa,qb,qc,gl,e1,e3,e4,e5,h0,d1']
    exact ⟨n,Nat.le_refl _,hn,e1,e3,e4,e5,h0,by first | omega | (dsimp only;omega)⟩
 ·rintro e g ⟨n,hi,hn,e1,e3,e4,e5,h0,hx⟩
  have c40:¬ (40:Int) < ((n:Nat):Int):=by omega
  simp (disch:=omega) only[wp,qa,qb,qc,gl,e1,e3,e4,c40]
end Go.Ab
end
section
set_option linter.unusedVariables false
set_option linter.unusedSimpArgs false
namespace Go.Ab
variable {F:Funs}
def TkOk (esz:Nat) (g:G) (t:Tok):Prop:=t = .rig∨∃ i,t = .own i esz∧g.hp i = some (.tok true)∧i < g.nx
def TkNe (t u:Tok):Prop:=∀ i e f,t = .own i e→u≠.own i f
theorem TkNe.rig_l {u:Tok}:TkNe .rig u:=fun _ _ _ h => by cases h
theorem TkNe.rig_r {u:Tok}:TkNe u .rig:=fun _ _ _ _ h => by cases h
theorem TkNe.symm {t u:Tok} (h:TkNe t u):TkNe u t:=fun i e f h1 h2 => h i f e h2 h1
structure AppR (esz id:Nat) (t t':Tok) (g:G) (hp':Nat→Option Blk):Prop where
 tok:t' = .rig∨(t' = .own id esz∧hp' id = some (.tok true))
 keep:∀ i,i≠id→(∀ e,t≠.own i e)→hp' i = g.hp i
theorem bindO_app1 {d:Bool} {b j:Nat} {dst:Option Nat} {os:List AOper} {e:Env} {K:Env→G→Prop} {al:Nat→Bool} {id esz bytes n m:Nat} {cs ds:List AV} {t t2:Tok} {g:G}
  (ht:TkOk esz g t) (hal:∀ i,t = .own i esz→al i = true) (hc:bytes≤1000∧n + m≤1000000∧cs.length = n * esz∧ds.length = m * esz)
  (hk:∀ t' hp',AppR esz id t t' g hp'→(0 < m→t' = .own id esz∧hp' id = some (.tok true))→WR F d b j os (put e dst (.sl (cs ++ ds) (n + m) t')) ⟨hp',g.nx⟩ K):bindO F d b j dst os e K (vApp al id esz bytes (.sl cs n t) (.sl ds m t2) g):=by
 obtain ⟨h1,h2,h3,h4⟩:=hc
 have h5:(n + m) * bytes≤2 ^ 46:=Nat.le_trans (Nat.mul_le_mul h2 h1) (by omega)
 have h6:n + m≤2 ^ 62:=Nat.le_trans h2 (by omega)
 rcases ht with rfl | ⟨i,rfl,hi,hlt⟩
 ·by_cases hm:m = 0
  ·subst hm
   have hd:ds = []:=List.length_eq_zero_iff.1 (by omega)
   subst hd
   rw[vApp_rig0,appD_ok ⟨h5,h6,h3,h4⟩]
   have:=hk .rig g.hp ⟨.inl rfl,fun _ _ _ => rfl⟩ (fun h => absurd h (Nat.lt_irrefl 0))
   rw[List.append_nil,Nat.add_zero] at this
   exact this
  ·rw[vApp_rig hm,appD_ok ⟨h5,h6,h3,h4⟩]
   exact hk (.own id esz) _ ⟨.inr ⟨rfl,by simp[upd]⟩,fun i hi _ => by simp[upd,hi]⟩ (fun _ => ⟨rfl,by simp[upd]⟩)
 ·rw[vApp_own,appD_ok ⟨h5,h6,h3,h4⟩,hal i rfl,selB_true,hi,appK_ok]
  exact hk (.own id esz) _ ⟨.inr ⟨rfl,by simp[upd]⟩,fun k hk' hne => by
   have:k≠i:=fun h => hne esz (by rw[h])
   simp[upd,hk',this]⟩ (fun _ => ⟨rfl,by simp[upd]⟩)
theorem bindO_app {d:Bool} {b j:Nat} {dst:Option Nat} {os:List AOper} {e:Env} {K:Env→G→Prop} {al:Nat→Bool} {id esz bytes n m:Nat} {cs ds:List AV} {t t2:Tok} {g:G}
  (ht:TkOk esz g t) (hal:∀ i,t = .own i esz→al i = true) (hc:bytes≤1000∧n + m≤1000000∧cs.length = n * esz∧ds.length = m * esz)
  (hk:∀ t' hp',AppR esz id t t' g hp'→WR F d b j os (put e dst (.sl (cs ++ ds) (n + m) t')) ⟨hp',g.nx⟩ K):bindO F d b j dst os e K (vApp al id esz bytes (.sl cs n t) (.sl ds m t2) g):=
 bindO_app1 ht hal hc fun t' hp' h _ => hk t' hp' h
theorem TkOk.mono {esz:Nat} {g:G} {t:Tok} {hp':Nat→Option Blk} {m:Nat} (h:TkOk esz g t) (hk:∀ i,t = .own i esz→hp' i = g.hp i) (hm:g.nx≤m):TkOk esz ⟨hp',m⟩ t:=by
 rcases h with rfl | ⟨i,rfl,h1,h2⟩
 ·exact .inl rfl
 ·exact .inr ⟨i,rfl,by show hp' i = _;rw[hk i rfl,h1],by show i < m;omega⟩
theorem AppR.ok {esz id:Nat} {t t':Tok} {g:G} {hp':Nat→Option Blk} (h:AppR esz id t t' g hp') {m:Nat} (hm:id < m):TkOk esz ⟨hp',m⟩ t':=by
 rcases h.tok with rfl | ⟨rfl,h1⟩
 ·exact .inl rfl
 ·exact .inr ⟨id,rfl,h1,hm⟩
theorem AppR.ne {esz id:Nat} {t t' u:Tok} {g:G} {hp':Nat→Option Blk} (h:AppR esz id t t' g hp') (hu:∀ e,u≠.own id e):TkNe t' u:=by
 rcases h.tok with rfl | ⟨rfl,_⟩
 ·exact TkNe.rig_l
 ·intro i e f h1 h2
  cases h1
  exact hu f h2
structure MvI (l:List (Int × Int)) (n:Int) (k:Nat) (t:Tok) (e:Env) (g:G):Prop where
 hk:k≤l.length
 e0:e 0 = .sl (pairsC l) l.length .non
 e1:e 1 = .i .i64 n
 e5:e 5 = .sl (pairsC (movI (l.take k) n)) k t
 e6:e 6 = .i .i64 ((k:Nat):Int)
 tk:TkOk 2 g t
theorem movI_len (l:List (Int × Int)) (n:Int):(movI l n).length = l.length:=by simp[movI]
theorem movI_take {l:List (Int × Int)} {n:Int} {k:Nat} (h:k < l.length):movI (l.take (k + 1)) n = movI (l.take k) n ++ [((l.getD k (0,0)).1 + n,(l.getD k (0,0)).2 + n)]:=by
 unfold movI
 rw[List.take_add_one,List.getElem?_eq_getElem h,List.getD_eq_getElem?_getD,List.getElem?_eq_getElem h,List.map_append];rfl
theorem sp7_moved (h121:F 121 = some A_xref07_moved) (l:List (Int × Int)) {n:Int} (hl:l.length≤100000) (hn:0≤n∧n≤1000000) (hp:∀ p∈l,0≤p.1∧p.1≤1000000∧0≤p.2∧p.2≤1000000):pureS F 121 [.sl (pairsC l) l.length .non,.i .i64 n] = some (.sl (pairsC (movI l n)) l.length .non):=by
 refine pure_of h121 ?_
 simp (disch:=omega) only[A_xref07_moved,wp,qa,qb,qc]
 refine blk_cut (fun e g => ∃ t,e 5 = .sl (pairsC (movI l n)) l.length t) ?_ ?_
 ·refine W_loop (fun q e g => ∃ (k:Nat) (t:Tok),q = l.length - k∧MvI l n k t e g) l.length ?_ ?_
  ·exact ⟨0,.rig,rfl,Nat.zero_le _,rfl,rfl,rfl,rfl,.inl rfl⟩
  ·rintro q e g ⟨k,t,rfl,hk,e0,e1,e5,e6,tk⟩
   by_cases c1:k < l.length
   ·have c1':((k:Nat):Int) < ((l.length:Nat):Int):=by omega
    have ha:=pairs_a c1
    have hb:=pairs_b c1
    have hdl:(List.drop (k * 2) (pairsC l)).length = l.length * 2 - k * 2:=by rw[List.length_drop,pairsC_len]
    have hw:=succ_wrap (k:=k) (by omega)
    have hnx:=movI_take (n:=n) c1
    have hpk:=hp _ (getD_mem (d:=(0,0)) c1)
    have hcl:(pairsC (movI (l.take k) n)).length = k * 2:=by rw[pairsC_len,movI_len,List.length_take];omega
    generalize l.getD k (0,0) = p at ha hb hnx hpk
    have hw1:IntKind.i64.wrap (p.1 + n) = p.1 + n:=i64_wrap (by omega) (by omega)
    have hw2:IntKind.i64.wrap (p.2 + n) = p.2 + n:=i64_wrap (by omega) (by omega)
    generalize hcs:pairsC (movI (l.take k) n) = cs at e5 hcl
    simp (disch:=omega) only[wp,qa,qb,qc,gl,e0,e1,e5,e6,c1',ha,hb,hdl,hw1,hw2]
    refine bindO_app (tk.mono (fun i hi => rfl) (by first | omega | (dsimp only;omega))) ?_ ⟨by omega,by omega,hcl,rfl⟩ ?_
    ·rintro i rfl
     rcases tk with h | ⟨i',h,h1,h2⟩
     ·cases h
     ·cases h;simp (disch:=omega) only[allow_lt]
    ·intro t' hp' ar
     simp (disch:=omega) only[wp,qa,qb,qc,e6,hw]
     refine ⟨l.length - (k + 1),by omega,k + 1,t',rfl,by omega,e0,e1,?_,rfl,ar.ok (by first | omega | (dsimp only;omega))⟩
     show AV.sl (cs ++ [.i .i64 (p.1 + n),.i .i64 (p.2 + n)]) (k + 1) t' = _
     rw[hnx,pairsC_app,hcs]
     rfl
   ·have c1':¬ ((k:Nat):Int) < ((l.length:Nat):Int):=by omega
    obtain rfl:k = l.length:=by omega
    rw[List.take_length] at e5
    simp (disch:=omega) only[wp,qa,qb,qc,gl,e0,e1,e5,e6,c1']
    exact ⟨t,rfl⟩
 ·rintro e g ⟨t,e5⟩
  simp (disch:=omega) only[wp,qa,qb,qc,e5]
end Go.Ab
end
section
set_option linter.unusedVariables false
set_option linter.unusedSimpArgs false
namespace Go.Ab
variable {F:Funs}
def szT (j:Nat):Nat:=if j = 0 then 6 else 2
structure SkTs (ts:Nat→Tok) (B:Nat) (g:G):Prop where
 ok:∀ j,TkOk (szT j) g (ts j)
 ne:∀ i j,i≠j→TkNe (ts i) (ts j)
 bc:∃ cs,g.hp B = some (.cells cs false)
 lt:B < g.nx
structure Frm1 (B:Nat) (g g':G):Prop where
 nx:g.nx≤g'.nx
 keep:∀ i,i < g.nx→i≠B→(∀ b,g.hp i≠some (.tok b))→g'.hp i = g.hp i
theorem Frm1.refl (B:Nat) (g:G):Frm1 B g g:=⟨Nat.le_refl _,fun _ _ _ _ => rfl⟩
theorem Frm1.trans {B:Nat} {g g1 g2:G} (h:Frm1 B g g1) (k:Frm1 B g1 g2):Frm1 B g g2:=
 ⟨Nat.le_trans h.nx k.nx,fun i hi hb ht => by
  have h1:=h.keep i hi hb ht
  rw[k.keep i (by have:=h.nx;omega) hb (fun b => by rw[h1];exact ht b),h1]⟩
theorem SkTs.alive {ts:Nat→Tok} {B:Nat} {g:G} (h:SkTs ts B g) {j i e:Nat} (ht:ts j = .own i e):g.hp i = some (.tok true)∧i < g.nx∧e = szT j∧i≠B:=by
 rcases h.ok j with h1 | ⟨i',h1,h2,h3⟩
 ·rw[ht] at h1;cases h1
 ·rw[ht] at h1;cases h1
  refine ⟨h2,h3,rfl,fun hb => ?_⟩
  obtain ⟨cs,hc⟩:=h.bc
  rw[hb,hc] at h2;cases h2
theorem SkTs.app {ts:Nat→Tok} {B:Nat} {g:G} (h:SkTs ts B g) {j id nA m:Nat} {t':Tok} {hpA hp':Nat→Option Blk} {cs:List AV} (hA:∀ i,i < g.nx→hpA i = g.hp i) (hid:g.nx≤id) (ar:AppR (szT j) id (ts j) t' ⟨hpA,nA⟩ hp') (hm:id < m):
  SkTs (upd ts j t') B ⟨upd hp' B (some (.cells cs false)),m⟩∧Frm1 B g ⟨upd hp' B (some (.cells cs false)),m⟩:=by
 have hBid:B≠id:=by have:=h.lt;omega
 have keep:∀ i,i < g.nx→(∀ e,ts j≠.own i e)→hp' i = g.hp i:=fun i hi hn => by rw[ar.keep i (by omega) hn];exact hA i hi
 refine ⟨⟨fun k => ?_,fun i k hik => ?_,⟨cs,by simp[upd]⟩,by show B < m;have:=h.lt;omega⟩,⟨by show g.nx≤m;omega,fun i hi hb ht => ?_⟩⟩
 ·by_cases hk:k = j
  ·subst hk
   rw[show upd ts k t' k = t' from if_pos rfl]
   rcases ar.tok with rfl | ⟨rfl,h1⟩
   ·exact .inl rfl
   ·exact .inr ⟨id,rfl,by show upd _ _ _ _ = _;rw[upd_ne _ _ (by omega)];exact h1,hm⟩
  ·rw[show upd ts j t' k = ts k from if_neg hk]
   rcases h.ok k with h1 | ⟨i,h1,h2,h3⟩
   ·exact .inl h1
   ·obtain ⟨_,_,_,hiB⟩:=h.alive h1
    exact .inr ⟨i,h1,by show upd _ _ _ _ = _;rw[upd_ne _ _ (by omega),keep i h3 (fun e he => h.ne k j hk i _ _ h1 he),h2],by show i < m;omega⟩
 ·have hnew:∀ k,k≠j→TkNe t' (ts k):=fun k hk => ar.ne fun e he => by have:=(h.alive he).2.1;omega
  by_cases hi:i = j
  ·subst hi
   rw[show upd ts i t' i = t' from if_pos rfl,show upd ts i t' k = ts k from if_neg (fun h => hik h.symm)]
   exact hnew k fun h => hik h.symm
  ·rw[show upd ts j t' i = ts i from if_neg hi]
   by_cases hk:k = j
   ·subst hk
    rw[show upd ts k t' k = t' from if_pos rfl]
    exact (hnew i hi).symm
   ·rw[show upd ts j t' k = ts k from if_neg hk]
    exact h.ne i k hik
 ·show upd _ _ _ _ = _
  rw[upd_ne _ _ hb]
  exact keep i hi fun e he => ht true (h.alive he).1
def skC (X:Gr) (ts:Nat→Tok):List AV:=[.i .i64 X.locs,.sl (evsC X.evs) X.evs.length (ts 0),.sl [] 0 .rig,.sl [] 0 .rig,.sl (pairsC X.rmw) X.rmw.length (ts 1),.sl (pairsC X.data) X.data.length (ts 2),.sl (pairsC X.ctrl) X.ctrl.length (ts 3),.sl [] 0 .rig]
structure SkAt (X:Gr) (B:Nat) (ts:Nat→Tok) (g:G):Prop where
 tk:SkTs ts B g
 cells:g.hp B = some (.cells (skC X ts) false)
def rnC (s:RS):List AV:=[.sl (evsC s.evs) s.evs.length .non,.sl (pairsC s.rmw) s.rmw.length .non,.sl (pairsC s.data) s.data.length .non,.sl (pairsC s.ctrl) s.ctrl.length .non,.sl [] 0 .rig,.i .i64 (s.used:Int),.sl (intsC s.regs) 8 .non]
structure LayS (X:Gr) (s:RS) (n:Nat) (B R:Nat) (g0:G) (ts:Nat→Tok) (e:Env) (g:G):Prop where
 sk:SkAt X B ts g
 e0:e 0 = .mp B 0
 e4:e 4 = .mp R 0
 e6:e 6 = .i .i64 ((n:Nat):Int)
 hr:g.hp R = some (.cells (rnC s) false)
 rb:R≠B
 rn:R < g.nx
 fr:Frm1 B g0 g
def SmP (l:List (Int × Int)):Prop:=∀ p∈l,0≤p.1∧p.1≤1000000∧0≤p.2∧p.2≤1000000
theorem gr6 (a b c d e f x:AV) (l:List AV):part (a :: b :: c :: d :: e :: f :: x :: l) 6 none = some x:=rfl
theorem gr7 (a b c d e f x y:AV) (l:List AV):part (a :: b :: c :: d :: e :: f :: x :: y :: l) 7 none = some y:=rfl
theorem lay_rmw (h121:F 121 = some A_xref07_moved) {X:Gr} {s:RS} {n B R:Nat} {g0:G} {ts:Nat→Tok} {e:Env} {g:G} {Q:Out→Env→G→Prop} (I:LayS X s n B R g0 ts e g) (hn:n≤1000) (hl:X.rmw.length≤100000) (hs:s.rmw.length≤100000) (hp:SmP s.rmw)
  (hQ:∀ e' g' ts',LayS { X with rmw:=X.rmw ++ movI s.rmw n } s n B R g0 ts' e' g'→Q .nrm e' g'):
  W F (.reg true [{ dst:=some 38,op:=.mv (.t 0) },{ dst:=some 39,op:=.mv (.t 0) },{ dst:=some 40,op:=.nilck (.t 39) },{ dst:=some 41,op:=.fa 4 (.t 40) },{ dst:=some 42,op:=.ld none (.t 41),pre:=[] },
    { dst:=some 43,op:=.fa 1 (.t 4) },{ dst:=some 44,op:=.ld none (.t 43),pre:=[] },{ dst:=some 45,op:=.mv (.t 6) },{ dst:=some 46,op:=.call .pure (.c (.fn 121 [] [])) [.t 44,.t 45],pre:=[] },
    { dst:=some 47,op:=.app 2 16 (.t 42) (.t 46),pre:=[] },{ dst:=some 48,op:=.nilck (.t 38) },{ dst:=some 49,op:=.fa 4 (.t 48) },{ dst:=none,op:=.st 1 (.t 49) (.t 47),pre:=[9] }]) e g Q:=by
 obtain ⟨⟨tk,hc⟩,e0,e4,e6,hr,rb,rn,fr⟩:=I
 have hB:=tk.lt
 have hmv:=sp7_moved h121 s.rmw (n:=(n:Int)) hs (by omega) hp
 have hml:=movI_len s.rmw (n:Int)
 unfold skC at hc
 have hr0:=hr
 unfold rnC at hr
 simp (disch:=omega) only[wp,qa,qb,qc,gl,e0,e4,e6,hc,hr,hmv,gr6,gr7]
 refine bindO_app ((tk.ok 1).mono (fun i hi => rfl) (by first | omega | (dsimp only;omega))) ?_ ⟨by omega,by omega,pairsC_len _,by rw[pairsC_len,hml]⟩ ?_
 ·intro i hi
  have:=(tk.alive hi).2.1
  exact allow_lt _ (by first | omega | (dsimp only;omega))
 ·intro t' hp' ar
  have ar2:=fun cs => tk.app (j:=1) (cs:=cs) (hA:=fun i hi => rfl) (by first | omega | (dsimp only;omega)) ar (m:=g.nx + 13) (by omega)
  have kp:∀ i cs ro,i < g.nx→g.hp i = some (.cells cs ro)→hp' i = some (.cells cs ro):=fun i cs ro hi hh => by
   rw[ar.keep i (by omega) (fun e' he => by have:=(tk.alive he).1;rw[hh] at this;cases this)]
   exact hh
  have hcB:=kp B _ _ hB hc
  have hcR:=kp R _ _ rn hr0
  simp (disch:=omega) only[wp,qa,qb,qc,gl,e0,e4,e6,hcB]
  refine hQ _ _ (upd ts 1 t') ⟨⟨?_,?_⟩,e0,e4,e6,?_,rb,by first | omega | (dsimp only;omega),?_⟩
  ·exact (ar2 _).1
  ·show upd _ _ _ _ = _
   rw[upd_same]
   simp[skC,upd,pairsC_app,hml]
  ·show upd _ _ _ _ = _
   rw[upd_ne _ _ rb];exact hcR
  ·exact fr.trans (ar2 _).2
theorem lay_data (h121:F 121 = some A_xref07_moved) {X:Gr} {s:RS} {n B R:Nat} {g0:G} {ts:Nat→Tok} {e:Env} {g:G} {Q:Out→Env→G→Prop} (I:LayS X s n B R g0 ts e g) (hn:n≤1000) (hl:X.data.length≤100000) (hs:s.data.length≤100000) (hp:SmP s.data)
  (hQ:∀ e' g' ts',LayS { X with data:=X.data ++ movI s.data n } s n B R g0 ts' e' g'→Q .nrm e' g'):
  W F (.reg true [{ dst:=some 50,op:=.mv (.t 0) },{ dst:=some 51,op:=.mv (.t 0) },{ dst:=some 52,op:=.nilck (.t 51) },{ dst:=some 53,op:=.fa 5 (.t 52) },{ dst:=some 54,op:=.ld none (.t 53),pre:=[] },
    { dst:=some 55,op:=.fa 2 (.t 4) },{ dst:=some 56,op:=.ld none (.t 55),pre:=[] },{ dst:=some 57,op:=.mv (.t 6) },{ dst:=some 58,op:=.call .pure (.c (.fn 121 [] [])) [.t 56,.t 57],pre:=[] },
    { dst:=some 59,op:=.app 2 16 (.t 54) (.t 58),pre:=[] },{ dst:=some 60,op:=.nilck (.t 50) },{ dst:=some 61,op:=.fa 5 (.t 60) },{ dst:=none,op:=.st 1 (.t 61) (.t 59),pre:=[9] }]) e g Q:=by
 obtain ⟨⟨tk,hc⟩,e0,e4,e6,hr,rb,rn,fr⟩:=I
 have hB:=tk.lt
 have hmv:=sp7_moved h121 s.data (n:=(n:Int)) hs (by omega) hp
 have hml:=movI_len s.data (n:Int)
 unfold skC at hc
 have hr0:=hr
 unfold rnC at hr
 simp (disch:=omega) only[wp,qa,qb,qc,gl,e0,e4,e6,hc,hr,hmv,gr6,gr7]
 refine bindO_app ((tk.ok 2).mono (fun i hi => rfl) (by first | omega | (dsimp only;omega))) ?_ ⟨by omega,by omega,pairsC_len _,by rw[pairsC_len,hml]⟩ ?_
 ·intro i hi
  have:=(tk.alive hi).2.1
  exact allow_lt _ (by first | omega | (dsimp only;omega))
 ·intro t' hp' ar
  have ar2:=fun cs => tk.app (j:=2) (cs:=cs) (hA:=fun i hi => rfl) (by first | omega | (dsimp only;omega)) ar (m:=g.nx + 13) (by omega)
  have kp:∀ i cs ro,i < g.nx→g.hp i = some (.cells cs ro)→hp' i = some (.cells cs ro):=fun i cs ro hi hh => by
   rw[ar.keep i (by omega) (fun e' he => by have:=(tk.alive he).1;rw[hh] at this;cases this)]
   exact hh
  have hcB:=kp B _ _ hB hc
  have hcR:=kp R _ _ rn hr0
  simp (disch:=omega) only[wp,qa,qb,qc,gl,e0,e4,e6,hcB]
  refine hQ _ _ (upd ts 2 t') ⟨⟨?_,?_⟩,e0,e4,e6,?_,rb,by first | omega | (dsimp only;omega),?_⟩
  ·exact (ar2 _).1
  ·show upd _ _ _ _ = _
   rw[upd_same]
   simp[skC,upd,pairsC_app,hml]
  ·show upd _ _ _ _ = _
   rw[upd_ne _ _ rb];exact hcR
  ·exact fr.trans (ar2 _).2
theorem lay_ctrl (h121:F 121 = some A_xref07_moved) {X:Gr} {s:RS} {n B R:Nat} {g0:G} {ts:Nat→Tok} {e:Env} {g:G} {Q:Out→Env→G→Prop} (I:LayS X s n B R g0 ts e g) (hn:n≤1000) (hl:X.ctrl.length≤100000) (hs:s.ctrl.length≤100000) (hp:SmP s.ctrl)
  (hQ:∀ e' g' ts',LayS { X with ctrl:=X.ctrl ++ movI s.ctrl n } s n B R g0 ts' e' g'→Q .nrm e' g'):
  W F (.reg true [{ dst:=some 62,op:=.mv (.t 0) },{ dst:=some 63,op:=.mv (.t 0) },{ dst:=some 64,op:=.nilck (.t 63) },{ dst:=some 65,op:=.fa 6 (.t 64) },{ dst:=some 66,op:=.ld none (.t 65),pre:=[] },
    { dst:=some 67,op:=.fa 3 (.t 4) },{ dst:=some 68,op:=.ld none (.t 67),pre:=[] },{ dst:=some 69,op:=.mv (.t 6) },{ dst:=some 70,op:=.call .pure (.c (.fn 121 [] [])) [.t 68,.t 69],pre:=[] },
    { dst:=some 71,op:=.app 2 16 (.t 66) (.t 70),pre:=[] },{ dst:=some 72,op:=.nilck (.t 62) },{ dst:=some 73,op:=.fa 6 (.t 72) },{ dst:=none,op:=.st 1 (.t 73) (.t 71),pre:=[9] }]) e g Q:=by
 obtain ⟨⟨tk,hc⟩,e0,e4,e6,hr,rb,rn,fr⟩:=I
 have hB:=tk.lt
 have hmv:=sp7_moved h121 s.ctrl (n:=(n:Int)) hs (by omega) hp
 have hml:=movI_len s.ctrl (n:Int)
 unfold skC at hc
 have hr0:=hr
 unfold rnC at hr
 simp (disch:=omega) only[wp,qa,qb,qc,gl,e0,e4,e6,hc,hr,hmv,gr6,gr7]
 refine bindO_app ((tk.ok 3).mono (fun i hi => rfl) (by first | omega | (dsimp only;omega))) ?_ ⟨by omega,by omega,pairsC_len _,by rw[pairsC_len,hml]⟩ ?_
 ·intro i hi
  have:=(tk.alive hi).2.1
  exact allow_lt _ (by first | omega | (dsimp only;omega))
 ·intro t' hp' ar
  have ar2:=fun cs => tk.app (j:=3) (cs:=cs) (hA:=fun i hi => rfl) (by first | omega | (dsimp only;omega)) ar (m:=g.nx + 13) (by omega)
  have kp:∀ i cs ro,i < g.nx→g.hp i = some (.cells cs ro)→hp' i = some (.cells cs ro):=fun i cs ro hi hh => by
   rw[ar.keep i (by omega) (fun e' he => by have:=(tk.alive he).1;rw[hh] at this;cases this)]
   exact hh
  have hcB:=kp B _ _ hB hc
  have hcR:=kp R _ _ rn hr0
  simp (disch:=omega) only[wp,qa,qb,qc,gl,e0,e4,e6,hcB]
  refine hQ _ _ (upd ts 3 t') ⟨⟨?_,?_⟩,e0,e4,e6,?_,rb,by first | omega | (dsimp only;omega),?_⟩
  ·exact (ar2 _).1
  ·show upd _ _ _ _ = _
   rw[upd_same]
   simp[skC,upd,pairsC_app,hml]
  ·show upd _ _ _ _ = _
   rw[upd_ne _ _ rb];exact hcR
  ·exact fr.trans (ar2 _).2
theorem ev_set0 (e:Ev) (t:Int):(evC e).set 0 (.i .i64 t) = evC (thE t e):=rfl
theorem frzL_evC (hp:Nat→Option Blk) (e:Ev):frzL hp depth (evC e) = some (evC e):=frzL_flat (d:=8) (evC_flat e)
theorem evsC_app (l m:List Ev):evsC (l ++ m) = evsC l ++ evsC m:=by simp[evsC]
theorem evs_take {l:List Ev} {k:Nat} (h:k < l.length):l.take (k + 1) = l.take k ++ [l.getD k ev0]:=by
 rw[List.take_add_one,List.getElem?_eq_getElem h,List.getD_eq_getElem?_getD,List.getElem?_eq_getElem h];rfl
structure LayL (X:Gr) (s:RS) (t:Int) (B R:Nat) (g0:G) (ts:Nat→Tok) (i:Nat) (e:Env) (g:G):Prop where
 hi:i≤s.evs.length
 l:LayS { X with evs:=X.evs ++ (s.evs.take i).map (thE t) } s X.evs.length B R g0 ts e g
 e2:e 2 = .i .i64 t
 e7:e 7 = .i .i64 ((i:Nat):Int)
theorem rp_lay (h105:F 105 = some A_xref07_Lay) (h121:F 121 = some A_xref07_moved) {X:Gr} {s:RS} {t:Int} {B:Nat} {ts:Nat→Tok} {g:G} (S:SkAt X B ts g) (hx:X.evs.length≤500) (hs:s.evs.length≤500)
  (l1:X.rmw.length≤100000) (l2:X.data.length≤100000) (l3:X.ctrl.length≤100000) (m1:s.rmw.length≤100000) (m2:s.data.length≤100000) (m3:s.ctrl.length≤100000) (p1:SmP s.rmw) (p2:SmP s.data) (p3:SmP s.ctrl):
  ∃ v g',callS F 105 [.mp B 0,.agg (rnC s),.i .i64 t] g = some (v,g')∧(∃ ts',SkAt (layX X s t) B ts' g')∧Frm1 B g g':=by
 refine raw_of (P:=fun v g' => (∃ ts',SkAt (layX X s t) B ts' g')∧Frm1 B g g') h105 ?_
 obtain ⟨tk,hc⟩:=S
 have hB:=tk.lt
 have hc0:=hc
 unfold skC at hc
 rw[show rnC s = [.sl (evsC s.evs) s.evs.length .non,.sl (pairsC s.rmw) s.rmw.length .non,.sl (pairsC s.data) s.data.length .non,.sl (pairsC s.ctrl) s.ctrl.length .non,.sl [] 0 .rig,.i .i64 (s.used:Int),.sl (intsC s.regs) 8 .non] from rfl]
 have tr5:∀ x:AV,List.replicate 5 x ++ [.b false] = [x,x,x,x,x,.b false]:=fun _ => rfl
 simp (disch:=omega) only[A_xref07_Lay,wp,qa,qb,qc,gl,hc]
 refine blk_cut (fun e g' => ∃ ts',LayL X s t B g.nx g ts' s.evs.length e g') ?_ ?_
 ·refine W_loop (fun q e g' => ∃ (i:Nat) (ts':Nat→Tok),q = s.evs.length - i∧LayL X s t B g.nx g ts' i e g') s.evs.length ?_ ?_
  ·refine ⟨0,ts,rfl,Nat.zero_le _,⟨⟨⟨fun j => (tk.ok j).mono (fun i hi => ?_) (by first | omega | (dsimp only;omega)),tk.ne,⟨_,(show upd _ _ _ _ = _ by rw[upd_ne _ _ (by omega)];exact hc0)⟩,by first | omega | (dsimp only;omega)⟩,?_⟩,rfl,rfl,rfl,?_,by omega,by first | omega | (dsimp only;omega),⟨by first | omega | (dsimp only;omega),fun i hi hb ht => ?_⟩⟩,rfl,rfl⟩
   ·have:=(tk.alive hi).2.1
    exact upd_ne _ _ (by omega)
   ·show upd _ _ _ _ = _
    rw[upd_ne _ _ (by omega),hc0]
    simp[skC]
   ·exact upd_same _ _ _
   ·exact upd_ne _ _ (by omega)
  ·rintro q e g1 ⟨i,ts',rfl,hi,⟨⟨tk,hc⟩,e0,e4,e6,hr,rb,rn,fr⟩,e2,e7⟩
   have hB1:=tk.lt
   have hr0:=hr
   unfold rnC at hr
   by_cases c1:i < s.evs.length
   ·have c1':((i:Nat):Int) < ((s.evs.length:Nat):Int):=by omega
    have hev:=ev_part c1
    have hw:=succ_wrap (k:=i) (by omega)
    have hln:(evsC (X.evs ++ (s.evs.take i).map (thE t))).length = (X.evs ++ (s.evs.take i).map (thE t)).length * 6:=evsC_len _
    have hll:(X.evs ++ (s.evs.take i).map (thE t)).length≤1000:=by rw[List.length_append,List.length_map,List.length_take];omega
    have hnx:X.evs ++ (s.evs.take (i + 1)).map (thE t) = (X.evs ++ (s.evs.take i).map (thE t)) ++ [thE t (s.evs.getD i ev0)]:=by rw[evs_take c1,List.map_append,List.append_assoc];rfl
    generalize s.evs.getD i ev0 = ev at hev hnx
    generalize hE:X.evs ++ (s.evs.take i).map (thE t) = E at hc hln hll hnx
    unfold skC at hc
    dsimp only at hc
    simp (disch:=omega) only[wp,qa,qb,qc,gl,e0,e2,e4,e6,e7,hc,hr,c1',hev,gr6,gr7,ev_set0,frzL_evC]
    refine bindO_app (esz:=6) ((tk.ok 0).mono (fun i hi => ?_) (by first | omega | (dsimp only;omega))) ?_ ⟨by omega,by omega,by omega,by first | rfl | (rw[evC_len])⟩ ?_
    ·have:=(tk.alive hi).2.1
     simp (disch:=omega) only[upd_ne]
    ·intro i hi
     have:=(tk.alive hi).2.1
     exact allow_lt _ (by first | omega | (dsimp only;omega))
    ·intro t' hp' ar
     have ar2:=fun cs => tk.app (j:=0) (cs:=cs) (fun i hi => ?_) (by first | omega | (dsimp only;omega)) ar (m:=g1.nx + 5 + 7 + 3 + 11 + 3) (by omega)
     rotate_left
     ·simp (disch:=omega) only[upd_ne]
     have kp:∀ i cs ro,i < g1.nx→g1.hp i = some (.cells cs ro)→hp' i = some (.cells cs ro):=fun i cs ro hi hh => by
      rw[ar.keep i (by omega) (fun e' he => by have:=(tk.alive he).1;rw[hh] at this;cases this)]
      simp (disch:=omega) only[upd_ne]
      exact hh
     have hcB:=kp B _ _ hB1 hc
     have hcR:=kp g.nx _ _ rn hr0
     simp (disch:=omega) only[wp,qa,qb,qc,gl,e0,e2,e4,e6,e7,hcB,hw]
     refine ⟨s.evs.length - (i + 1),by omega,i + 1,upd ts' 0 t',rfl,by omega,⟨⟨(ar2 _).1,?_⟩,e0,e4,e6,?_,rb,by first | omega | (dsimp only;omega),fr.trans (ar2 _).2⟩,e2,rfl⟩
     ·show upd _ _ _ _ = _
      rw[upd_same,hnx]
      simp[skC,upd,evsC_app]
      rfl
     ·show upd _ _ _ _ = _
      rw[upd_ne _ _ rb];exact hcR
   ·have c1':¬ ((i:Nat):Int) < ((s.evs.length:Nat):Int):=by omega
    obtain rfl:i = s.evs.length:=by omega
    simp (disch:=omega) only[wp,qa,qb,qc,gl,e0,e4,e6,e7,hr,c1',gr6,gr7]
    refine ⟨ts',Nat.le_refl _,⟨⟨⟨fun j => (tk.ok j).mono (fun i hi => rfl) (by first | omega | (dsimp only;omega)),tk.ne,tk.bc,by first | omega | (dsimp only;omega)⟩,hc⟩,e0,e4,e6,hr0,rb,by first | omega | (dsimp only;omega),⟨by have:=fr.nx;first | omega | (dsimp only;omega),fr.keep⟩⟩,e2,e7⟩
 ·rintro e g1 ⟨ts1,_,I,e2,e7⟩
  rw[List.take_length] at I
  rw[W_seq]
  refine lay_rmw h121 I (by omega) l1 m1 p1 fun e g2 ts2 I => ?_
  rw[thenQ_nrm,W_seq]
  refine lay_data h121 I (by omega) l2 m2 p2 fun e g3 ts3 I => ?_
  rw[thenQ_nrm,W_seq]
  refine lay_ctrl h121 I (by omega) l3 m3 p3 fun e g4 ts4 I => ?_
  rw[thenQ_nrm]
  obtain ⟨⟨tk,hc⟩,e0,e4,e6,hr,rb,rn,fr⟩:=I
  have hB:=tk.lt
  have hmv:=sp7_moved h121 [] (n:=(X.evs.length:Int)) (by simp) (by omega) (fun p hp => absurd hp (List.not_mem_nil))
  simp only[movI,pairsC,List.map_nil,List.flatMap_nil,List.length_nil] at hmv
  have hc0:=hc
  unfold skC at hc
  unfold rnC at hr
  simp (disch:=omega) only[wp,qa,qb,qc,gl,e0,e4,e6,hc,hr,hmv,gr6,gr7]
  refine ⟨_,rfl,⟨ts4,⟨fun j => (tk.ok j).mono (fun i hi => ?_) (by first | omega | (dsimp only;omega)),tk.ne,⟨_,upd_same _ _ _⟩,by first | omega | (dsimp only;omega)⟩,?_⟩,⟨by have:=fr.nx;first | omega | (dsimp only;omega),fun i hi hb ht => ?_⟩⟩
  ·have:=(tk.alive hi).2.2.2
   exact upd_ne _ _ (by omega)
  ·show upd _ _ _ _ = _
   rw[upd_same]
   simp[skC,layX]
  ·show upd _ _ _ _ = _
   rw[upd_ne _ _ hb]
   exact fr.keep i hi hb ht
end Go.Ab
end
section
set_option linter.unusedVariables false
set_option linter.unusedSimpArgs false
namespace Go.Ab
variable {F:Funs}
def fsT (id:Nat):Nat→Tok:=fun j => if j = 0 then .own id 6 else .rig
def fsE (k:Nat):List Ev:=(List.range k).map wE
theorem fsE_succ (k:Nat):fsE (k + 1) = fsE k ++ [wE k]:=by simp[fsE,List.range_succ]
theorem fsE_len (k:Nat):(fsE k).length = k:=by simp[fsE]
def fsC (k:Nat) (t:Tok):List AV:=[.i .i64 2,.sl (evsC (fsE k)) k t,.sl [] 0 .rig,.sl [] 0 .rig,.sl [] 0 .rig,.sl [] 0 .rig,.sl [] 0 .rig,.sl [] 0 .rig]
structure FsI (g0:G) (C D k:Nat) (t:Tok) (e:Env) (g:G):Prop where
 hk:k≤2
 e0:e 0 = .i .i64 2
 e2:e 2 = .mp D 0
 e3:e 3 = .mp C 0
 e4:e 4 = .i .i64 ((k:Nat):Int)
 hc:g.hp C = some (.cells (fsC k t) false)
 hd:∃ cs,g.hp D = some (.cells cs false)∧cs.length = 8
 tk:TkOk 6 g t
 tn:1≤k→t≠.rig
 told:∀ i,t = .own i 6→g0.nx≤i
 cd:g0.nx≤C∧g0.nx≤D∧C < g.nx∧D < g.nx∧C≠D
 nx:g0.nx≤g.nx
 fr:∀ i,i < g0.nx→g.hp i = g0.hp i
theorem wE_build (k:Nat):splice [AV.i .i64 0,.i .i64 2,.i .i64 0,.i .i64 0,.i .i64 0,.b false] 3 [.i .i64 ((k:Nat):Int)] = evC (wE k):=rfl
theorem rp_first (h103:F 103 = some A_xref07_First) (g:G):
  ∃ v g',callS F 103 [.i .i64 2] g = some (v,g')∧(∃ id,v = .agg (skC sk0 (fsT id))∧g'.hp id = some (.tok true)∧g.nx≤id∧id < g'.nx)∧g.nx≤g'.nx∧∀ i,i < g.nx→g'.hp i = g.hp i:=by
 refine raw_of (P:=fun v g' => (∃ id,v = .agg (skC sk0 (fsT id))∧g'.hp id = some (.tok true)∧g.nx≤id∧id < g'.nx)∧g.nx≤g'.nx∧∀ i,i < g.nx→g'.hp i = g.hp i) h103 ?_
 have l7:∀ x:AV,List.replicate 7 x = [x,x,x,x,x,x,x]:=fun _ => rfl
 have l5:∀ x:AV,List.replicate 5 x = [x,x,x,x,x]:=fun _ => rfl
 have s8:∀ b1 b2 b3 b4 b5 b6 b7 b8 c1 c2 c3 c4 c5 c6 c7 c8:AV,splice [b1,b2,b3,b4,b5,b6,b7,b8] 0 [c1,c2,c3,c4,c5,c6,c7,c8] = [c1,c2,c3,c4,c5,c6,c7,c8]:=fun _ _ _ _ _ _ _ _ _ _ _ _ _ _ _ _ => rfl
 have s6:∀ b1 b2 b3 b4 b5 b6 c1 c2 c3 c4 c5 c6:AV,splice [b1,b2,b3,b4,b5,b6] 0 [c1,c2,c3,c4,c5,c6] = [c1,c2,c3,c4,c5,c6]:=fun _ _ _ _ _ _ _ _ _ _ _ _ => rfl
 have p8:∀ c1 c2 c3 c4 c5 c6 c7 c8:AV,part [c1,c2,c3,c4,c5,c6,c7,c8] 0 (some 8) = some (.agg [c1,c2,c3,c4,c5,c6,c7,c8]):=fun _ _ _ _ _ _ _ _ => rfl
 simp (disch:=omega) only[A_xref07_First,wp,qa,qb,qc,gl,l7,s8]
 refine blk_cut (fun e g' => ∃ t,FsI g (g.nx + 1 + 2) g.nx 2 t e g') ?_ ?_
 ·refine W_loop (fun q e g' => ∃ (k:Nat) (t:Tok),q = 2 - k∧FsI g (g.nx + 1 + 2) g.nx k t e g') 2 ?_ ?_
  ·refine ⟨0,.rig,rfl,by omega,rfl,rfl,rfl,rfl,upd_same _ _ _,?_,.inl rfl,by omega,fun i h => (by cases h),⟨by omega,by omega,by first | omega | (dsimp only;omega),by first | omega | (dsimp only;omega),by omega⟩,by first | omega | (dsimp only;omega),fun i hi => ?_⟩
   ·exact ⟨[.i .i64 0,.sl [] 0 .rig,.sl [] 0 .rig,.sl [] 0 .rig,.sl [] 0 .rig,.sl [] 0 .rig,.sl [] 0 .rig,.sl [] 0 .rig],by simp (disch:=omega) only[upd_ne,upd_same],rfl⟩
   ·simp (disch:=omega) only[upd_ne]
  ·rintro q e g1 ⟨k,t,rfl,hk,e0,e2,e3,e4,hc,⟨ds,hd,hdl⟩,tk,tn,told,⟨a1,a2,a3,a4,a5⟩,hx,fr⟩
   by_cases c1:k < 2
   ·have c1':((k:Nat):Int) < 2:=by omega
    have hw:=succ_wrap (k:=k) (by omega)
    have hel:(evsC (fsE k)).length = k * 6:=by rw[evsC_len,fsE_len]
    unfold fsC at hc
    simp (disch:=omega) only[wp,qa,qb,qc,gl,e0,e2,e3,e4,hc,c1',l5,s6,wE_build,frzL_evC]
    refine bindO_app1 (esz:=6) (tk.mono (fun i hi => rfl) (by first | omega | (dsimp only;omega))) (fun i hi => allow_no _ _ _) ⟨by omega,by omega,hel,rfl⟩ ?_
    intro t' hp' ar hpos
    obtain ⟨rfl,hlive⟩:=hpos (by omega)
    have kp:∀ i,i < g1.nx→(∀ b,g1.hp i≠some (.tok b))→hp' i = g1.hp i:=fun i hi hb => by
     refine ar.keep i (by omega) fun e' he => ?_
     rcases tk with h | ⟨i',h,h1,h2⟩
     ·rw[h] at he;cases he
     ·rw[h] at he;cases he;exact hb true h1
    have hcC:=(kp (g.nx + 1 + 2) a3 (fun b h => by rw[hc] at h;cases h)).trans hc
    have hcD:=(kp g.nx a4 (fun b h => by rw[hd] at h;cases h)).trans hd
    simp (disch:=omega) only[wp,qa,qb,qc,gl,e0,e2,e3,e4,hcC,hw]
    refine ⟨2 - (k + 1),by omega,k + 1,.own (g1.nx + 3 + 5) 6,rfl,by omega,e0,e2,e3,rfl,?_,⟨ds,?_,hdl⟩,.inr ⟨_,rfl,?_,?_⟩,by simp,fun i h => by cases h;omega,⟨a1,a2,by first | omega | (dsimp only;omega),by first | omega | (dsimp only;omega),a5⟩,by first | omega | (dsimp only;omega),fun i hi => ?_⟩
    ·show upd _ _ _ _ = _
     rw[upd_same,fsC,fsE_succ,evsC_app]
     rfl
    ·show upd _ _ _ _ = _
     rw[upd_ne _ _ (by omega)];exact hcD
    ·show upd _ _ _ _ = _
     rw[upd_ne _ _ (by omega)];exact hlive
    ·first | omega | (dsimp only;omega)
    ·show upd _ _ _ _ = _
     rw[upd_ne _ _ (by omega),ar.keep i (by omega) (fun e' he => ?_)]
     ·exact fr i hi
     ·rcases tk with h | ⟨i',h,h1,h2⟩
      ·rw[h] at he;cases he
      ·have:=told i' h
       rw[h] at he;cases he;omega
   ·have c1':¬ ((k:Nat):Int) < 2:=by omega
    obtain rfl:k = 2:=by omega
    simp (disch:=omega) only[wp,qa,qb,qc,gl,e0,e2,e3,e4,c1']
    exact ⟨t,Nat.le_refl _,e0,e2,e3,e4,hc,⟨ds,hd,hdl⟩,tk.mono (fun i hi => rfl) (by first | omega | (dsimp only;omega)),tn,told,⟨a1,a2,by first | omega | (dsimp only;omega),by first | omega | (dsimp only;omega),a5⟩,by first | omega | (dsimp only;omega),fr⟩
 ·rintro e g1 ⟨t,hk,e0,e2,e3,e4,hc,⟨ds,hd,hdl⟩,tk,tn,told,⟨a1,a2,a3,a4,a5⟩,hx,fr⟩
  rcases tk with rfl | ⟨id,rfl,hlive,hlt⟩
  ·exact absurd rfl (tn (by omega))
  ·have hid:=told id rfl
   have hn1:id≠g.nx:=fun h => by rw[h,hd] at hlive;cases hlive
   unfold fsC at hc
   have ds8:∃ b1 b2 b3 b4 b5 b6 b7 b8,ds = [b1,b2,b3,b4,b5,b6,b7,b8]:=by
    match ds,hdl with
    | [b1,b2,b3,b4,b5,b6,b7,b8],_ => exact ⟨b1,b2,b3,b4,b5,b6,b7,b8,rfl⟩
   obtain ⟨b1,b2,b3,b4,b5,b6,b7,b8,rfl⟩:=ds8
   simp (disch:=omega) only[wp,qa,qb,qc,gl,e2,e3,hc,hd,p8,s8,res_cell,resC]
   refine ⟨_,rfl,⟨id,?_,?_,hid,by first | omega | (dsimp only;omega)⟩,by first | omega | (dsimp only;omega),fun i hi => ?_⟩
   ·simp[skC,sk0,fsT,fsE,pairsC]
    rfl
   ·simp (disch:=omega) only[upd_ne];exact hlive
   ·simp (disch:=omega) only[upd_ne];exact fr i hi
end Go.Ab
end
section
set_option linter.unusedVariables false
set_option linter.unusedSimpArgs false
namespace Go.Ab
variable {F:Funs}
def skX (ths:List (List Ins)) (lots:List (List Int)):Nat→Gr
 | 0 => sk0
 | i + 1 => layX (skX ths lots i) (doR evX (ths.getD i []) (lots.getD i [])) ((i:Int) + 1)
structure HdOk (th:List Ins) (l:List Int):Prop where
 sh:(doR evX th l).short = false
 us:(doR evX th l).used = l.length
 ln:l.length≤1000
structure LotOk (ths:List (List Ins)) (lots:List (List Int)):Prop where
 len:lots.length = ths.length
 ok:∀ i,i < ths.length→HdOk (ths.getD i []) (lots.getD i [])
theorem skX_inv {ths lots} (hk:∀ i,i < ths.length→ThK (ths.getD i [])):∀ i,i≤ths.length→SkInv (skX ths lots i) (i:Int)∧(skX ths lots i).evs.length≤2 + 24 * i∧(skX ths lots i).rf = []∧(skX ths lots i).co = []
 | 0,_ => ⟨sk0_inv,by simp[skX,sk0],rfl,rfl⟩
 | i + 1,h => by
   obtain ⟨h1,h2,h3,h4⟩:=skX_inv hk i (by omega)
   have hth:=hk i (by omega)
   obtain ⟨r1,r2⟩:=doR_inv (V:=evX) (th:=ths.getD i []) (reads:=lots.getD i []) (fun k hkk => ⟨_,hth.ins k hkk⟩)
   have hl:=hth.len
   refine ⟨?_,?_,h3,h4⟩
   ·have:=h1.lay (by omega) r1
    exact_mod_cast this
   ·show ((skX ths lots i).evs ++ (doR evX (ths.getD i []) (lots.getD i [])).evs.map (thE ((i:Int) + 1))).length≤_
    rw[List.length_append,List.length_map]
    omega
theorem DpL.sm {es:List Ev} {l:List (Int × Int)} (h:DpL es l) (hn:es.length≤1000000):SmP l:=fun p hp => by
 obtain ⟨a,b,c,_⟩:=h.1 p hp
 omega
theorem RmL.sm {es:List Ev} {l:List (Int × Int)} (h:RmL es l) (hn:es.length≤1000000):SmP l:=fun p hp => by
 obtain ⟨a,b,c,_⟩:=h.pairs p hp
 omega
structure SnI (ths:List (List Ins)) (lots:List (List Int)) (B i:Nat) (e:Env) (g:G):Prop where
 hi:i≤ths.length
 e1:e 1 = .sl (coC lots) lots.length .non
 e2:e 2 = .mp 0 0
 e4:e 4 = .mp 1 0
 e6:e 6 = .mp B 0
 e7:e 7 = .i .i64 ((i:Nat):Int)
 h0:g.hp 0 = some (.cells [.i .i64 2,.sl (thsC ths) ths.length .non] false)
 h1:g.hp 1 = some (.cells [.i .i64 0,.sl [] 0 .rig,.sl [] 0 .rig,.sl [] 0 .rig,.sl [] 0 .rig,.sl [] 0 .rig,.sl [] 0 .rig,.sl [] 0 .rig] false)
 sk:∃ ts,SkAt (skX ths lots i) B ts g
 b2:2≤B
theorem Frm1.cells {B:Nat} {g g':G} (h:Frm1 B g g') {i:Nat} {cs:List AV} {ro:Bool} (hi:i < g.nx) (hb:i≠B) (hc:g.hp i = some (.cells cs ro)):g'.hp i = some (.cells cs ro):=by
 rw[h.keep i hi hb (fun b hh => by rw[hc] at hh;cases hh)];exact hc
theorem SkAt.mono {X:Gr} {B:Nat} {ts:Nat→Tok} {g:G} {hp':Nat→Option Blk} {m:Nat} (h:SkAt X B ts g) (hk:∀ i,i < g.nx→hp' i = g.hp i) (hm:g.nx≤m):SkAt X B ts ⟨hp',m⟩:=
 ⟨⟨fun j => (h.tk.ok j).mono (fun i hi => hk i (h.tk.alive hi).2.1) hm,h.tk.ne,⟨_,(hk B h.tk.lt).trans h.cells⟩,Nat.lt_of_lt_of_le h.tk.lt hm⟩,(hk B h.tk.lt).trans h.cells⟩
theorem frz_sk (hp) {X:Gr} (ts:Nat→Tok) (h1:X.rf = []) (h2:X.co = []) (h3:X.ctrli = []) (c:Int):frz hp depth (.tup [.agg (skC X ts),.i .i64 c]) = some (.tup [.agg (grC X),.i .i64 c]):=by
 show frz hp (8 + 1) _ = _
 simp only[frz,frzL,skC,Option.map_some,grC,h1,h2,h3]
 rfl
theorem sp7_skel (A:ChF F) (D:RunF F) (h90:F 90 = some A_xref07_Skeleton) (h103:F 103 = some A_xref07_First) (h105:F 105 = some A_xref07_Lay) (h121:F 121 = some A_xref07_moved)
  {ths:List (List Ins)} {lots:List (List Int)} {L:Nat} (P:PgK ths L) (hlot:LotOk ths lots):
  pureS F 90 [.agg [.i .i64 2,.sl (thsC ths) ths.length .non],.sl (coC lots) lots.length .non] = some (.tup [.agg (grC (skX ths lots ths.length)),.i .i64 0]):=by
 refine pure_of h90 ?_
 have hck:=sp4_check A P
 have l7:∀ x:AV,List.replicate 7 x = [x,x,x,x,x,x,x]:=fun _ => rfl
 have l5:∀ x:AV,List.replicate 5 x = [x,x,x,x,x]:=fun _ => rfl
 have s8:∀ b1 b2 b3 b4 b5 b6 b7 b8 c1 c2 c3 c4 c5 c6 c7 c8:AV,splice [b1,b2,b3,b4,b5,b6,b7,b8] 0 [c1,c2,c3,c4,c5,c6,c7,c8] = [c1,c2,c3,c4,c5,c6,c7,c8]:=fun _ _ _ _ _ _ _ _ _ _ _ _ _ _ _ _ => rfl
 have s7:∀ b1 b2 b3 b4 b5 b6 b7 c1 c2 c3 c4 c5 c6 c7:AV,splice [b1,b2,b3,b4,b5,b6,b7] 0 [c1,c2,c3,c4,c5,c6,c7] = [c1,c2,c3,c4,c5,c6,c7]:=fun _ _ _ _ _ _ _ _ _ _ _ _ _ _ => rfl
 have p8:∀ c1 c2 c3 c4 c5 c6 c7 c8:AV,part [c1,c2,c3,c4,c5,c6,c7,c8] 0 (some 8) = some (.agg [c1,c2,c3,c4,c5,c6,c7,c8]):=fun _ _ _ _ _ _ _ _ => rfl
 have f2:∀ hp,frz hp depth (.agg [.i .i64 2,.sl (thsC ths) ths.length .non]) = some (.agg [.i .i64 2,.sl (thsC ths) ths.length .non]):=fun hp => by
  refine frz_d_agg ?_
  show frzL _ (7 + 1) _ = _
  simp only[frzL,frz]
 simp (disch:=omega) only[A_xref07_Skeleton,wp,qa,qb,qc,gl,l7,hck,f2,Int.reduceBNe]
 refine bindO_call (P:=fun v g' => (∃ id,v = .agg (skC sk0 (fsT id))∧g'.hp id = some (.tok true)∧11≤id∧id < g'.nx)∧11≤g'.nx∧g'.hp 0 = some (.cells [.i .i64 2,.sl (thsC ths) ths.length .non] false)∧g'.hp 1 = some (.cells [.i .i64 0,.sl [] 0 .rig,.sl [] 0 .rig,.sl [] 0 .rig,.sl [] 0 .rig,.sl [] 0 .rig,.sl [] 0 .rig,.sl [] 0 .rig] false)) ?_ ?_
 ·obtain ⟨v,g',h1,⟨id,h2,h3,h4,h5⟩,h6,h7⟩:=rp_first h103 _
  exact ⟨v,g',h1,⟨id,h2,h3,h4,h5⟩,h6,by rw[h7 0 (by dsimp only;omega)];rfl,by rw[h7 1 (by dsimp only;omega)];rfl⟩
 ·rintro v g2 ⟨⟨id,rfl,hlive,hid,hlt⟩,hx,h0,h1⟩
  rw[skC]
  simp (disch:=omega) only[wp,qa,qb,qc,gl,s8,h0,h1]
  refine blk_cut (fun e g => SnI ths lots 9 ths.length e g) ?_ ?_
  ·refine W_loop (fun q e g => ∃ i:Nat,q = ths.length - i∧SnI ths lots 9 i e g) ths.length ?_ ?_
   ·refine ⟨0,rfl,Nat.zero_le _,rfl,rfl,rfl,rfl,rfl,?_,?_,⟨fsT id,⟨fun j => ?_,fun i j hij => ?_,⟨skC (skX ths lots 0) (fsT id),?_⟩,by first | omega | (dsimp only;omega)⟩,?_⟩,by omega⟩
    ·simp (disch:=omega) only[upd_ne];exact h0
    ·simp (disch:=omega) only[upd_ne];exact h1
    ·unfold fsT
     by_cases hj:j = 0
     ·subst hj
      refine .inr ⟨id,rfl,?_,by first | omega | (dsimp only;omega)⟩
      simp (disch:=omega) only[upd_ne];exact hlive
     ·rw[if_neg hj];exact .inl rfl
    ·unfold fsT
     by_cases hi:i = 0
     ·subst hi
      rw[if_pos rfl,if_neg (fun h => hij h.symm)];exact TkNe.rig_r
     ·rw[if_neg hi];exact TkNe.rig_l
    ·simp (disch:=omega) only[upd_same];rfl
    ·simp (disch:=omega) only[upd_same];rfl
   ·rintro q e g ⟨i,rfl,hi,e1,e2,e4,e6,e7,h0,h1,⟨ts,S⟩,hB⟩
    by_cases c1:i < ths.length
    ·have c1':((i:Nat):Int) < ((ths.length:Nat):Int):=by omega
     have c2':((i:Nat):Int) < ((lots.length:Nat):Int):=by have:=hlot.len;omega
     have hth:=th_at c1
     have hlt2:=co_part (l:=lots) (k:=i) (by have:=hlot.len;omega)
     have hwi:=succ_wrap (k:=i) (by have:=P.four;omega)
     obtain ⟨inv,il,_,_⟩:=skX_inv (lots:=lots) P.th i hi
     have hdo:=rp_do D (vok A.ex) (P.th i c1) (lots.getD i []) .non (hlot.ok i c1).ln
     obtain ⟨r1,r2⟩:=doR_inv (V:=evX) (th:=ths.getD i []) (reads:=lots.getD i []) (fun k hkk => ⟨_,(P.th i c1).ins k hkk⟩)
     have hl:=(P.th i c1).len
     have hsh:=(hlot.ok i c1).sh
     have hus:=(hlot.ok i c1).us
     have hsx:skX ths lots (i + 1) = layX (skX ths lots i) (doR evX (ths.getD i []) (lots.getD i [])) ((i:Int) + 1):=rfl
     have h4:=P.four
     generalize ths.getD i [] = th at hth hdo r1 r2 hl hsh hus hsx
     generalize lots.getD i [] = lot at hlt2 hdo r1 r2 hsh hus hsx
     generalize doR evX th lot = s at hdo r1 r2 hsh hus hsx
     generalize skX ths lots i = X at inv il S hsx
     rw[hsh] at hdo
     unfold roC at hdo
     rw[hsh] at hdo
     simp only[Bool.false_eq_true,if_false,Bool.not_false] at hdo
     have c3:(((s.used:Nat):Int) != ((lot.length:Nat):Int)) = false:=by rw[hus];simp
     simp (disch:=omega) only[wp,qa,qb,qc,gl,e1,e2,e4,e6,e7,h0,c1',c2',hth,hlt2,hdo,s7,c3,l5,List.getElem?_cons_zero,List.getElem?_cons_succ,i7_0,hwi]
     have hBn:=S.tk.lt
     have hsq1:X.evs.length * X.evs.length≤98 * 98:=Nat.mul_le_mul (by omega) (by omega)
     have hsq2:s.evs.length * s.evs.length≤24 * 24:=Nat.mul_le_mul (by omega) (by omega)
     have hd1:=inv.dl
     have hd2:=inv.cl
     have hd3:=inv.rmw.len
     have hs1:=r1.b.dl
     have hs2:=r1.b.cl
     have hs3:=r1.rmw.len
     have hlay:∀ g1:G,SkAt X 9 ts g1→∃ v g',callS F 105 [.mp 9 0,.agg (rnC s),.i .i64 ((i + 1:Nat):Int)] g1 = some (v,g')∧(∃ ts',SkAt (skX ths lots (i + 1)) 9 ts' g')∧Frm1 9 g1 g':=fun g1 S1 => by
      rw[hsx,show ((i + 1:Nat):Int) = (i:Int) + 1 by omega]
      exact rp_lay h105 h121 S1 (by omega) (by omega) (by omega) (by omega) (by omega) (by omega) (by omega) (by omega) (r1.rmw.sm (by omega)) (r1.b.data.sm (by omega)) (r1.b.ctrl.sm (by omega))
     rw[rnC] at hlay
     refine bindO_call _ (hlay _ (S.mono ?_ ?_)) ?_
     ·intro i hi
      simp (disch:=omega) only[upd_ne]
     ·first | omega | (dsimp only;omega)
     rintro v g3 ⟨⟨ts3,S3⟩,fr⟩
     have h03:=fr.cells (i:=0) (by first | omega | (dsimp only;omega)) (by omega) (by simp (disch:=omega) only[upd_ne];exact h0)
     have h13:=fr.cells (i:=1) (by first | omega | (dsimp only;omega)) (by omega) (by simp (disch:=omega) only[upd_ne];exact h1)
     simp (disch:=omega) only[wp,qa,qb,qc,gl,e7,hwi]
     exact ⟨ths.length - (i + 1),by omega,i + 1,rfl,by omega,e1,e2,e4,e6,rfl,h03,h13,⟨ts3,S3.mono (fun i hi => rfl) (by first | omega | (dsimp only;omega))⟩,hB⟩
    ·have c1':¬ ((i:Nat):Int) < ((ths.length:Nat):Int):=by omega
     obtain rfl:i = ths.length:=by omega
     simp (disch:=omega) only[wp,qa,qb,qc,gl,e2,e4,e6,e7,h0,c1']
     exact ⟨Nat.le_refl _,e1,e2,e4,e6,e7,h0,h1,⟨ts,⟨fun j => (S.tk.ok j).mono (fun i hi => rfl) (by first | omega | (dsimp only;omega)),S.tk.ne,S.tk.bc,by have:=S.tk.lt;first | omega | (dsimp only;omega)⟩,S.cells⟩,hB⟩
  ·rintro e g ⟨_,e1,e2,e4,e6,e7,h0,h1,⟨ts,S⟩,hB⟩
   have hc:=S.cells
   have hlt:=S.tk.lt
   obtain ⟨inv,il,hrf,hco⟩:=skX_inv (lots:=lots) P.th ths.length (Nat.le_refl _)
   have hz:=frz_sk (fun x => none) ts hrf hco inv.ctrli 0
   rw[skC] at hc hz
   simp (disch:=omega) only[wp,qa,qb,qc,gl,e2,e4,e6,hc,h1,p8,s8]
   refine retC7 (b:=1) (ro:=false) (w:=.i .i64 0) e4 rfl (p8 ..) rfl ?_
   exact frz_sk _ ts hrf hco inv.ctrli 0
end Go.Ab
end
section
set_option linter.unusedVariables false
set_option linter.unusedSimpArgs false
namespace Go.Ab
variable {F:Funs}
theorem coC_app (l m:List (List Int)):coC (l ++ m) = coC l ++ coC m:=by simp[coC]
structure VlOk (th:List Ins) (dom:List Int) (l:List Int):Prop where
 ok:HdOk th l
 dom:∀ x∈l,x∈dom
def VsP (th:List Ins) (dom:List Int) (g:G) (v:AV) (g':G):Prop:=∃ L t,v = .sl (coC L) L.length t∧TkOk 1 g' t∧(∀ h∈L,VlOk th dom h)∧L.length≤20001∧g.nx≤g'.nx
structure VsI (th:List Ins) (dom head:List Int) (g0:G) (i:Nat) (out:List (List Int)) (t:Tok) (e:Env) (g:G):Prop where
 hi:i≤dom.length
 e0:e 0 = .sl (insLC th) th.length .non
 e1:e 1 = .sl (intsC dom) dom.length .non
 e2:∃ w,e 2 = .sl (intsC head) head.length w
 e3:e 3 = .sl (coC out) out.length t
 e11:e 11 = .i .i64 ((i:Nat):Int)
 tk:TkOk 1 g t
 ok:∀ h∈out,VlOk th dom h
 ol:out.length≤20001
 nx:g0.nx≤g.nx
theorem rp_valuesF (A:ChF F) (D:RunF F) (h101:F 101 = some A_xref13_values) {th:List Ins} (hth:ThK th) {dom:List Int} (head:List Int) (w:Tok) (out:List (List Int)) (t:Tok) (g:G)
  (hh:head.length≤100) (hu:(doR evX th head).used = head.length) (hdm:∀ x∈head,x∈dom) (tk:TkOk 1 g t) (hok:∀ h∈out,VlOk th dom h) (hol:out.length≤20000) (hsh:(doR evX th head).short = false):
  ∃ v g',callS F 101 [.sl (insLC th) th.length .non,.sl (intsC dom) dom.length .non,.sl (intsC head) head.length w,.sl (coC out) out.length t] g = some (v,g')∧VsP th dom g v g':=by
 refine raw_of h101 ?_
 have hdo:=rp_do D (vok A.ex) hth head .non (by omega)
 have hl:=hth.len
 have l5:∀ x:AV,List.replicate 5 x = [x,x,x,x,x]:=fun _ => rfl
 have s7:∀ b1 b2 b3 b4 b5 b6 b7 c1 c2 c3 c4 c5 c6 c7:AV,splice [b1,b2,b3,b4,b5,b6,b7] 0 [c1,c2,c3,c4,c5,c6,c7] = [c1,c2,c3,c4,c5,c6,c7]:=fun _ _ _ _ _ _ _ _ _ _ _ _ _ _ => rfl
 have hhd:VlOk th dom head:=⟨⟨hsh,hu,by omega⟩,hdm⟩
 have hil:(intsC head).length = head.length * 1:=by rw[intsC_len,Nat.mul_one]
 have hcl:(coC out).length = out.length * 1:=by rw[coC_len,Nat.mul_one]
 generalize doR evX th head = s at hdo hu hsh
 unfold roC at hdo
 rw[hsh] at hdo
 simp only[Bool.false_eq_true,if_false,Bool.not_false] at hdo
 have c3:(((s.used:Nat):Int) == ((head.length:Nat):Int)) = true:=by rw[hu];simp
 simp (disch:=omega) only[A_xref13_values,wp,qa,qb,qc,gl,hdo,s7,l5,c3,List.getElem?_cons_zero,List.getElem?_cons_succ]
 refine bindO_app (.inl rfl) (fun i h => by cases h) ⟨by omega,by omega,rfl,hil⟩ ?_
 intro t1 hp1 ar1
 simp (disch:=omega) only[wp,qa,qb,qc,gl]
 refine bindO_app1 (esz:=1) (tk.mono (fun i hi => ?_) (by first | omega | (dsimp only;omega))) (fun i hi => allow_no _ _ _) ⟨by omega,by omega,hcl,rfl⟩ ?_
 ·rcases tk with h | ⟨i',h,h1,h2⟩
  ·rw[h] at hi;cases hi
  ·rw[h] at hi;cases hi
   rw[ar1.keep i (by omega) (fun e h => by cases h)]
   simp (disch:=omega) only[upd_ne]
 ·intro t2 hp2 ar2 hpos
  simp (disch:=omega) only[wp,qa,qb,qc,gl]
  refine ⟨_,rfl,out ++ [head],t2,?_,ar2.ok (by first | omega | (dsimp only;omega)),fun h hm => ?_,by simp;omega,by first | omega | (dsimp only;omega)⟩
  ·show AV.sl _ _ _ = _
   rw[coC_app,List.length_append];rfl
  ·rcases List.mem_append.1 hm with hm | hm
   ·exact hok h hm
   ·obtain rfl:h = head:=by simpa using hm
    exact hhd
theorem rp_values (A:ChF F) (D:RunF F) (h101:F 101 = some A_xref13_values) {th:List Ins} (hth:ThK th) {dom:List Int} (hd:dom.length≤1000):∀ (n:Nat) (head:List Int) (w:Tok) (out:List (List Int)) (t:Tok) (g:G),
  th.length≤head.length + n→head.length≤20→(doR evX th head).used = head.length→(∀ x∈head,x∈dom)→TkOk 1 g t→(∀ h∈out,VlOk th dom h)→out.length≤20000 →
  ∃ v g',callS F 101 [.sl (insLC th) th.length .non,.sl (intsC dom) dom.length .non,.sl (intsC head) head.length w,.sl (coC out) out.length t] g = some (v,g')∧VsP th dom g v g':=by
 intro n
 induction n with
 | zero =>
   intro head w out t g hn hh hu hdm tk hok hol
   refine rp_valuesF A D h101 hth head w out t g (by omega) hu hdm tk hok hol ?_
   cases hsh:(doR evX th head).short with
   | false => rfl
   | true => have:=doR_far hsh;omega
 | succ n ih =>
   intro head w out t g hn hh hu hdm tk hok hol
   cases hsh:(doR evX th head).short with
   | false => exact rp_valuesF A D h101 hth head w out t g (by omega) hu hdm tk hok hol hsh
   | true =>
   refine raw_of h101 ?_
   have hdo:=rp_do D (vok A.ex) hth head .non (by omega)
   have hl:=hth.len
   have hfar:=doR_far hsh
   have hmore:=fun x => doR_more (V:=evX) (th:=th) (h:=head) (x:=x) hsh
   have l5:∀ x:AV,List.replicate 5 x = [x,x,x,x,x]:=fun _ => rfl
   have s7:∀ b1 b2 b3 b4 b5 b6 b7 c1 c2 c3 c4 c5 c6 c7:AV,splice [b1,b2,b3,b4,b5,b6,b7] 0 [c1,c2,c3,c4,c5,c6,c7] = [c1,c2,c3,c4,c5,c6,c7]:=fun _ _ _ _ _ _ _ _ _ _ _ _ _ _ => rfl
   have hil:(intsC head).length = head.length * 1:=by rw[intsC_len,Nat.mul_one]
   generalize doR evX th head = s at hdo hu hsh
   unfold roC at hdo
   rw[hsh] at hdo
   simp only[if_true,Bool.not_true] at hdo
   simp (disch:=omega) only[A_xref13_values,wp,qa,qb,qc,gl,hdo,s7,l5,List.getElem?_cons_zero,List.getElem?_cons_succ]
   refine blk_cut (fun e g' => ∃ i out' t',VsI th dom head g i out' t' e g') ?_ ?_
   ·refine W_loop (fun q e g' => ∃ (i:Nat) (out':List (List Int)) (t':Tok),q = dom.length - i∧VsI th dom head g i out' t' e g') dom.length ?_ ?_
    ·refine ⟨0,out,t,rfl,Nat.zero_le _,rfl,rfl,⟨w,rfl⟩,rfl,rfl,tk.mono (fun i hi => ?_) (by first | omega | (dsimp only;omega)),hok,by omega,by first | omega | (dsimp only;omega)⟩
     rcases tk with h | ⟨i',h,h1,h2⟩
     ·rw[h] at hi;cases hi
     ·rw[h] at hi;cases hi
      simp (disch:=omega) only[upd_ne]
    ·rintro q e g1 ⟨i,out1,t1,rfl,hi,e0,e1,⟨w1,e2⟩,e3,e11,tk1,hok1,hol1,hx1⟩
     by_cases c1:i < dom.length
     ·have c1':((i:Nat):Int) < ((dom.length:Nat):Int):=by omega
      by_cases c2:out1.length≤20000
      ·have c2':((out1.length:Nat):Int)≤20000:=by omega
       have hip:=ints_part c1
       have hw:=succ_wrap (k:=i) (by omega)
       have hxm:dom.getD i 0∈dom:=getD_mem c1
       generalize dom.getD i 0 = x at hip hxm
       simp (disch:=omega) only[wp,qa,qb,qc,gl,e0,e1,e2,e3,e11,c1',c2',hip]
       refine bindO_app (.inl rfl) (fun i h => by cases h) ⟨by omega,by omega,rfl,hil⟩ ?_
       intro t2 hp2 ar2
       simp (disch:=omega) only[wp,qa,qb,qc,gl,e0,e1,e2,e3,e11,hip]
       refine bindO_app (esz:=1) (ar2.ok (by first | omega | (dsimp only;omega))) ?_ ⟨by omega,by omega,hil,rfl⟩ ?_
       ·intro i2 h2
        rcases ar2.tok with h | ⟨h,_⟩
        ·rw[h] at h2;cases h2
        ·rw[h] at h2;cases h2
         exact allow_hd _ rfl
       intro t3 hp3 ar3
       simp (disch:=omega) only[wp,qa,qb,qc,gl,e0,e1,e2,e3,e11,hip]
       have ha:intsC (head ++ [x]) = intsC head ++ [.i .i64 x]:=by simp[intsC]
       have hla:(head ++ [x]).length = head.length + 1:=by simp
       have hrec:=fun g2 (tk2:TkOk 1 g2 t1) => ih (head ++ [x]) t3 out1 t1 g2 (by omega) (by omega) (by rw[hmore x,hla]) (fun y hy => by
        rcases List.mem_append.1 hy with hy | hy
        ·exact hdm y hy
        ·obtain rfl:y = x:=by simpa using hy
         exact hxm) tk2 hok1 c2
       rw[ha,hla] at hrec
       refine bindO_call _ (hrec _ (tk1.mono (fun i2 h2 => ?_) ?_)) ?_
       ·rcases tk1 with h | ⟨i',h,h1,h3⟩
        ·rw[h] at h2;cases h2
        ·rw[h] at h2;cases h2
         rw[ar3.keep i2 (by omega) (fun e h => by
          rcases ar2.tok with h4 | ⟨h4,_⟩
          ·rw[h4] at h;cases h
          ·rw[h4] at h;cases h;omega)]
         dsimp only
         rw[ar2.keep i2 (by omega) (fun e h => by cases h)]
       ·first | omega | (dsimp only;omega)
       rintro v g4 ⟨L,t4,rfl,tk4,ok4,l4,nx4⟩
       dsimp only at nx4
       simp (disch:=omega) only[wp,qa,qb,qc,gl,e11,hw]
       exact ⟨dom.length - (i + 1),by omega,i + 1,L,t4,rfl,by omega,e0,e1,⟨w1,e2⟩,rfl,rfl,tk4.mono (fun i hi => rfl) (by first | omega | (dsimp only;omega)),ok4,l4,by first | omega | (dsimp only;omega)⟩
      ·have c2':¬ ((out1.length:Nat):Int)≤20000:=by omega
       simp (disch:=omega) only[wp,qa,qb,qc,gl,e0,e1,e2,e3,e11,c1',c2']
       exact ⟨i,out1,t1,hi,e0,e1,⟨w1,e2⟩,e3,e11,tk1.mono (fun i hi => rfl) (by first | omega | (dsimp only;omega)),hok1,hol1,by first | omega | (dsimp only;omega)⟩
     ·have c1':¬ ((i:Nat):Int) < ((dom.length:Nat):Int):=by omega
      simp (disch:=omega) only[wp,qa,qb,qc,gl,e0,e1,e2,e3,e11,c1']
      exact ⟨i,out1,t1,hi,e0,e1,⟨w1,e2⟩,e3,e11,tk1.mono (fun i hi => rfl) (by first | omega | (dsimp only;omega)),hok1,hol1,by first | omega | (dsimp only;omega)⟩
   ·rintro e g1 ⟨i,out1,t1,hi,e0,e1,⟨w1,e2⟩,e3,e11,tk1,hok1,hol1,hx1⟩
    simp (disch:=omega) only[wp,qa,qb,qc,gl,e3]
    exact ⟨_,rfl,out1,t1,rfl,tk1.mono (fun i hi => rfl) (by first | omega | (dsimp only;omega)),hok1,hol1,by first | omega | (dsimp only;omega)⟩
end Go.Ab
end
section
set_option linter.unusedVariables false
set_option linter.unusedSimpArgs false
namespace Go.Ab
variable {F:Funs}
def dmS (m:List Int) (v:Int):List Int:=if v∈m then m else m ++ [v]
def domF (l:List Int):List Int:=(l.take 8).foldl dmS []
structure DmI (l:List Int) (i:Nat) (t:Tok) (e:Env) (g:G):Prop where
 hi:i≤l.length∧i≤8
 e0:e 0 = .sl (intsC l) l.length .non
 e3:e 3 = .sl (intsC ((l.take i).foldl dmS [])) ((l.take i).foldl dmS []).length t
 e4:e 4 = .i .i64 ((i:Nat):Int)
 tk:TkOk 1 g t
 hl:((l.take i).foldl dmS []).length≤i
structure DmJ (l m:List Int) (v:Int) (i k:Nat) (t:Tok) (e:Env) (g:G):Prop where
 hk:k≤m.length
 e0:e 0 = .sl (intsC l) l.length .non
 e3:e 3 = .sl (intsC m) m.length t
 e4:e 4 = .i .i64 ((i:Nat):Int)
 e5:e 5 = .b (decide (v∈m.take k))
 e6:e 6 = .i .i64 ((k:Nat):Int)
 tk:TkOk 1 g t
theorem domF_end {l:List Int} {i:Nat} (h:i≤l.length∧i≤8) (he:i = l.length∨i = 8):(l.take i).foldl dmS [] = domF l:=by
 unfold domF
 congr 1
 rcases he with rfl | rfl
 ·rw[List.take_length,List.take_of_length_le h.2]
 ·rfl
theorem sp13_domain (h102:F 102 = some A_xref13_Domain) (l:List Int) (hl:l.length≤1000000):pureS F 102 [.sl (intsC l) l.length .non] = some (.sl (intsC (domF l)) (domF l).length .non):=by
 refine pure_of h102 ?_
 simp (disch:=omega) only[A_xref13_Domain,wp,qa,qb,qc]
 refine blk_cut (fun e g => ∃ t,e 3 = .sl (intsC (domF l)) (domF l).length t) ?_ ?_
 ·refine W_loop (fun q e g => ∃ (i:Nat) (t:Tok),q = l.length - i∧DmI l i t e g) l.length ?_ ?_
  ·exact ⟨0,.rig,rfl,⟨Nat.zero_le _,by omega⟩,rfl,rfl,rfl,.inl rfl,Nat.le_refl _⟩
  ·rintro q e g ⟨i,t,rfl,hi,e0,e3,e4,tk,hml⟩
   by_cases c1:i < l.length
   ·have c1':((i:Nat):Int) < ((l.length:Nat):Int):=by omega
    by_cases c8:i < 8
    ·have c8':((i:Nat):Int) < 8:=by omega
     have hip:=ints_part c1
     have hwi:=succ_wrap (k:=i) (by omega)
     have hnx:=foldl_take (f:=dmS) (b:=[]) (d:=(0:Int)) c1
     generalize l.getD i 0 = v at hip hnx
     generalize (l.take i).foldl dmS [] = m at e3 hml hnx
     simp (disch:=omega) only[wp,qa,qb,qc,e0,e3,e4,c1',c8']
     refine blk_cut (fun e g => DmJ l m v i m.length t e g) ?_ ?_
     ·refine W_loop (fun q e g => ∃ k:Nat,q = m.length - k∧DmJ l m v i k t e g) m.length ?_ ?_
      ·exact ⟨0,rfl,Nat.zero_le _,e0,e3,e4,by simp;rfl,rfl,tk.mono (fun i hi => rfl) (by first | omega | (dsimp only;omega))⟩
      ·rintro q e g ⟨k,rfl,hk,e0,e3,e4,e5,e6,tk⟩
       by_cases c2:k < m.length
       ·have c2':((k:Nat):Int) < ((m.length:Nat):Int):=by omega
        have hkp:=ints_part c2
        have hwk:=succ_wrap (k:=k) (by omega)
        have hmem:decide (v∈m.take (k + 1)) = (decide (v∈m.take k) || (m.getD k 0 == v)):=by
         rw[take_getD c2]
         generalize m.getD k 0 = y
         by_cases h1:v∈m.take k
         ·rw[decide_eq_true h1,decide_eq_true (List.mem_append_left _ h1)];rfl
         ·by_cases h2:y = v
          ·subst h2
           rw[decide_eq_true (List.mem_append_right _ (List.mem_singleton.2 rfl))];simp
          ·rw[decide_eq_false h1,decide_eq_false (fun h => by
            rcases List.mem_append.1 h with h | h
            ·exact h1 h
            ·exact h2 (List.mem_singleton.1 h).symm)]
           simp[h2]
        generalize m.getD k 0 = y at hkp hmem
        cases hb:decide (v∈m.take k) with
        | true =>
          rw[hb] at e5 hmem
          simp (disch:=omega) only[wp,qa,qb,qc,e0,e3,e4,e5,e6,c2',hwk]
          exact ⟨m.length - (k + 1),by omega,k + 1,rfl,by omega,e0,e3,e4,by rw[hmem];rfl,rfl,tk.mono (fun i hi => rfl) (by first | omega | (dsimp only;omega))⟩
        | false =>
          rw[hb] at e5 hmem
          simp (disch:=omega) only[wp,qa,qb,qc,e0,e3,e4,e5,e6,c2',hwk,hkp,hip,allow_lt]
          exact ⟨m.length - (k + 1),by omega,k + 1,rfl,by omega,e0,e3,e4,by rw[hmem];rfl,rfl,tk.mono (fun i hi => rfl) (by first | omega | (dsimp only;omega))⟩
       ·have c2':¬ ((k:Nat):Int) < ((m.length:Nat):Int):=by omega
        obtain rfl:k = m.length:=by omega
        simp (disch:=omega) only[wp,qa,qb,qc,e0,e3,e4,e5,e6,c2']
        exact ⟨Nat.le_refl _,e0,e3,e4,e5,e6,tk.mono (fun i hi => rfl) (by first | omega | (dsimp only;omega))⟩
     ·rintro e g ⟨hk,e0,e3,e4,e5,e6,tk⟩
      rw[List.take_length] at e5
      by_cases c3:v∈m
      ·have hd:dmS m v = m:=if_pos c3
       rw[hd] at hnx
       simp only[c3,decide_true] at e5
       simp (disch:=omega) only[wp,qa,qb,qc,e0,e3,e4,e5,hwi]
       exact ⟨l.length - (i + 1),by omega,i + 1,t,rfl,⟨by omega,by omega⟩,e0,by rw[hnx];exact e3,rfl,tk.mono (fun i hi => rfl) (by first | omega | (dsimp only;omega)),by rw[hnx];omega⟩
      ·have hd:dmS m v = m ++ [v]:=if_neg c3
       rw[hd] at hnx
       simp only[c3,decide_false] at e5
       have hil:(intsC m).length = m.length * 1:=by rw[intsC_len,Nat.mul_one]
       simp (disch:=omega) only[wp,qa,qb,qc,e0,e3,e4,e5,hip]
       refine bindO_app (esz:=1) (tk.mono (fun i hi => rfl) (by first | omega | (dsimp only;omega))) (fun i hi => allow_no _ _ _) ⟨by omega,by omega,hil,rfl⟩ ?_
       intro t2 hp2 ar2
       simp (disch:=omega) only[wp,qa,qb,qc,e4,hwi]
       refine ⟨l.length - (i + 1),by omega,i + 1,t2,rfl,⟨by omega,by omega⟩,e0,?_,rfl,ar2.ok (by first | omega | (dsimp only;omega)),by rw[hnx];simp;omega⟩
       rw[hnx,List.length_append]
       show AV.sl _ _ _ = _
       simp[intsC]
    ·have c8':¬ ((i:Nat):Int) < 8:=by omega
     have hd:=domF_end hi (.inr (by omega))
     rw[hd] at e3
     simp (disch:=omega) only[wp,qa,qb,qc,e0,e3,e4,c1',c8']
     exact ⟨t,rfl⟩
   ·have c1':¬ ((i:Nat):Int) < ((l.length:Nat):Int):=by omega
    have hd:=domF_end hi (.inl (by omega))
    rw[hd] at e3
    simp (disch:=omega) only[wp,qa,qb,qc,e0,e3,e4,c1']
    exact ⟨t,rfl⟩
 ·rintro e g ⟨t,e3⟩
  simp (disch:=omega) only[wp,qa,qb,qc,e3]
theorem dmS_len (m:List Int) (v:Int):(dmS m v).length≤m.length + 1:=by
 unfold dmS;split<;>simp
theorem domF_len (l:List Int):(domF l).length≤8:=by
 unfold domF
 have key:∀ (l m:List Int),(l.foldl dmS m).length≤m.length + l.length:=by
  intro l
  induction l with
  | nil => intro m;exact Nat.le_refl _
  | cons v l ih =>
    intro m
    have:=ih (dmS m v)
    have:=dmS_len m v
    simp only[List.foldl_cons,List.length_cons]
    omega
 have:=key (l.take 8) []
 rw[List.length_take,List.length_nil] at this
 omega
theorem sp13_values (A:ChF F) (D:RunF F) (h88:F 88 = some A_xref13_Values) (h101:F 101 = some A_xref13_values) (h102:F 102 = some A_xref13_Domain) {th:List Ins} (hth:ThK th) (dom:List Int) (hd:dom.length≤1000000):
  ∃ L:List (List Int),pureS F 88 [.sl (insLC th) th.length .non,.sl (intsC dom) dom.length .non] = some (.sl (coC L) L.length .non)∧(∀ h∈L,VlOk th (domF dom) h)∧L.length≤20001:=by
 have key:∃ v,pureS F 88 [.sl (insLC th) th.length .non,.sl (intsC dom) dom.length .non] = some v∧∃ L:List (List Int),v = .sl (coC L) L.length .non∧(∀ h∈L,VlOk th (domF dom) h)∧L.length≤20001:=by
  refine pureV_of h88 ?_
  have hdm:=sp13_domain h102 dom hd
  have hdl:=domF_len dom
  have hlen:=hth.len
  have hval:=rp_values A D h101 hth (dom:=domF dom) (by omega) th.length [] .rig [] .rig
  simp (disch:=omega) only[A_xref13_Values,wp,qa,qb,qc,gl,hdm]
  refine bindO_call _ (hval _ (by simp) (by simp) ?_ (fun x hx => absurd hx (List.not_mem_nil)) (.inl rfl) (fun x hx => absurd hx (List.not_mem_nil)) (by simp)) ?_
  ·have:=(runR_used evX [] th th.length 0 rs0).2.2 (Nat.le_refl 0)
   show (runR evX [] th th.length 0 rs0).used = 0
   simpa using this
  ·rintro v g' ⟨L,t,rfl,tk,ok,hL,nx⟩
   simp (disch:=omega) only[wp,qa,qb,qc,gl]
   refine ⟨_,?_,L,rfl,ok,hL⟩
   simp (disch:=omega) only[wp,qa,qb,qc]
 obtain ⟨v,h1,L,rfl,h2,h3⟩:=key
 exact ⟨L,h1,h2,h3⟩
end Go.Ab
end
section
set_option linter.unusedVariables false
set_option linter.unusedSimpArgs false
namespace Go.Ab
variable {F:Funs}
def ccC (l:List (List (List Int))):List AV:=l.map fun c => .sl (coC c) c.length .non
theorem ccC_len (l:List (List (List Int))):(ccC l).length = l.length:=by simp[ccC]
theorem ccC_app (l m:List (List (List Int))):ccC (l ++ m) = ccC l ++ ccC m:=by simp[ccC]
theorem cc_part {l:List (List (List Int))} {k:Nat} (h:k < l.length):part ((ccC l).drop (k * 1)) 0 none = some (.sl (coC (l.getD k [])) (l.getD k []).length .non):=by
 simp only[part,Nat.mul_one,ccC]
 rw[List.getElem?_drop,Nat.add_zero,List.getElem?_map,List.getD_eq_getElem?_getD,List.getElem?_eq_getElem h]
 rfl
structure LtOk (all:List (List (List Int))) (i:Nat) (lot:List (List Int)):Prop where
 len:lot.length = i
 mem:∀ j,j < i→lot.getD j []∈all.getD j []
theorem LtOk.snoc {all:List (List (List Int))} {i:Nat} {lot:List (List Int)} {h:List Int} (k:LtOk all i lot) (hm:h∈all.getD i []):LtOk all (i + 1) (lot ++ [h]):=by
 refine ⟨by simp[k.len],fun j hj => ?_⟩
 by_cases hji:j = i
 ·subst hji
  have hl:=k.len
  have:(lot ++ [h]).getD j [] = h:=by rw[List.getD_eq_getElem?_getD,List.getElem?_append_right (by omega),hl,Nat.sub_self];rfl
  rw[this];exact hm
 ·have hl:=k.len
  have:(lot ++ [h]).getD j [] = lot.getD j []:=by rw[List.getD_eq_getElem?_getD,List.getElem?_append_left (by omega),←List.getD_eq_getElem?_getD]
  rw[this];exact k.mem j (by omega)
structure LoI (all:List (List (List Int))) (i:Nat) (ls:List (List (List Int))) (e:Env) (g:G):Prop where
 hi:i≤all.length
 e0:e 0 = .sl (ccC all) all.length .non
 e3:∃ w,e 3 = .sl (ccC ls) ls.length w
 e4:e 4 = .i .i64 ((i:Nat):Int)
 ok:∀ lot∈ls,LtOk all i lot
 ll:ls.length≤200001
structure LoM (all ls m:List (List (List Int))) (i:Nat) (t:Tok) (e:Env) (g:G):Prop where
 e0:e 0 = .sl (ccC all) all.length .non
 e3:∃ w,e 3 = .sl (ccC ls) ls.length w
 e4:e 4 = .i .i64 ((i:Nat):Int)
 e5:e 5 = .sl (ccC m) m.length t
 tk:TkOk 1 g t
 ok:∀ lot∈m,LtOk all (i + 1) lot
 ml:m.length≤200001
theorem LoM.mv {all ls m:List (List (List Int))} {i:Nat} {t:Tok} {e e':Env} {g:G} {n:Nat} (h:LoM all ls m i t e g) (h0:e' 0 = e 0) (h3:e' 3 = e 3) (h4:e' 4 = e 4) (h5:e' 5 = e 5) (hn:g.nx≤n):LoM all ls m i t e' ⟨g.hp,n⟩:=
 ⟨h0.trans h.e0,by rw[h3];exact h.e3,h4.trans h.e4,h5.trans h.e5,h.tk.mono (fun i hi => rfl) hn,h.ok,h.ml⟩
theorem sp13_lots (h89:F 89 = some A_xref13_Lots) (all:List (List (List Int))) (hall:all.length≤1000) (hL:∀ L∈all,L.length≤1000000):
  ∃ ls:List (List (List Int)),pureS F 89 [.sl (ccC all) all.length .non] = some (.sl (ccC ls) ls.length .non)∧(∀ lot∈ls,LtOk all all.length lot)∧ls.length≤200001:=by
 have key:∃ v,pureS F 89 [.sl (ccC all) all.length .non] = some v∧∃ ls:List (List (List Int)),v = .sl (ccC ls) ls.length .non∧(∀ lot∈ls,LtOk all all.length lot)∧ls.length≤200001:=by
  refine pureV_of h89 ?_
  simp (disch:=omega) only[A_xref13_Lots,wp,qa,qb,qc,gl]
  refine blk_cut (fun e g => ∃ ls,LoI all all.length ls e g) ?_ ?_
  ·refine W_loop (fun q e g => ∃ (i:Nat) (ls:List (List (List Int))),q = all.length - i∧LoI all i ls e g) all.length ?_ ?_
   ·exact ⟨0,[[]],rfl,Nat.zero_le _,rfl,⟨_,rfl⟩,rfl,fun lot hl => by
     obtain rfl:lot = []:=by simpa using hl
     exact ⟨rfl,fun j hj => absurd hj (Nat.not_lt_zero j)⟩,by simp⟩
   ·rintro q e g ⟨i,ls,rfl,hi,e0,⟨w,e3⟩,e4,ok,ll⟩
    by_cases c1:i < all.length
    ·have c1':((i:Nat):Int) < ((all.length:Nat):Int):=by omega
     have hwi:=succ_wrap (k:=i) (by omega)
     have hai:=cc_part c1
     have hLi:(all.getD i []).length≤1000000:=hL _ (getD_mem c1)
     simp (disch:=omega) only[wp,qa,qb,qc,e0,e3,e4,c1']
     refine blk_cut (fun e g => ∃ m t,LoM all ls m i t e g) ?_ ?_
     ·refine W_loop (fun q e g => ∃ (k:Nat) (m:List (List (List Int))) (t:Tok),q = ls.length - k∧k≤ls.length∧LoM all ls m i t e g∧e 6 = .i .i64 ((k:Nat):Int)) ls.length ?_ ?_
      ·refine ⟨0,[],.rig,rfl,Nat.zero_le _,⟨e0,⟨w,e3⟩,e4,rfl,.inl rfl,fun x hx => absurd hx (List.not_mem_nil),by simp⟩,rfl⟩
      ·rintro q e g ⟨k,m,t,rfl,hk,I,e6⟩
       have e0:=I.e0
       obtain ⟨w,e3⟩:=I.e3
       have e4:=I.e4
       by_cases c2:k < ls.length
       ·have c2':((k:Nat):Int) < ((ls.length:Nat):Int):=by omega
        have hwk:=succ_wrap (k:=k) (by omega)
        have hlk:=cc_part c2
        have hlot:=ok _ (getD_mem (d:=[]) c2)
        generalize ls.getD k [] = lot at hlk hlot
        have hll:=hlot.len
        have hcl:(coC lot).length = lot.length * 1:=by rw[coC_len,Nat.mul_one]
        simp (disch:=omega) only[wp,qa,qb,qc,e0,e3,e4,e6,c2']
        refine blk_end (fun e g => (∃ m t,LoM all ls m i t e g)∧e 6 = .i .i64 ((k:Nat):Int)) ?_ ?_
        ·refine W_loop (fun q e g => ∃ (j:Nat) (m:List (List (List Int))) (t:Tok),q = (all.getD i []).length - j∧j≤(all.getD i []).length∧LoM all ls m i t e g∧e 6 = .i .i64 ((k:Nat):Int)∧e 7 = .i .i64 ((j:Nat):Int)) (all.getD i []).length ?_ ?_
         ·exact ⟨0,m,t,rfl,Nat.zero_le _,I.mv rfl rfl rfl rfl (by first | omega | (dsimp only;omega)),e6,rfl⟩
         ·rintro q e g ⟨j,m,t,rfl,hj,I,e6,e7⟩
          have e0:=I.e0
          obtain ⟨w,e3⟩:=I.e3
          have e4:=I.e4
          have e5:=I.e5
          have tk:=I.tk
          by_cases c3:j < (all.getD i []).length
          ·have c3':((j:Nat):Int) < (((all.getD i []).length:Nat):Int):=by omega
           by_cases c4:m.length≤200000
           ·have c4':((m.length:Nat):Int)≤200000:=by omega
            have hwj:=succ_wrap (k:=j) (by omega)
            have hjp:=co_part c3
            have hmem:(all.getD i []).getD j []∈all.getD i []:=getD_mem c3
            have hcm:(ccC m).length = m.length * 1:=by rw[ccC_len,Nat.mul_one]
            generalize hA:all.getD i [] = A at hai hjp hmem c3 c3' hj hLi
            generalize A.getD j [] = hd at hjp hmem
            simp (disch:=omega) only[wp,qa,qb,qc,e0,e3,e4,e5,e6,e7,c3',c4',hai,hlk]
            refine bindO_app (.inl rfl) (fun i h => by cases h) ⟨by omega,by omega,rfl,hcl⟩ ?_
            intro t1 hp1 ar1
            simp (disch:=omega) only[wp,qa,qb,qc,e0,e3,e4,e5,e6,e7,hai,hjp]
            refine bindO_app (esz:=1) (ar1.ok (by first | omega | (dsimp only;omega))) ?_ ⟨by omega,by omega,hcl,rfl⟩ ?_
            ·intro i2 h2
             rcases ar1.tok with h | ⟨h,_⟩
             ·rw[h] at h2;cases h2
             ·rw[h] at h2;cases h2
              exact allow_hd _ rfl
            intro t2 hp2 ar2
            simp (disch:=omega) only[wp,qa,qb,qc,e0,e3,e4,e5,e6,e7]
            have live:∀ i2,t = .own i2 1→i2 < g.nx∧hp2 i2 = g.hp i2:=fun i2 h2 => by
             rcases tk with h | ⟨i',h,h1,h3⟩
             ·rw[h] at h2;cases h2
             ·rw[h] at h2;cases h2
              refine ⟨h3,?_⟩
              rw[ar2.keep i2 (by omega) (fun e h => by
               rcases ar1.tok with h4 | ⟨h4,_⟩
               ·rw[h4] at h;cases h
               ·rw[h4] at h;cases h;omega)]
              dsimp only
              rw[ar1.keep i2 (by omega) (fun e h => by cases h)]
            refine bindO_app (esz:=1) (tk.mono (fun i2 h2 => (live i2 h2).2) (by first | omega | (dsimp only;omega))) (fun i2 h2 => allow_lt _ (by have:=(live i2 h2).1;first | omega | (dsimp only;omega))) ⟨by omega,by omega,hcm,rfl⟩ ?_
            intro t3 hp3 ar3
            simp (disch:=omega) only[wp,qa,qb,qc,e6,e7,hwj]
            refine ⟨A.length - (j + 1),by omega,j + 1,m ++ [lot ++ [hd]],t3,rfl,by omega,⟨e0,⟨w,e3⟩,e4,?_,ar3.ok (by first | omega | (dsimp only;omega)),fun x hx => ?_,by simp;omega⟩,rfl⟩
            ·show AV.sl _ _ _ = _
             rw[ccC_app,List.length_append]
             simp[ccC,coC_app,coC]
            ·rcases List.mem_append.1 hx with hx | hx
             ·exact I.ok x hx
             ·obtain rfl:x = lot ++ [hd]:=by simpa using hx
              exact hlot.snoc (by rw[hA];exact hmem)
           ·have c4':¬ ((m.length:Nat):Int)≤200000:=by omega
            simp (disch:=omega) only[wp,qa,qb,qc,e0,e3,e4,e5,e6,e7,c3',c4',hai]
            exact ⟨m,t,I.mv rfl rfl rfl rfl (by first | omega | (dsimp only;omega))⟩
          ·have c3':¬ ((j:Nat):Int) < (((all.getD i []).length:Nat):Int):=by omega
           simp (disch:=omega) only[wp,qa,qb,qc,e0,e3,e4,e5,e6,e7,c3',hai]
           exact ⟨m,t,I.mv rfl rfl rfl rfl (by first | omega | (dsimp only;omega))⟩
        ·rintro e g ⟨⟨m,t,I⟩,e6⟩
         simp (disch:=omega) only[wp,qa,qb,qc,e6,hwk]
         exact ⟨ls.length - (k + 1),by omega,k + 1,m,t,rfl,by omega,I.mv rfl rfl rfl rfl (by first | omega | (dsimp only;omega)),rfl⟩
       ·have c2':¬ ((k:Nat):Int) < ((ls.length:Nat):Int):=by omega
        simp (disch:=omega) only[wp,qa,qb,qc,e0,e3,e4,e6,c2']
        exact ⟨m,t,I.mv rfl rfl rfl rfl (by first | omega | (dsimp only;omega))⟩
     ·rintro e g ⟨m,t,I⟩
      have e4:=I.e4
      have e5:=I.e5
      simp (disch:=omega) only[wp,qa,qb,qc,e4,e5,hwi]
      exact ⟨all.length - (i + 1),by omega,i + 1,m,rfl,by omega,I.e0,⟨t,rfl⟩,rfl,I.ok,I.ml⟩
    ·have c1':¬ ((i:Nat):Int) < ((all.length:Nat):Int):=by omega
     obtain rfl:i = all.length:=by omega
     simp (disch:=omega) only[wp,qa,qb,qc,e0,e3,e4,c1']
     exact ⟨ls,hi,e0,⟨w,e3⟩,e4,ok,ll⟩
  ·rintro e g ⟨ls,hi,e0,⟨w,e3⟩,e4,ok,ll⟩
   simp (disch:=omega) only[wp,qa,qb,qc,e3]
   refine ⟨_,?_,ls,rfl,ok,ll⟩
   simp (disch:=omega) only[wp,qa,qb,qc]
 obtain ⟨v,h1,ls,rfl,h2,h3⟩:=key
 exact ⟨ls,h1,h2,h3⟩
end Go.Ab
end
section
set_option linter.unusedVariables false
set_option linter.unusedSimpArgs false
namespace Go.Ab
variable {F:Funs}
theorem vApp_src {al:Nat→Bool} {id esz bytes b off m:Nat} {x:AV} {g:G} {ds ds':List AV} {ro:Bool} (ha:al b = true) (hb:g.hp b = some (.cells ds ro)) (hf:frzL (fun _ => none) depth ((ds.drop off).take (m * esz)) = some ds'):
  vApp al id esz bytes x (.ms b off m) g = vApp al id esz bytes x (.sl ds' m .non) g:=by
 cases x<;>first | rfl | skip
 unfold vApp vSrc
 simp only[rd_S,ha,selB_true,hb,hf]
def gfC (X:Gr) (R C:Nat):List AV:=[.i .i64 X.locs,.sl (evsC X.evs) X.evs.length .non,.ms R 0 X.evs.length,.ms C 0 2,.sl (pairsC X.rmw) X.rmw.length .non,.sl (pairsC X.data) X.data.length .non,.sl (pairsC X.ctrl) X.ctrl.length .non,.sl (pairsC X.ctrli) X.ctrli.length .non]
def putX (X:Gr) (rf:List Int) (co:List (List Int)):Gr:={ X with rf:=rf,co:=co }
def gcC (X:Gr) (rf:List Int) (co:List (List Int)) (t1 t2:Tok):List AV:=[.i .i64 X.locs,.sl (evsC X.evs) X.evs.length .non,.sl (intsC rf) rf.length t1,.sl (coC co) co.length t2,.sl (pairsC X.rmw) X.rmw.length .non,.sl (pairsC X.data) X.data.length .non,.sl (pairsC X.ctrl) X.ctrl.length .non,.sl (pairsC X.ctrli) X.ctrli.length .non]
theorem frzL_ints' (hp:Nat→Option Blk) (l:List Int):frzL hp depth (intsC l) = some (intsC l):=frzL_ints hp 8 l
structure CpI (X:Gr) (rf:List Int) (cs:List (List Int)) (R C B1 B2 B3:Nat) (g0:G) (i:Nat) (t1 t:Tok) (e:Env) (g:G):Prop where
 hi:i≤2
 e1:e 1 = .mp B1 0
 e2:e 2 = .mp B2 0
 e3:e 3 = .mp B3 0
 e4:e 4 = .i .i64 ((i:Nat):Int)
 h1:g.hp B1 = some (.cells (gfC X R C) false)
 h2:g.hp B2 = some (.cells [.i .i64 0,.sl [] 0 .rig,.sl [] 0 .rig,.sl [] 0 .rig,.sl [] 0 .rig,.sl [] 0 .rig,.sl [] 0 .rig,.sl [] 0 .rig] false)
 h3:g.hp B3 = some (.cells (gcC X rf (cs.take i) t1 t) false)
 tk:TkOk 1 g t
 told:∀ j,t = .own j 1→g0.nx≤j
 bs:g0.nx≤B1∧g0.nx≤B2∧g0.nx≤B3∧B1 < g.nx∧B2 < g.nx∧B3 < g.nx∧B1≠B3∧B2≠B3
 nx:g0.nx≤g.nx
 st:∀ j,j < g0.nx→g.hp j = g0.hp j
 fresh:∀ j,g.nx≤j→g.hp j = none
theorem rp_copied (h131:F 131 = some A_xref13_copied) {X:Gr} {rf c0 c1:List Int} {R C:Nat} {t0 t1:Tok} {g:G} (hr:g.hp R = some (.cells (intsC rf) false)) (hc:g.hp C = some (.cells [.sl (intsC c0) c0.length t0,.sl (intsC c1) c1.length t1] false))
  (hrl:rf.length = X.evs.length) (hR:R < g.nx) (hC:C < g.nx) (hn:X.evs.length≤1000) (hc0:c0.length≤1000) (hc1:c1.length≤1000) (hfr:∀ i,g.nx≤i→g.hp i = none):
  ∃ v g',callS F 131 [.agg (gfC X R C)] g = some (v,g')∧(∃ t1 t2,v = .agg (gcC X rf [c0,c1] t1 t2))∧g.nx≤g'.nx∧(∀ i,i < g.nx→g'.hp i = g.hp i)∧∀ i,g'.nx≤i→g'.hp i = none:=by
 refine raw_of (P:=fun v g' => (∃ t1 t2,v = .agg (gcC X rf [c0,c1] t1 t2))∧g.nx≤g'.nx∧(∀ i,i < g.nx→g'.hp i = g.hp i)∧∀ i,g'.nx≤i→g'.hp i = none) h131 ?_
 have l7:∀ x:AV,List.replicate 7 x = [x,x,x,x,x,x,x]:=fun _ => rfl
 have s8:∀ b1 b2 b3 b4 b5 b6 b7 b8 c1 c2 c3 c4 c5 c6 c7 c8:AV,splice [b1,b2,b3,b4,b5,b6,b7,b8] 0 [c1,c2,c3,c4,c5,c6,c7,c8] = [c1,c2,c3,c4,c5,c6,c7,c8]:=fun _ _ _ _ _ _ _ _ _ _ _ _ _ _ _ _ => rfl
 have p8:∀ c1 c2 c3 c4 c5 c6 c7 c8:AV,part [c1,c2,c3,c4,c5,c6,c7,c8] 0 (some 8) = some (.agg [c1,c2,c3,c4,c5,c6,c7,c8]):=fun _ _ _ _ _ _ _ _ => rfl
 rw[gfC]
 simp (disch:=omega) only[A_xref13_copied,wp,qa,qb,qc,gl,l7,s8,p8]
 rw[vApp_src (ds:=intsC rf) (ds':=intsC rf) (ro:=false) (allow_no _ _ _) (by simp (disch:=omega) only[upd_ne];exact hr) (by rw[List.drop_zero,intsC_all hrl];exact frzL_ints' _ _)]
 refine bindO_app (.inl rfl) (fun i h => by cases h) ⟨by omega,by omega,rfl,by rw[intsC_len,hrl,Nat.mul_one]⟩ ?_
 intro tr hpr arr
 have kp:∀ i,i < g.nx + 2 + 3→hpr i = _:=fun i hi => arr.keep i (by omega) (fun e h => by cases h)
 dsimp only at kp
 have h1:hpr g.nx = some (.cells (gfC X R C) false):=by rw[kp _ (by omega)];simp (disch:=omega) only[upd_ne,upd_same];rfl
 have h2:hpr (g.nx + 1) = some (.cells [.i .i64 0,.sl [] 0 .rig,.sl [] 0 .rig,.sl [] 0 .rig,.sl [] 0 .rig,.sl [] 0 .rig,.sl [] 0 .rig,.sl [] 0 .rig] false):=by rw[kp _ (by omega)];simp (disch:=omega) only[upd_ne,upd_same]
 have h3:hpr (g.nx + 2 + 1) = some (.cells [.i .i64 X.locs,.sl (evsC X.evs) X.evs.length .non,.ms R 0 X.evs.length,.ms C 0 2,.sl (pairsC X.rmw) X.rmw.length .non,.sl (pairsC X.data) X.data.length .non,.sl (pairsC X.ctrl) X.ctrl.length .non,.sl (pairsC X.ctrli) X.ctrli.length .non] false):=by rw[kp _ (by omega)];simp (disch:=omega) only[upd_ne,upd_same]
 have hold:∀ i,i < g.nx→hpr i = g.hp i:=fun i hi => by rw[kp _ (by omega)];simp (disch:=omega) only[upd_ne]
 have hfr2:∀ i,g.nx + 2 + 3 + 5≤i→hpr i = none:=fun i hi => by
  rw[arr.keep i (by omega) (fun e h => by cases h)]
  simp (disch:=omega) only[upd_ne]
  exact hfr i (by omega)
 clear kp
 simp (disch:=omega) only[wp,qa,qb,qc,gl,h1,h2,h3]
 refine blk_cut (fun e g' => ∃ t1 t,CpI X rf [c0,c1] R C g.nx (g.nx + 1) (g.nx + 2 + 1) g 2 t1 t e g') ?_ ?_
 ·refine W_loop (fun q e g' => ∃ (i:Nat) (t1 t:Tok),q = 2 - i∧CpI X rf [c0,c1] R C g.nx (g.nx + 1) (g.nx + 2 + 1) g i t1 t e g') 2 ?_ ?_
  ·refine ⟨0,tr,.rig,rfl,by omega,rfl,rfl,rfl,rfl,?_,?_,?_,.inl rfl,(fun j h => by cases h),⟨by omega,by omega,by omega,by first | omega | (dsimp only;omega),by first | omega | (dsimp only;omega),by first | omega | (dsimp only;omega),by omega,by omega⟩,by first | omega | (dsimp only;omega),fun j hj => ?_,fun j hj => ?_⟩
   ·simp (disch:=omega) only[upd_ne];exact h1
   ·simp (disch:=omega) only[upd_ne];exact h2
   ·simp (disch:=omega) only[upd_same]
    simp[gcC,coC,hrl]
   ·simp (disch:=omega) only[upd_ne];exact hold j hj
   ·try dsimp only at hj
    simp (disch:=omega) only[upd_ne];exact hfr2 j (by omega)
  ·rintro q e g1 ⟨i,tt,t,rfl,hi,e1,e2,e3,e4,h1,h2,h3,tk,told,⟨b1,b2,b3,b4,b5,b6,b7,b8⟩,hx,st,fresh⟩
   by_cases d1:i < 2
   ·have d1':((i:Nat):Int) < ((2:Nat):Int):=by omega
    have hwi:=succ_wrap (k:=i) (by omega)
    have hC1:g1.hp C = some (.cells [.sl (intsC c0) c0.length t0,.sl (intsC c1) c1.length t1] false):=(st C hC).trans hc
    have hpt:∃ tw,part [AV.sl (intsC c0) c0.length t0,AV.sl (intsC c1) c1.length t1] (i * 1) none = some (.sl (intsC (([c0,c1]:List (List Int)).getD i [])) (([c0,c1]:List (List Int)).getD i []).length tw)∧(([c0,c1]:List (List Int)).getD i []).length≤1000∧([c0,c1]:List (List Int)).take (i + 1) = ([c0,c1]:List (List Int)).take i ++ [([c0,c1]:List (List Int)).getD i []]:=by
     have:i = 0∨i = 1:=by omega
     rcases this with rfl | rfl
     ·exact ⟨t0,rfl,hc0,rfl⟩
     ·exact ⟨t1,rfl,hc1,rfl⟩
    obtain ⟨tw,hpt,hcl,hnx⟩:=hpt
    have htl:(([c0,c1]:List (List Int)).take i).length≤2:=by rw[List.length_take];simp;omega
    generalize ([c0,c1]:List (List Int)).getD i [] = ci at hpt hcl hnx
    generalize hpre:([c0,c1]:List (List Int)).take i = pre at h3 htl hnx
    have hil:(intsC ci).length = ci.length * 1:=by rw[intsC_len,Nat.mul_one]
    have hpl:(coC pre).length = pre.length * 1:=by rw[coC_len,Nat.mul_one]
    have h10:=h1
    rw[gfC] at h1
    rw[gcC] at h3
    simp (disch:=omega) only[wp,qa,qb,qc,gl,e1,e2,e3,e4,h1,h3,d1',hC1,hpt]
    refine bindO_app (.inl rfl) (fun i h => by cases h) ⟨by omega,by omega,rfl,hil⟩ ?_
    intro ta hpa ara
    simp (disch:=omega) only[wp,qa,qb,qc,gl,e1,e2,e3,e4]
    have live:∀ i2,t = .own i2 1→i2 < g1.nx∧g.nx≤i2∧hpa i2 = g1.hp i2∧g1.hp i2 = some (.tok true):=fun i2 h2' => by
     rcases tk with h | ⟨i',h,h1',h3'⟩
     ·rw[h] at h2';cases h2'
     ·rw[h] at h2';cases h2'
      exact ⟨h3',told _ h,by rw[ara.keep i2 (by omega) (fun e h => by cases h)],h1'⟩
    refine bindO_app1 (esz:=1) (tk.mono (fun i2 h2 => (live i2 h2).2.2.1) (by first | omega | (dsimp only;omega))) (fun i2 h2 => allow_lt _ (by have:=(live i2 h2).1;first | omega | (dsimp only;omega))) ⟨by omega,by omega,hpl,rfl⟩ ?_
    intro tb hpb arb hpos
    obtain ⟨rfl,hlv⟩:=hpos (by omega)
    have kp:∀ i2 cs ro,i2 < g1.nx→g1.hp i2 = some (.cells cs ro)→hpb i2 = some (.cells cs ro):=fun i2 cs ro hi2 hh => by
     rw[arb.keep i2 (by omega) (fun e h => by
      rcases tk with h4 | ⟨i',h4,h5,h6⟩
      ·rw[h4] at h;cases h
      ·rw[h4] at h;cases h;rw[hh] at h5;cases h5)]
     dsimp only
     rw[ara.keep i2 (by omega) (fun e h => by cases h)]
     exact hh
    have k3:=kp _ _ _ b6 h3
    simp (disch:=omega) only[wp,qa,qb,qc,gl,e3,e4,k3,hwi]
    refine ⟨2 - (i + 1),by omega,i + 1,tt,.own (g1.nx + 5 + 9) 1,rfl,by omega,e1,e2,e3,rfl,?_,?_,?_,.inr ⟨_,rfl,?_,?_⟩,(fun j h => by cases h;omega),⟨b1,b2,b3,by first | omega | (dsimp only;omega),by first | omega | (dsimp only;omega),by first | omega | (dsimp only;omega),b7,b8⟩,by first | omega | (dsimp only;omega),fun j hj => ?_,fun j hj => ?_⟩
    ·show upd _ _ _ _ = _
     rw[upd_ne _ _ b7];exact kp _ _ _ b4 h10
    ·show upd _ _ _ _ = _
     rw[upd_ne _ _ b8];exact kp _ _ _ b5 h2
    ·show upd _ _ _ _ = _
     rw[upd_same,hnx,gcC,coC_app,List.length_append]
     simp[coC]
    ·show upd _ _ _ _ = _
     rw[upd_ne _ _ (by omega)];exact hlv
    ·first | omega | (dsimp only;omega)
    ·show upd _ _ _ _ = _
     rw[upd_ne _ _ (by omega),arb.keep j (by omega) (fun e h => by
      have:=told j
      rcases tk with h4 | ⟨i',h4,h5,h6⟩
      ·rw[h4] at h;cases h
      ·have:=told i' h4
       rw[h4] at h;cases h;omega)]
     dsimp only
     rw[ara.keep j (by omega) (fun e h => by cases h)]
     exact st j hj
    ·try dsimp only at hj
     simp (disch:=omega) only[upd_ne]
     rw[arb.keep j (by omega) (fun e h => by
      rcases tk with h4 | ⟨i',h4,h5,h6⟩
      ·rw[h4] at h;cases h
      ·rw[h4] at h;cases h;omega)]
     dsimp only
     rw[ara.keep j (by omega) (fun e h => by cases h)]
     exact fresh j (by omega)
   ·have d1':¬ ((i:Nat):Int) < ((2:Nat):Int):=by omega
    obtain rfl:i = 2:=by omega
    have h10:=h1
    rw[gfC] at h1
    simp (disch:=omega) only[wp,qa,qb,qc,gl,e1,e2,e3,e4,h1,d1']
    exact ⟨tt,t,by omega,e1,e2,e3,e4,h10,h2,h3,tk.mono (fun i hi => rfl) (by first | omega | (dsimp only;omega)),told,⟨b1,b2,b3,by first | omega | (dsimp only;omega),by first | omega | (dsimp only;omega),by first | omega | (dsimp only;omega),b7,b8⟩,by first | omega | (dsimp only;omega),st,fun j hj => fresh j (by first | omega | (dsimp only at hj;omega))⟩
 ·rintro e g1 ⟨tt,t,hi,e1,e2,e3,e4,h1,h2,h3,tk,told,⟨b1,b2,b3,b4,b5,b6,b7,b8⟩,hx,st,fresh⟩
  rw[show ([c0,c1]:List (List Int)).take 2 = [c0,c1] from rfl,gcC] at h3
  simp (disch:=omega) only[wp,qa,qb,qc,gl,e1,e2,e3,h2,h3,s8,p8,res_cell,resC]
  refine ⟨_,rfl,⟨tt,t,rfl⟩,by first | omega | (dsimp only;omega),fun j hj => ?_,fun j hj => ?_⟩
  ·show upd _ _ _ _ = _
   rw[upd_ne _ _ (by omega)]
   exact st j hj
  ·try dsimp only at hj
   simp (disch:=omega) only[upd_ne]
   exact fresh j (by omega)
end Go.Ab
end
section
set_option linter.unusedVariables false
set_option linter.unusedSimpArgs false
namespace Go.Ab
variable {F:Funs}
def gsC (L:List Gr):List AV:=L.flatMap grC
theorem gsC_len (L:List Gr):(gsC L).length = L.length * 8:=by
 induction L with
 | nil => rfl
 | cons X L ih => simp only[gsC,List.flatMap_cons,List.length_append,List.length_cons,grC_len] at ih ⊢;omega
theorem gsC_snoc (L:List Gr) (Y:Gr):gsC (L ++ [Y]) = gsC L ++ grC Y:=by simp[gsC]
structure EnS (P:Gr→Prop) (Eb:Nat) (L:List Gr) (t:Tok) (g:G):Prop where
 he:g.hp Eb = some (.cells [.sl (gsC L) L.length t,.b (decide (20000 < L.length))] false)
 tk:TkOk 8 g t
 ll:L.length≤20001
 ok:∀ Y∈L,P Y
 lt:Eb < g.nx
 fresh:∀ i,g.nx≤i→g.hp i = none
structure CoPre (X:Gr) (j:Nat) (l:List Int):Prop where
 wr:∀ v∈l,0≤v∧v < X.evs.length∧isWr (j:Int) (X.evs.getD v.toNat ev0) = true
 nd:l.Nodup
 hd:∃ r,l = (j:Int) :: r
def CoFull (X:Gr) (j:Nat) (l:List Int):Prop:=∀ w:Nat,w < X.evs.length→isWr (j:Int) (X.evs.getD w ev0) = true→(w:Int)∈l
theorem nat_nodup {l:List Int} (hn:l.Nodup) (hb:∀ v∈l,0≤v):(l.map Int.toNat).Nodup:=by
 rw[List.Nodup,List.pairwise_map]
 refine List.Pairwise.imp_of_mem (fun {a b} ha hb' hab => ?_) hn
 have:=hb a ha
 have:=hb b hb'
 omega
theorem nodup_filter {l:List Int} {n:Nat} {p:Nat→Bool} (hn:l.Nodup) (hb:∀ v∈l,0≤v∧v < (n:Int)) (hp:∀ w,w < n→((w:Int)∈l↔p w = true)):l.length = ((List.range n).filter p).length:=by
 have h1:=nat_nodup hn fun v hv => (hb v hv).1
 have h2:((List.range n).filter p).Nodup:=List.Nodup.sublist List.filter_sublist List.nodup_range
 have h3:(l.map Int.toNat).Perm ((List.range n).filter p):=(List.perm_ext_iff_of_nodup h1 h2).2 fun a => by
  rw[List.mem_map,List.mem_filter,List.mem_range]
  constructor
  ·rintro ⟨v,hv,rfl⟩
   obtain ⟨b1,b2⟩:=hb v hv
   refine ⟨by omega,(hp _ (by omega)).1 ?_⟩
   rw[Int.toNat_of_nonneg b1];exact hv
  ·rintro ⟨ha,hpa⟩
   exact ⟨(a:Int),(hp a ha).2 hpa,by simp⟩
 have:=h3.length_eq
 rwa [List.length_map] at this
theorem nodup_len {l:List Int} {n:Nat} (hn:l.Nodup) (hb:∀ v∈l,0≤v∧v < (n:Int)):l.length≤n:=by
 have h:=nodup_filter (p:=fun (w:Nat) => decide ((w:Int)∈l)) hn hb (fun w _ => by simp)
 have:=List.length_filter_le (fun (w:Nat) => decide ((w:Int)∈l)) (List.range n)
 rw[List.length_range] at this
 omega
theorem evs_map (l:List Ev):l = (List.range l.length).map fun i => l.getD i ev0:=by
 refine List.ext_getElem (by simp) fun i h1 h2 => ?_
 rw[List.getElem_map,List.getElem_range,List.getD_eq_getElem?_getD,List.getElem?_eq_getElem h1];rfl
theorem wr_count (l:List Ev) (p:Ev→Bool):(l.filter p).length = ((List.range l.length).filter fun i => p (l.getD i ev0)).length:=by
 conv => lhs;rw[evs_map l]
 rw[List.filter_map,List.length_map]
 rfl
theorem CoPre.len {X:Gr} {j:Nat} {l:List Int} (h:CoPre X j l):l.length≤X.evs.length:=nodup_len h.nd fun v hv => ⟨(h.wr v hv).1,(h.wr v hv).2.1⟩
theorem CoPre.snoc {X:Gr} {j:Nat} {l:List Int} (h:CoPre X j l) {w:Nat} (hw:w < X.evs.length) (hk:isWr (j:Int) (X.evs.getD w ev0) = true) (hn:(w:Int) ∉ l):CoPre X j (l ++ [(w:Int)]):=by
 obtain ⟨r,hr⟩:=h.hd
 refine ⟨fun v hv => ?_,?_,r ++ [(w:Int)],by rw[hr];rfl⟩
 ·rcases List.mem_append.1 hv with hv | hv
  ·exact h.wr v hv
  ·obtain rfl:v = (w:Int):=by simpa using hv
   exact ⟨by omega,by omega,by simpa using hk⟩
 ·rw[List.nodup_append]
  exact ⟨h.nd,by simp,fun a ha b hb => by
   obtain rfl:b = (w:Int):=by simpa using hb
   exact fun he => hn (he ▸ ha)⟩
theorem CoPre.ok {X Y:Gr} {j:Nat} {l:List Int} (he:Y.evs = X.evs) (h:CoPre X j l) (hf:CoFull X j l) (hl:Y.co.getD j [] = l):CoOk Y j:=by
 obtain ⟨r,hr⟩:=h.hd
 have hat:∀ i,i < l.length→l.getD i 0∈l:=fun i hi => getD_mem hi
 refine ⟨fun i hi => ?_,fun i hi k hk => ?_,?_,?_,?_⟩
 ·rw[hl] at hi ⊢
  obtain ⟨a,b,c⟩:=h.wr _ (hat i hi)
  rw[he]
  simp only[isWr,Bool.and_eq_true,beq_iff_eq] at c
  exact ⟨a,b,c.1,c.2⟩
 ·rw[hl] at hi ⊢
  have hp:=List.pairwise_iff_getElem.1 h.nd k i (by omega) hi hk
  rw[List.getD_eq_getElem?_getD,List.getD_eq_getElem?_getD,List.getElem?_eq_getElem hi,List.getElem?_eq_getElem (show k < l.length by omega)]
  exact hp
 ·rw[hl]
  unfold cntW
  rw[List.take_length,he,wr_count]
  refine nodup_filter h.nd (fun v hv => ⟨(h.wr v hv).1,(h.wr v hv).2.1⟩) fun w hw => ⟨fun hm => ?_,fun hp => hf w hw hp⟩
  have:=(h.wr _ hm).2.2
  simpa using this
 ·rw[hl,hr];simp
 ·rw[hl,hr];rfl
end Go.Ab
end
section
set_option linter.unusedVariables false
set_option linter.unusedSimpArgs false
namespace Go.Ab
variable {F:Funs}
def coC2 (cs:Nat→List Int) (ts:Nat→Tok):List AV:=[.sl (intsC (cs 0)) (cs 0).length (ts 0),.sl (intsC (cs 1)) (cs 1).length (ts 1)]
theorem co2_part {cs:Nat→List Int} {ts:Nat→Tok} {j:Nat} (h:j < 2):part [AV.sl (intsC (cs 0)) (cs 0).length (ts 0),.sl (intsC (cs 1)) (cs 1).length (ts 1)] (j * 1) none = some (.sl (intsC (cs j)) (cs j).length (ts j)):=by
 have:j = 0∨j = 1:=by omega
 rcases this with rfl | rfl<;>rfl
theorem co2_set {cs:Nat→List Int} {ts:Nat→Tok} {j:Nat} (h:j < 2) (l:List Int) (n:Nat) (t:Tok) (hn:n = l.length):[AV.sl (intsC (cs 0)) (cs 0).length (ts 0),.sl (intsC (cs 1)) (cs 1).length (ts 1)].set (j * 1) (.sl (intsC l) n t) = coC2 (upd cs j l) (upd ts j t):=by
 subst hn
 have:j = 0∨j = 1:=by omega
 rcases this with rfl | rfl<;>simp[coC2,upd]
theorem upd_upd {α:Type} (f:Nat→α) (j:Nat) (a b:α):upd (upd f j a) j b = upd f j b:=by
 funext k;unfold upd;split<;>rfl
theorem upd_id {α:Type} (f:Nat→α) (j:Nat):upd f j (f j) = f:=by
 funext k;unfold upd;split
 ·rename_i h;rw[h]
 ·rfl
structure Frm2 (A B:Nat) (g g':G):Prop where
 nx:g.nx≤g'.nx
 keep:∀ i,i < g.nx→i≠A→i≠B→(∀ b,g.hp i≠some (.tok b))→g'.hp i = g.hp i
def CoP (P:Gr→Prop) (Eb:Nat) (g g':G):Prop:=∃ L t,EnS P Eb L t g'∧Frm1 Eb g g'
structure CoW (P:Gr→Prop) (X:Gr) (Eb R C B4 loc:Nat) (rf was:List Int) (cs:Nat→List Int) (ts:Nat→Tok) (g0:G) (w:Nat) (more:Bool) (L:List Gr) (t:Tok) (l':List Int) (t':Tok) (e:Env) (g:G):Prop where
 hw:2≤w∧w≤X.evs.length
 e0:e 0 = .mp Eb 0
 e2:e 2 = .i .i64 ((loc:Nat):Int)
 e4:e 4 = .mp B4 0
 e6:e 6 = .b more
 e7:e 7 = .sl (intsC was) was.length (ts loc)
 e8:e 8 = .i .i64 ((w:Nat):Int)
 h4:g.hp B4 = some (.cells (gfC X R C) false)
 hr:g.hp R = some (.cells (intsC rf) false)
 hc:g.hp C = some (.cells (coC2 (upd cs loc l') (upd ts loc t')) false)
 en:EnS P Eb L t g
 fr:Frm2 Eb C g0 g
 b4:g0.nx≤B4∧B4 < g.nx
 no:more = false→∀ v:Nat,2≤v→v < w→isWr (loc:Int) (X.evs.getD v ev0) = true→(v:Int)∈was
theorem CoW.rc {P:Gr→Prop} {X:Gr} {Eb R C B4 loc:Nat} {rf was:List Int} {cs:Nat→List Int} {ts:Nat→Tok} {g0:G} {w:Nat} {more:Bool} {L:List Gr} {t:Tok} {l':List Int} {t':Tok} {e:Env} {g:G} (I:CoW P X Eb R C B4 loc rf was cs ts g0 w more L t l' t' e g):R < g.nx∧C < g.nx:=by
 constructor
 ·by_cases h:R < g.nx
  ·exact h
  ·have:=I.en.fresh R (by omega);rw[I.hr] at this;cases this
 ·by_cases h:C < g.nx
  ·exact h
  ·have:=I.en.fresh C (by omega);rw[I.hc] at this;cases this
theorem EnS.mv {P:Gr→Prop} {Eb:Nat} {L:List Gr} {t:Tok} {g:G} (h:EnS P Eb L t g) {hp':Nat→Option Blk} {m:Nat} (hk:∀ i,i < g.nx→hp' i = g.hp i) (hm:g.nx≤m) (hf:∀ i,m≤i→hp' i = none):EnS P Eb L t ⟨hp',m⟩:=
 ⟨(hk _ h.lt).trans h.he,h.tk.mono (fun i hi => hk i (by
   rcases h.tk with h1 | ⟨i',h1,h2,h3⟩
   ·rw[hi] at h1;cases h1
   ·rw[hi] at h1;cases h1;exact h3)) hm,h.ll,h.ok,Nat.lt_of_lt_of_le h.lt hm,hf⟩
theorem CoW.mv {P:Gr→Prop} {X:Gr} {Eb R C B4 loc:Nat} {rf was:List Int} {cs:Nat→List Int} {ts:Nat→Tok} {g0:G} {w:Nat} {more:Bool} {L:List Gr} {t:Tok} {l':List Int} {t':Tok} {e:Env} {g:G} (I:CoW P X Eb R C B4 loc rf was cs ts g0 w more L t l' t' e g)
  {e':Env} {hp':Nat→Option Blk} {m:Nat} (h0:e' 0 = e 0) (h2:e' 2 = e 2) (h4:e' 4 = e 4) (h6:e' 6 = e 6) (h7:e' 7 = e 7) (h8:e' 8 = e 8) (hk:∀ i,i < g.nx→hp' i = g.hp i) (hm:g.nx≤m) (hf:∀ i,m≤i→hp' i = none):CoW P X Eb R C B4 loc rf was cs ts g0 w more L t l' t' e' ⟨hp',m⟩:=
 ⟨I.hw,h0.trans I.e0,h2.trans I.e2,h4.trans I.e4,h6.trans I.e6,h7.trans I.e7,h8.trans I.e8,(hk _ I.b4.2).trans I.h4,(hk _ I.rc.1).trans I.hr,(hk _ I.rc.2).trans I.hc,I.en.mv hk hm hf,
  ⟨Nat.le_trans I.fr.nx hm,fun i hi a b c => by show hp' i = _;rw[hk i (Nat.lt_of_lt_of_le hi I.fr.nx)];exact I.fr.keep i hi a b c⟩,⟨I.b4.1,Nat.lt_of_lt_of_le I.b4.2 hm⟩,I.no⟩
theorem rp_co (h122:F 122 = some A_xref13_E_co) (h131:F 131 = some A_xref13_copied) {P:Gr→Prop} {X:Gr} {Eb R C:Nat} {rf:List Int} (hlocs:X.locs = 2) (hn:X.evs.length≤100) (hn2:2≤X.evs.length) (hfst:∀ w:Nat,w < 2→(X.evs.getD w ev0).lc = (w:Int)) (hrl:rf.length = X.evs.length)
  (hP:∀ cs:Nat→List Int,(∀ j,j < 2→CoPre X j (cs j)∧CoFull X j (cs j))→P (putX X rf [cs 0,cs 1])) (hne:Eb≠R∧Eb≠C∧R≠C):
  ∀ (k loc:Nat) (cs:Nat→List Int) (ts:Nat→Tok) (L:List Gr) (t:Tok) (g:G),(2 - loc) * (X.evs.length + 2) + (X.evs.length + 1 - (cs loc).length)≤k→loc≤2→EnS P Eb L t g→g.hp R = some (.cells (intsC rf) false)→g.hp C = some (.cells (coC2 cs ts) false)→R < g.nx→C < g.nx →
    (∀ j,j < 2→CoPre X j (cs j))→(∀ j,j < loc→CoFull X j (cs j)) →
    ∃ v g',callS F 122 [.mp Eb 0,.agg (gfC X R C),.i .i64 ((loc:Nat):Int)] g = some (v,g')∧CoP P Eb g g':=by
 intro k
 induction k using Nat.strongRecOn with
 | _ k ih =>
   intro loc cs ts L t g hk hloc en hr hc hR hC hpre hful
   obtain ⟨ne1,ne2,ne3⟩:=hne
   refine raw_of (P:=fun v g' => CoP P Eb g g') h122 ?_
   have he:=en.he
   have hEl:=en.lt
   have hgf:gfC X R C = [.i .i64 2,.sl (evsC X.evs) X.evs.length .non,.ms R 0 X.evs.length,.ms C 0 2,.sl (pairsC X.rmw) X.rmw.length .non,.sl (pairsC X.data) X.data.length .non,.sl (pairsC X.ctrl) X.ctrl.length .non,.sl (pairsC X.ctrli) X.ctrli.length .non]:=by rw[gfC,hlocs]
   have hcp:=fun g1 (a1:g1.hp R = some (.cells (intsC rf) false)) (a2:g1.hp C = some (.cells (coC2 cs ts) false)) (a3:R < g1.nx) (a4:C < g1.nx) (a5:∀ i,g1.nx≤i→g1.hp i = none) => rp_copied h131 (X:=X) (g:=g1) a1 a2 hrl a3 a4 (by omega) (by have:=(hpre 0 (by omega)).len;omega) (by have:=(hpre 1 (by omega)).len;omega) a5
   have l7:∀ x:AV,List.replicate 7 x = [x,x,x,x,x,x,x]:=fun _ => rfl
   have s8:∀ b1 b2 b3 b4 b5 b6 b7 b8 c1 c2 c3 c4 c5 c6 c7 c8:AV,splice [b1,b2,b3,b4,b5,b6,b7,b8] 0 [c1,c2,c3,c4,c5,c6,c7,c8] = [c1,c2,c3,c4,c5,c6,c7,c8]:=fun _ _ _ _ _ _ _ _ _ _ _ _ _ _ _ _ => rfl
   have tkl:∀ i,t = .own i 8→i < g.nx∧g.hp i = some (.tok true):=fun i hi => by
    rcases en.tk with h | ⟨i',h,h1,h2⟩
    ·rw[h] at hi;cases hi
    ·rw[h] at hi;cases hi;exact ⟨h2,h1⟩
   have p8:∀ c1 c2 c3 c4 c5 c6 c7 c8:AV,part [c1,c2,c3,c4,c5,c6,c7,c8] 0 (some 8) = some (.agg [c1,c2,c3,c4,c5,c6,c7,c8]):=fun _ _ _ _ _ _ _ _ => rfl
   by_cases cb:20000 < L.length
   ·rw[decide_eq_true cb] at he
    rw[hgf]
    simp (disch:=omega) only[A_xref13_E_co,wp,qa,qb,qc,gl,he]
    refine ⟨_,rfl,L,t,⟨?_,en.tk.mono (fun i hi => ?_) (by first | omega | (dsimp only;omega)),en.ll,en.ok,by first | omega | (dsimp only;omega),fun i hi => ?_⟩,⟨by first | omega | (dsimp only;omega),fun i hi _ _ => ?_⟩⟩
    ·simp (disch:=omega) only[upd_ne];exact en.he
    ·have:=(tkl i hi).1
     simp (disch:=omega) only[upd_ne]
    ·dsimp only at hi
     simp (disch:=omega) only[upd_ne]
     exact en.fresh i (by omega)
    ·simp (disch:=omega) only[upd_ne]
   ·rw[decide_eq_false cb] at he
    by_cases c2:loc = 2
    ·subst c2
     have c2':((((2:Nat):Int)) == (2:Int)) = true:=rfl
     have hgl:=gsC_len L
     rw[hgf]
     rw[hgf] at hcp
     simp (disch:=omega) only[A_xref13_E_co,wp,qa,qb,qc,gl,he,c2',p8,l7]
     refine bindO_see _ (hcp _ ?_ ?_ (by first | omega | (dsimp only;omega)) (by first | omega | (dsimp only;omega)) (fun i hi => ?_)) (fun v g' hv i b hb => ?_) ?_
     ·simp (disch:=omega) only[upd_ne];exact hr
     ·simp (disch:=omega) only[upd_ne];exact hc
     ·dsimp only at hi
      simp (disch:=omega) only[upd_ne];exact en.fresh i (by omega)
     ·by_cases hi:i < g.nx + 1 + 4 + 4 + 12
      ·rw[hv.2.2.1 i hi];exact hb
      ·dsimp only at hb
       rw[upd_ne _ _ (by omega),en.fresh i (by omega)] at hb
       cases hb
     rintro v g2 ⟨⟨t1,t2,rfl⟩,hx,hkeep,hfr2⟩
     dsimp only at hx hkeep
     rw[gcC]
     simp (disch:=omega) only[wp,qa,qb,qc,gl,s8]
     have lv:∀ i,i < g.nx→g2.hp i = g.hp i:=fun i hi => by rw[hkeep i (by omega),upd_ne _ _ (by omega)]
     refine bindO_app1 (esz:=8) (en.tk.mono (fun i hi => lv i (tkl i hi).1) (by omega)) (fun i hi => allow_lt _ (by have:=(tkl i hi).1;omega)) ⟨by omega,by omega,hgl,rfl⟩ ?_
     intro t3 hp3 ar3 hpos
     obtain ⟨rfl,hlv⟩:=hpos (by omega)
     have k3:∀ i,i < g.nx→(∀ e,t≠.own i e)→hp3 i = g.hp i:=fun i hi hne => by
      rw[ar3.keep i (by omega) hne];exact lv i hi
     have ne3:∀ i cs ro,g.hp i = some (.cells cs ro)→∀ e,t≠.own i e:=fun i cs ro hh e h => by
      rcases en.tk with h4 | ⟨i',h4,h5,h6⟩
      ·rw[h4] at h;cases h
      ·rw[h4] at h;cases h;rw[hh] at h5;cases h5
     have he3:=(k3 Eb hEl (ne3 _ _ _ he)).trans he
     simp (disch:=omega) only[wp,qa,qb,qc,gl,he3]
     refine ⟨_,rfl,L ++ [putX X rf [cs 0,cs 1]],.own (g.nx + 1 + 4 + 4 + 8) 8,⟨?_,.inr ⟨_,rfl,?_,?_⟩,by simp;omega,fun Y hY => ?_,by first | omega | (dsimp only;omega),fun i hi => ?_⟩,⟨by first | omega | (dsimp only;omega),fun i hi hb ht => ?_⟩⟩
     ·show upd _ _ _ _ = _
      rw[upd_same,gsC_snoc,List.length_append]
      have hdec:(decide ((20000:Int) < ((L.length + 1:Nat):Int))) = decide (20000 < L.length + [putX X rf [cs 0,cs 1]].length):=by
       rw[decide_eq_decide];simp;omega
      rw[hdec]
      rfl
     ·simp (disch:=omega) only[upd_ne];exact hlv
     ·first | omega | (dsimp only;omega)
     ·rcases List.mem_append.1 hY with hY | hY
      ·exact en.ok Y hY
      ·obtain rfl:Y = putX X rf [cs 0,cs 1]:=by simpa using hY
       exact hP cs fun j hj => ⟨hpre j hj,hful j hj⟩
     ·dsimp only at hi
      simp (disch:=omega) only[upd_ne]
      rw[ar3.keep i (by omega) (fun e h => by have:=(tkl i (by rcases en.tk with h4 | ⟨i',h4,_,_⟩<;>rw[h4] at h<;>cases h;exact h4)).1;omega)]
      exact hfr2 i (by omega)
     ·simp (disch:=omega) only[upd_ne]
      rw[ar3.keep i (by omega) (fun e h => ht true (tkl i (by rcases en.tk with h4 | ⟨i',h4,_,_⟩<;>rw[h4] at h<;>cases h;exact h4)).2)]
      exact lv i hi
    ·have c2':(((loc:Nat):Int) == (2:Int)) = false:=by simp;omega
     have hc':=hc
     rw[coC2] at hc'
     have hl2:loc < 2:=by omega
     have hpt:=co2_part (cs:=cs) (ts:=ts) hl2
     rw[hgf]
     have hmul:(2 - loc) * (X.evs.length + 2) = (2 - (loc + 1)) * (X.evs.length + 2) + (X.evs.length + 2):=by
      rw[←Nat.succ_mul];congr 1;omega
     have hcl:=(hpre loc hl2).len
     have enr:∀ (cs':Nat→List Int) (loc':Nat),(2 - loc') * (X.evs.length + 2) + (X.evs.length + 1 - (cs' loc').length) < (2 - loc) * (X.evs.length + 2) + (X.evs.length + 1 - (cs loc).length)→_:=fun cs' loc' hm => ih _ (Nat.lt_of_lt_of_le hm hk) loc' cs'
     simp (disch:=omega) only[A_xref13_E_co,wp,qa,qb,qc,gl,he,c2',p8,hc',hpt]
     refine blk_cut (fun e g' => ∃ more L1 t1 l' t',CoW P X Eb R C g.nx loc rf (cs loc) cs ts g X.evs.length more L1 t1 l' t' e g') ?_ ?_
     ·refine W_loop (fun q e g' => ∃ (w:Nat) (more:Bool) (L1:List Gr) (t1:Tok) (l':List Int) (t':Tok),q = X.evs.length - w∧CoW P X Eb R C g.nx loc rf (cs loc) cs ts g w more L1 t1 l' t' e g') (X.evs.length - 2) ?_ ?_
      ·refine ⟨2,false,L,t,cs loc,ts loc,rfl,⟨by omega,hn2⟩,rfl,rfl,rfl,rfl,rfl,rfl,?_,?_,?_,⟨?_,en.tk.mono (fun i hi => ?_) (by first | omega | (dsimp only;omega)),en.ll,en.ok,by first | omega | (dsimp only;omega),fun i hi => ?_⟩,⟨by first | omega | (dsimp only;omega),fun i hi _ _ _ => ?_⟩,⟨Nat.le_refl _,by first | omega | (dsimp only;omega)⟩,fun _ v h1 h2 => by omega⟩
       ·simp (disch:=omega) only[upd_same];rw[hgf]
       ·simp (disch:=omega) only[upd_ne];exact hr
       ·simp (disch:=omega) only[upd_ne];rw[upd_id,upd_id];exact hc
       ·simp (disch:=omega) only[upd_ne];exact en.he
       ·have:=(tkl i hi).1
        simp (disch:=omega) only[upd_ne]
       ·try dsimp only at hi
        simp (disch:=omega) only[upd_ne]
        exact en.fresh i (by omega)
       ·simp (disch:=omega) only[upd_ne]
      ·rintro q e g1 ⟨w,more,L1,t1,l',t',rfl,I⟩
       have e0:=I.e0
       have e2:=I.e2
       have e4:=I.e4
       have e6:=I.e6
       have e7:=I.e7
       have e8:=I.e8
       have h4:=I.h4
       have hx1:=I.fr.nx
       obtain ⟨b41,b42⟩:=I.b4
       rw[hgf] at h4
       by_cases d1:w < X.evs.length
       ·have d1':((w:Nat):Int) < ((X.evs.length:Nat):Int):=by omega
        have hev:=ev_part d1
        have hww:=succ_wrap (k:=w) (by omega)
        have hwx:isWr (loc:Int) (X.evs.getD w ev0) = isWr (loc:Int) (X.evs.getD w ev0):=rfl
        generalize hxe:X.evs.getD w ev0 = x at hev hwx
        have hRC:R < g1.nx∧C < g1.nx:=by
         constructor
         ·by_cases h:R < g1.nx
          ·exact h
          ·have:=I.en.fresh R (by omega);rw[I.hr] at this;cases this
         ·by_cases h:C < g1.nx
          ·exact h
          ·have:=I.en.fresh C (by omega);rw[I.hc] at this;cases this
        -- one more event
        rw[W_seq]
        refine W_cut (fun e g2 => CoW P X Eb R C g.nx loc rf (cs loc) cs ts g w more L1 t1 l' t' e g2) ?_ ?_
        ·simp (disch:=omega) only[wp,qa,qb,qc,gl,e0,e2,e4,e6,e7,e8,h4,d1']
         exact I.mv rfl rfl rfl rfl rfl rfl (fun i hi => rfl) (by first | omega | (dsimp only;omega)) (fun i hi => I.en.fresh i (by first | omega | (dsimp only at hi;omega)))
        clear I e0 e2 e4 e6 e7 e8 h4 hx1 b41 b42 hRC
        clear e g1
        rintro e g1 I
        have hRC:=I.rc
        rw[W_seq,W_blk,W_seq]
        have h4:=I.h4
        rw[hgf] at h4
        obtain ⟨b41,b42⟩:=I.b4
        have e4:=I.e4
        have e8:=I.e8
        have d1':((w:Nat):Int) < ((X.evs.length:Nat):Int):=by omega
        have l5:∀ y:AV,List.replicate 5 y = [y,y,y,y,y]:=fun _ => rfl
        have s6:∀ b1 b2 b3 b4 b5 b6 c1 c2 c3 c4 c5 c6:AV,splice [b1,b2,b3,b4,b5,b6] 0 [c1,c2,c3,c4,c5,c6] = [c1,c2,c3,c4,c5,c6]:=fun _ _ _ _ _ _ _ _ _ _ _ _ => rfl
        refine W_cut (fun e g2 => CoW P X Eb R C g.nx loc rf (cs loc) cs ts g w more L1 t1 l' t' e g2∧∃ b,e 9 = .mp b 0∧g2.hp b = some (.cells (evC x) false)∧b < g2.nx) ?_ ?_
        ·rw[evC] at hev
         simp (disch:=omega) only[wp,qa,qb,qc,gl,e4,e8,h4,d1',hev,l5,s6]
         refine ⟨I.mv rfl rfl rfl rfl rfl rfl (fun i hi => ?_) (by first | omega | (dsimp only;omega)) (fun i hi => ?_),_,rfl,upd_same _ _ _,by first | omega | (dsimp only;omega)⟩
         ·simp (disch:=omega) only[upd_ne]
         ·try dsimp only at hi
          simp (disch:=omega) only[upd_ne]
          exact I.en.fresh i (by omega)
        clear e4 e8 h4 b41 b42 hRC I
        clear e g1
        rintro e g1 ⟨I,b,e9,h9,b9⟩
        rw[W_seq]
        have e2:=I.e2
        refine W_cut (fun e g2 => CoW P X Eb R C g.nx loc rf (cs loc) cs ts g w more L1 t1 l' t' e g2∧e 10 = .b (!isWr (loc:Int) x)) ?_ ?_
        ·cases hk2:(x.kd == 2) with
         | false =>
           have hk2':(x.kd != 2) = true:=by rw[bne,hk2];rfl
           have hw0:isWr (loc:Int) x = false:=by rw[isWr,hk2];rfl
           simp (disch:=omega) only[wp,qa,qb,qc,gl,e2,e9,h9,hk2',hw0]
           exact I.mv rfl rfl rfl rfl rfl rfl (fun i hi => rfl) (by first | omega | (dsimp only;omega)) (fun i hi => I.en.fresh i (by first | omega | (dsimp only at hi;omega)))
         | true =>
           have hk2':(x.kd != 2) = false:=by rw[bne,hk2];rfl
           have hw0:isWr (loc:Int) x = (x.lc == (loc:Int)):=by rw[isWr,hk2];rfl
           simp (disch:=omega) only[wp,qa,qb,qc,gl,e2,e9,h9,hk2',hw0]
           exact ⟨I.mv rfl rfl rfl rfl rfl rfl (fun i hi => rfl) (by first | omega | (dsimp only;omega)) (fun i hi => I.en.fresh i (by first | omega | (dsimp only at hi;omega))),rfl⟩
        clear e9 h9 b9 e2 I hev
        clear e g1
        rintro e g1 ⟨I,e10⟩
        rw[W_seq]
        refine W_cut (fun e g2 => CoW P X Eb R C g.nx loc rf (cs loc) cs ts g w more L1 t1 l' t' e g2∧e 10 = .b (!isWr (loc:Int) x || decide ((w:Int)∈cs loc))) ?_ ?_
        ·have e7:=I.e7
         have e8:=I.e8
         simp (disch:=omega) only[wp,qa,qb,qc,gl]
         refine blk_end (fun e g2 => CoW P X Eb R C g.nx loc rf (cs loc) cs ts g w more L1 t1 l' t' e g2∧e 10 = .b (!isWr (loc:Int) x || decide ((w:Int)∈cs loc))) ?_ ?_
         ·refine W_loop (fun q e g2 => ∃ k:Nat,q = (cs loc).length - k∧k≤(cs loc).length∧CoW P X Eb R C g.nx loc rf (cs loc) cs ts g w more L1 t1 l' t' e g2∧e 10 = .b (!isWr (loc:Int) x || decide ((w:Int)∈(cs loc).take k))∧e 11 = .i .i64 ((k:Nat):Int)) (cs loc).length ?_ ?_
          ·refine ⟨0,rfl,Nat.zero_le _,I.mv rfl rfl rfl rfl rfl rfl (fun i hi => rfl) (by first | omega | (dsimp only;omega)) (fun i hi => I.en.fresh i (by first | omega | (dsimp only at hi;omega))),?_,rfl⟩
           simp (disch:=omega) only[wp,qa,qb,qc,e10,List.take_zero,List.not_mem_nil]
          ·rintro q e g2 ⟨k2,rfl,hk2,I,e10,e11⟩
           have e7:=I.e7
           have e8:=I.e8
           by_cases d2:k2 < (cs loc).length
           ·have d2':((k2:Nat):Int) < (((cs loc).length:Nat):Int):=by omega
            have hip:=ints_part d2
            have hwk:=succ_wrap (k:=k2) (by omega)
            have hmem:decide ((w:Int)∈(cs loc).take (k2 + 1)) = (decide ((w:Int)∈(cs loc).take k2) || ((cs loc).getD k2 0 == (w:Int))):=by
             rw[take_getD d2]
             generalize (cs loc).getD k2 0 = y
             by_cases h1:(w:Int)∈(cs loc).take k2
             ·rw[decide_eq_true h1,decide_eq_true (List.mem_append_left _ h1)];rfl
             ·by_cases h2:y = (w:Int)
              ·subst h2
               rw[decide_eq_true (List.mem_append_right _ (List.mem_singleton.2 rfl))];simp
              ·rw[decide_eq_false h1,decide_eq_false (fun h => by
                rcases List.mem_append.1 h with h | h
                ·exact h1 h
                ·exact h2 (List.mem_singleton.1 h).symm)]
               simp[h2]
            generalize (cs loc).getD k2 0 = y at hip hmem
            cases hb:(!isWr (loc:Int) x || decide ((w:Int)∈(cs loc).take k2)) with
            | true =>
              rw[hb] at e10
              simp (disch:=omega) only[wp,qa,qb,qc,gl,e7,e8,e10,e11,d2',hwk]
              exact ⟨(cs loc).length - (k2 + 1),by omega,k2 + 1,rfl,by omega,I.mv rfl rfl rfl rfl rfl rfl (fun i hi => rfl) (by first | omega | (dsimp only;omega)) (fun i hi => I.en.fresh i (by first | omega | (dsimp only at hi;omega))),by rw[hmem,←Bool.or_assoc,hb];rfl,rfl⟩
            | false =>
              rw[hb] at e10
              simp (disch:=omega) only[wp,qa,qb,qc,gl,e7,e8,e10,e11,d2',hwk,hip]
              exact ⟨(cs loc).length - (k2 + 1),by omega,k2 + 1,rfl,by omega,I.mv rfl rfl rfl rfl rfl rfl (fun i hi => rfl) (by first | omega | (dsimp only;omega)) (fun i hi => I.en.fresh i (by first | omega | (dsimp only at hi;omega))),by rw[hmem,←Bool.or_assoc,hb];rfl,rfl⟩
           ·have d2':¬ ((k2:Nat):Int) < (((cs loc).length:Nat):Int):=by omega
            obtain rfl:k2 = (cs loc).length:=by omega
            rw[List.take_length] at e10
            simp (disch:=omega) only[wp,qa,qb,qc,gl,e7,e8,e10,e11,d2']
            exact I.mv rfl rfl rfl rfl rfl rfl (fun i hi => rfl) (by first | omega | (dsimp only;omega)) (fun i hi => I.en.fresh i (by first | omega | (dsimp only at hi;omega)))
         ·rintro e g2 ⟨I,e10⟩
          simp (disch:=omega) only[wp,qa,qb,qc]
          exact ⟨I,e10⟩
        clear e10 I
        clear e g1
        rintro e g1 ⟨I,e10⟩
        have e0:=I.e0
        have e2:=I.e2
        have e4:=I.e4
        have e7:=I.e7
        have e8:=I.e8
        have h4:=I.h4
        rw[hgf] at h4
        obtain ⟨b41,b42⟩:=I.b4
        cases hb:(!isWr (loc:Int) x || decide ((w:Int)∈cs loc)) with
        | true =>
          rw[hb] at e10
          simp (disch:=omega) only[wp,qa,qb,qc,gl,e8,e10,hww]
          have I2:∀ e' m,e' 0 = e 0→e' 2 = e 2→e' 4 = e 4→e' 6 = e 6→e' 7 = e 7→e' 8 = .i .i64 ((w + 1:Nat):Int)→g1.nx≤m→CoW P X Eb R C g.nx loc rf (cs loc) cs ts g (w + 1) more L1 t1 l' t' e' ⟨g1.hp,m⟩:=fun e' m a0 a2 a4 a6 a7 a8 hm =>
           ⟨⟨by have:=I.hw.1;omega,by omega⟩,a0.trans I.e0,a2.trans I.e2,a4.trans I.e4,a6.trans I.e6,a7.trans I.e7,a8,I.h4,I.hr,I.hc,I.en.mv (fun i hi => rfl) hm (fun i hi => I.en.fresh i (by omega)),⟨Nat.le_trans I.fr.nx hm,I.fr.keep⟩,⟨b41,Nat.lt_of_lt_of_le b42 hm⟩,fun hmo v h2 hv hvw => by
             by_cases hvw2:v = w
             ·subst hvw2
              rw[hxe] at hvw
              rw[hvw] at hb
              simpa using hb
             ·exact I.no hmo v h2 (by omega) hvw⟩
          exact ⟨X.evs.length - (w + 1),by omega,w + 1,more,L1,t1,l',t',rfl,I2 _ _ rfl rfl rfl rfl rfl rfl (by first | omega | (dsimp only;omega))⟩
        | false =>
          rw[hb] at e10
          simp only[Bool.or_eq_false_iff,Bool.not_eq_false',decide_eq_false_iff_not] at hb
          have hc1:=I.hc
          rw[coC2] at hc1
          have hil:(intsC (cs loc)).length = (cs loc).length * 1:=by rw[intsC_len,Nat.mul_one]
          simp (disch:=omega) only[wp,qa,qb,qc,gl,e0,e2,e4,e7,e8,e10,h4]
          refine bindO_app (.inl rfl) (fun i h => by cases h) ⟨by omega,by omega,rfl,hil⟩ ?_
          intro ta hpa ara
          simp (disch:=omega) only[wp,qa,qb,qc,gl,e0,e2,e4,e7,e8]
          refine bindO_app (esz:=1) (ara.ok (by first | omega | (dsimp only;omega))) ?_ ⟨by omega,by omega,hil,rfl⟩ ?_
          ·intro i2 h2
           rcases ara.tok with h | ⟨h,_⟩
           ·rw[h] at h2;cases h2
           ·rw[h] at h2;cases h2
            exact allow_hd _ rfl
          intro tb hpb arb
          have kp:∀ i,i < g1.nx→hpb i = g1.hp i:=fun i hi => by
           rw[arb.keep i (by omega) (fun e h => by
            rcases ara.tok with h4 | ⟨h4,_⟩
            ·rw[h4] at h;cases h
            ·rw[h4] at h;cases h;omega)]
           dsimp only
           rw[ara.keep i (by omega) (fun e h => by cases h)]
          have kf:∀ i,g1.nx + 2 + 1 + 8≤i→hpb i = none:=fun i hi => by
           rw[arb.keep i (by omega) (fun e h => by
            rcases ara.tok with h4 | ⟨h4,_⟩
            ·rw[h4] at h;cases h
            ·rw[h4] at h;cases h;omega)]
           dsimp only
           rw[ara.keep i (by omega) (fun e h => by cases h)]
           exact I.en.fresh i (by omega)
          have hcb:=(kp C I.rc.2).trans hc1
          have h4b:=(kp g.nx b42).trans h4
          have hset:=co2_set (cs:=upd cs loc l') (ts:=upd ts loc t') hl2 (cs loc ++ [(w:Int)]) ((cs loc).length + 1) tb (by simp)
          rw[upd_upd,upd_upd,show intsC (cs loc ++ [(w:Int)]) = intsC (cs loc) ++ [.i .i64 (w:Int)] by simp[intsC]] at hset
          have hlen1:(upd cs loc (cs loc ++ [(w:Int)]) loc).length = (cs loc).length + 1:=by rw[upd_same];simp
          have hrec:=enr (upd cs loc (cs loc ++ [(w:Int)])) loc (by rw[hlen1];omega) (upd ts loc tb) L1 t1
          rw[hgf] at hrec
          have hpre2:∀ j,j < 2→CoPre X j (upd cs loc (cs loc ++ [(w:Int)]) j):=fun j hj => by
           by_cases hjl:j = loc
           ·subst hjl
            rw[upd_same]
            exact (hpre j hj).snoc d1 (by rw[hxe];exact hb.1) hb.2
           ·rw[upd_ne _ _ hjl];exact hpre j hj
          have hful2:∀ j,j < loc→CoFull X j (upd cs loc (cs loc ++ [(w:Int)]) j):=fun j hj => by
           rw[upd_ne _ _ (by omega)];exact hful j hj
          have tk1:∀ i e,t1 = .own i e→i < g1.nx∧i≠C:=fun i e hi => by
           rcases I.en.tk with h | ⟨i',h,h1,h2⟩
           ·rw[h] at hi;cases hi
           ·rw[h] at hi;cases hi
            exact ⟨h2,fun hh => by rw[hh,I.hc] at h1;cases h1⟩
          simp (disch:=omega) only[wp,qa,qb,qc,gl,e0,e2,e4,hcb,h4b,hset,p8]
          refine bindO_call _ (hrec _ (Nat.le_refl _) (by omega) ⟨(upd_ne _ _ ne2).trans ((kp Eb I.en.lt).trans I.en.he),I.en.tk.mono (fun i hi => (upd_ne _ _ (tk1 i _ hi).2).trans (kp i (tk1 i _ hi).1)) ?_,I.en.ll,I.en.ok,?_,fun i hi => ?_⟩ ((upd_ne _ _ ne3).trans ((kp R I.rc.1).trans I.hr)) (upd_same _ _ _) ?_ ?_ hpre2 hful2) ?_
          ·first | omega | (dsimp only;omega)
          ·have:=I.en.lt
           first | omega | (dsimp only;omega)
          ·try dsimp only at hi
           simp (disch:=omega) only[upd_ne]
           exact kf i (by omega)
          ·have:=I.rc.1
           first | omega | (dsimp only;omega)
          ·have:=I.rc.2
           first | omega | (dsimp only;omega)
          ·rintro v g3 ⟨L3,t3,en3,fr3⟩
           have fx:=fr3.nx
           dsimp only at fx
           have hx1:=I.fr.nx
           have hrc:=I.rc
           simp (disch:=omega) only[wp,qa,qb,qc,gl,e8,hww]
           refine ⟨X.evs.length - (w + 1),by omega,w + 1,true,L3,t3,cs loc ++ [(w:Int)],tb,rfl,⟨by have:=I.hw.1;omega,by omega⟩,e0,e2,e4,rfl,e7,rfl,?_,?_,?_,en3.mv (fun i hi => rfl) (by first | omega | (dsimp only;omega)) (fun i hi => en3.fresh i (by first | omega | (dsimp only at hi;omega))),⟨by first | omega | (dsimp only;omega),fun i hi a b c => ?_⟩,⟨b41,by first | omega | (dsimp only;omega)⟩,fun h => by cases h⟩
           ·refine fr3.cells (by first | omega | (dsimp only;omega)) (by omega) ?_
            rw[hgf]
            exact (upd_ne _ _ (by omega)).trans h4b
           ·exact fr3.cells (by first | omega | (dsimp only;omega)) (by omega) ((upd_ne _ _ ne3).trans ((kp R hrc.1).trans I.hr))
           ·exact fr3.cells (by first | omega | (dsimp only;omega)) (by omega) (upd_same _ _ _)
           ·have h1:=I.fr.keep i hi a b c
            have h2:upd hpb C (some (.cells (coC2 (upd cs loc (cs loc ++ [(w:Int)])) (upd ts loc tb)) false)) i = g.hp i:=by
             rw[upd_ne _ _ b,kp i (by omega),h1]
            exact (fr3.keep i (by first | omega | (dsimp only;omega)) a (fun b' hb' => c b' (h2 ▸ hb'))).trans h2
       ·have d1':¬ ((w:Nat):Int) < ((X.evs.length:Nat):Int):=by omega
        obtain rfl:w = X.evs.length:=by have:=I.hw;omega
        simp (disch:=omega) only[wp,qa,qb,qc,gl,e0,e2,e4,e6,e7,e8,h4,d1']
        exact ⟨more,L1,t1,l',t',I.hw,e0,e2,e4,e6,e7,e8,I.h4,I.hr,I.hc,⟨I.en.he,I.en.tk.mono (fun i hi => rfl) (by first | omega | (dsimp only;omega)),I.en.ll,I.en.ok,by have:=I.en.lt;first | omega | (dsimp only;omega),fun i hi => I.en.fresh i (by first | omega | (dsimp only at hi;omega))⟩,⟨by first | omega | (dsimp only;omega),I.fr.keep⟩,⟨b41,by first | omega | (dsimp only;omega)⟩,I.no⟩
     ·rintro e g1 ⟨more,L1,t1,l',t',I⟩
      have e0:=I.e0
      have e2:=I.e2
      have e4:=I.e4
      have e6:=I.e6
      have e7:=I.e7
      have h4:=I.h4
      have hc1:=I.hc
      have hx1:=I.fr.nx
      obtain ⟨b41,b42⟩:=I.b4
      rw[hgf] at h4
      rw[coC2] at hc1
      have hset:=co2_set (cs:=upd cs loc l') (ts:=upd ts loc t') hl2 (cs loc) _ (ts loc) rfl
      rw[upd_upd,upd_upd,upd_id,upd_id] at hset
      have hwl:IntKind.i64.wrap (((loc:Nat):Int) + 1) = ((loc + 1:Nat):Int):=succ_wrap (by omega)
      have hC1:C < g1.nx:=by omega
      have tkl1:∀ i e,t1 = .own i e→i < g1.nx∧g1.hp i = some (.tok true):=fun i e hi => by
       rcases I.en.tk with h | ⟨i',h,h1,h2⟩
       ·rw[h] at hi;cases hi
       ·rw[h] at hi;cases hi;exact ⟨h2,h1⟩
      have tkC:∀ i e,t1 = .own i e→i≠C:=fun i e hi h => by
       have:=(tkl1 i e hi).2
       rw[h,I.hc] at this;cases this
      -- the state with the order put back
      have EN:∀ m,g1.nx≤m→EnS P Eb L1 t1 ⟨upd g1.hp C (some (.cells (coC2 cs ts) false)),m⟩∧Frm1 Eb g ⟨upd g1.hp C (some (.cells (coC2 cs ts) false)),m⟩:=fun m hm => by
       refine ⟨⟨(upd_ne _ _ ne2).trans I.en.he,I.en.tk.mono (fun i hi => upd_ne _ _ (tkC i 8 hi)) hm,I.en.ll,I.en.ok,by have:=I.en.lt;first | omega | (dsimp only;omega),fun i hi => ?_⟩,⟨by first | omega | (dsimp only;omega),fun i hi hb ht => ?_⟩⟩
       ·try dsimp only at hi
        simp (disch:=omega) only[upd_ne]
        exact I.en.fresh i (by omega)
       ·by_cases hiC:i = C
        ·subst hiC;exact (upd_same _ _ _).trans hc.symm
        ·exact (upd_ne _ _ hiC).trans (I.fr.keep i hi hb hiC ht)
      cases hmr:more with
      | true =>
        rw[hmr] at e6
        simp (disch:=omega) only[wp,qa,qb,qc,gl,e0,e2,e4,e6,e7,h4,hc1,hset]
        exact ⟨_,rfl,L1,t1,(EN _ (by first | omega | (dsimp only;omega))).1,(EN _ (by first | omega | (dsimp only;omega))).2⟩
      | false =>
        rw[hmr] at e6
        have hrec:=enr cs (loc + 1) (by omega) ts L1 t1
        rw[hgf] at hrec
        have hfull:∀ j,j < loc + 1→CoFull X j (cs j):=fun j hj => by
         by_cases hjl:j = loc
         ·subst hjl
          intro v hv hvw
          by_cases hv2:v < 2
          ·have h1:=hfst v hv2
           simp only[isWr,Bool.and_eq_true,beq_iff_eq] at hvw
           obtain ⟨r,hr'⟩:=(hpre j hl2).hd
           rw[hr',show (v:Int) = (j:Int) by omega]
           exact List.mem_cons_self ..
          ·exact I.no hmr v (by omega) hv hvw
         ·exact hful j (by omega)
        simp (disch:=omega) only[wp,qa,qb,qc,gl,e0,e2,e4,e6,e7,h4,hc1,hset,p8,hwl]
        refine bindO_call _ (hrec _ (Nat.le_refl _) (by omega) (EN _ ?_).1 ?_ (upd_same _ _ _) ?_ ?_ hpre hfull) ?_
        ·first | omega | (dsimp only;omega)
        ·exact (upd_ne _ _ ne3).trans I.hr
        ·first | omega | (dsimp only;omega)
        ·first | omega | (dsimp only;omega)
        ·rintro v g3 ⟨L3,t3,en3,fr3⟩
         simp (disch:=omega) only[wp,qa,qb,qc,gl]
         exact ⟨_,rfl,L3,t3,en3,(EN _ (by first | omega | (dsimp only;omega))).2.trans fr3⟩
end Go.Ab
end
section
set_option linter.unusedVariables false
set_option linter.unusedSimpArgs false
namespace Go.Ab
variable {F:Funs}
theorem RfOk.congr {X:Gr} {rf rf':List Int} {co co':List (List Int)} {i:Nat} (h:RfOk (putX X rf co) i) (he:rf'.getD i 0 = rf.getD i 0):RfOk (putX X rf' co') i:=by
 unfold RfOk at h ⊢
 have e1:(putX X rf' co').rf.getD i 0 = (putX X rf co).rf.getD i 0:=he
 rw[e1]
 exact h
def cs0:Nat→List Int:=fun j => [(j:Int)]
theorem EnS.mvR {P:Gr→Prop} {Eb R:Nat} {L:List Gr} {t:Tok} {g:G} {cs:List AV} {ro:Bool} (h:EnS P Eb L t g) (hR:g.hp R = some (.cells cs ro)) (hne:Eb≠R) {hp':Nat→Option Blk} {m:Nat} (hk:∀ i,i < g.nx→i≠R→hp' i = g.hp i) (hm:g.nx≤m) (hf:∀ i,m≤i→hp' i = none):EnS P Eb L t ⟨hp',m⟩:=
 ⟨(hk _ h.lt hne).trans h.he,h.tk.mono (fun i hi => by
   rcases h.tk with h1 | ⟨i',h1,h2,h3⟩
   ·rw[hi] at h1;cases h1
   ·rw[hi] at h1;cases h1
    exact hk i h3 (fun hh => by rw[hh,hR] at h2;cases h2)) hm,h.ll,h.ok,Nat.lt_of_lt_of_le h.lt hm,hf⟩
structure RfR (P:Gr→Prop) (X:Gr) (Eb R:Nat) (rf:List Int) (i:Nat) (g g':G):Prop where
 en:∃ L t,EnS P Eb L t g'
 hr:∃ rf',g'.hp R = some (.cells (intsC rf') false)∧rf'.length = X.evs.length∧∀ j,j < i→rf'.getD j 0 = rf.getD j 0
 fr:Frm2 Eb R g g'
structure RfW (P:Gr→Prop) (X:Gr) (Eb R C B4 b:Nat) (ts:Nat→Tok) (rf:List Int) (i:Nat) (g0:G) (w:Nat) (L:List Gr) (t:Tok) (rf1:List Int) (e:Env) (g:G):Prop where
 hw:w≤X.evs.length
 e0:e 0 = .mp Eb 0
 e2:e 2 = .i .i64 ((i:Nat):Int)
 e4:e 4 = .mp B4 0
 e6:e 6 = .mp b 0
 e7:e 7 = .i .i64 ((w:Nat):Int)
 h4:g.hp B4 = some (.cells (gfC X R C) false)
 h6:g.hp b = some (.cells (evC (X.evs.getD i ev0)) false)
 hr:g.hp R = some (.cells (intsC rf1) false)
 rl:rf1.length = X.evs.length
 rp:∀ j,j < i→rf1.getD j 0 = rf.getD j 0
 hc:g.hp C = some (.cells (coC2 cs0 ts) false)
 en:EnS P Eb L t g
 fr:Frm2 Eb R g0 g
 bs:g0.nx≤B4∧g0.nx≤b∧B4 < g.nx∧b < g.nx
 rc:R < g0.nx∧C < g0.nx∧Eb < g0.nx
theorem RfW.mv {P:Gr→Prop} {X:Gr} {Eb R C B4 b:Nat} {ts:Nat→Tok} {rf:List Int} {i:Nat} {g0:G} {w:Nat} {L:List Gr} {t:Tok} {rf1:List Int} {e:Env} {g:G} (I:RfW P X Eb R C B4 b ts rf i g0 w L t rf1 e g)
  {e':Env} {hp':Nat→Option Blk} {m:Nat} (h0:e' 0 = e 0) (h2:e' 2 = e 2) (h4:e' 4 = e 4) (h6:e' 6 = e 6) (h7:e' 7 = e 7) (hk:∀ i,i < g.nx→hp' i = g.hp i) (hm:g.nx≤m) (hf:∀ i,m≤i→hp' i = none):RfW P X Eb R C B4 b ts rf i g0 w L t rf1 e' ⟨hp',m⟩:=
 have hx:=I.fr.nx
 ⟨I.hw,h0.trans I.e0,h2.trans I.e2,h4.trans I.e4,h6.trans I.e6,h7.trans I.e7,(hk _ I.bs.2.2.1).trans I.h4,(hk _ I.bs.2.2.2).trans I.h6,(hk _ (Nat.lt_of_lt_of_le I.rc.1 hx)).trans I.hr,I.rl,I.rp,(hk _ (Nat.lt_of_lt_of_le I.rc.2.1 hx)).trans I.hc,I.en.mv hk hm hf,
  ⟨Nat.le_trans I.fr.nx hm,fun i hi a b c => by show hp' i = _;rw[hk i (Nat.lt_of_lt_of_le hi I.fr.nx)];exact I.fr.keep i hi a b c⟩,⟨I.bs.1,I.bs.2.1,Nat.lt_of_lt_of_le I.bs.2.2.1 hm,Nat.lt_of_lt_of_le I.bs.2.2.2 hm⟩,I.rc⟩
theorem rp_rf (h106:F 106 = some A_xref13_E_rf) (h122:F 122 = some A_xref13_E_co) (h131:F 131 = some A_xref13_copied) {P:Gr→Prop} {X:Gr} {Eb R C:Nat} {ts:Nat→Tok} (hlocs:X.locs = 2) (hn:X.evs.length≤100) (hn2:2≤X.evs.length) (hfst:∀ w:Nat,w < 2→X.evs.getD w ev0 = wE w)
  (hP:∀ (rf:List Int) (cs:Nat→List Int),rf.length = X.evs.length→(∀ i,i < X.evs.length→RfOk (putX X rf []) i)→(∀ j,j < 2→CoPre X j (cs j)∧CoFull X j (cs j))→P (putX X rf [cs 0,cs 1])) (hne:Eb≠R∧Eb≠C∧R≠C):
  ∀ (d i:Nat) (rf:List Int) (L:List Gr) (t:Tok) (g:G),X.evs.length - i≤d→i≤X.evs.length→EnS P Eb L t g→g.hp R = some (.cells (intsC rf) false)→rf.length = X.evs.length→g.hp C = some (.cells (coC2 cs0 ts) false)→R < g.nx→C < g.nx→(∀ j,j < i→RfOk (putX X rf []) j) →
    ∃ v g',callS F 106 [.mp Eb 0,.agg (gfC X R C),.i .i64 ((i:Nat):Int)] g = some (v,g')∧RfR P X Eb R rf i g g':=by
 intro d
 induction d using Nat.strongRecOn with
 | _ d ih =>
   intro i rf L t g hd hi en hr hrl hc hR hC hok
   obtain ⟨ne1,ne2,ne3⟩:=hne
   refine raw_of (P:=fun v g' => RfR P X Eb R rf i g g') h106 ?_
   have he:=en.he
   have hEl:=en.lt
   have hgf:gfC X R C = [.i .i64 2,.sl (evsC X.evs) X.evs.length .non,.ms R 0 X.evs.length,.ms C 0 2,.sl (pairsC X.rmw) X.rmw.length .non,.sl (pairsC X.data) X.data.length .non,.sl (pairsC X.ctrl) X.ctrl.length .non,.sl (pairsC X.ctrli) X.ctrli.length .non]:=by rw[gfC,hlocs]
   have p8:∀ c1 c2 c3 c4 c5 c6 c7 c8:AV,part [c1,c2,c3,c4,c5,c6,c7,c8] 0 (some 8) = some (.agg [c1,c2,c3,c4,c5,c6,c7,c8]):=fun _ _ _ _ _ _ _ _ => rfl
   have l5:∀ y:AV,List.replicate 5 y = [y,y,y,y,y]:=fun _ => rfl
   have s6:∀ b1 b2 b3 b4 b5 b6 c1 c2 c3 c4 c5 c6:AV,splice [b1,b2,b3,b4,b5,b6] 0 [c1,c2,c3,c4,c5,c6] = [c1,c2,c3,c4,c5,c6]:=fun _ _ _ _ _ _ _ _ _ _ _ _ => rfl
   have ret0:∀ m,g.nx + 1≤m→RfR P X Eb R rf i g ⟨upd g.hp g.nx (some (.cells (gfC X R C) false)),m⟩:=fun m hm =>
    ⟨⟨L,t,en.mv (fun i hi => upd_ne _ _ (by omega)) (by omega) (fun i hi => by rw[upd_ne _ _ (by omega)];exact en.fresh i (by omega))⟩,⟨rf,(upd_ne _ _ (by omega)).trans hr,hrl,fun _ _ => rfl⟩,⟨by show g.nx≤m;omega,fun i hi _ _ _ => upd_ne _ _ (by omega)⟩⟩
   by_cases cb:20000 < L.length
   ·rw[decide_eq_true cb] at he
    rw[hgf] at ret0 ⊢
    simp (disch:=omega) only[A_xref13_E_rf,wp,qa,qb,qc,gl,he]
    exact ⟨_,rfl,ret0 _ (by omega)⟩
   ·rw[decide_eq_false cb] at he
    by_cases ci:i = X.evs.length
    ·have ci':(((i:Nat):Int) == ((X.evs.length:Nat):Int)) = true:=by rw[ci];simp
     have hpre:∀ j,j < 2→CoPre X j (cs0 j):=fun j hj => by
      refine ⟨fun v hv => ?_,by simp[cs0],[],rfl⟩
      obtain rfl:v = (j:Int):=by simpa [cs0] using hv
      refine ⟨by omega,by omega,?_⟩
      rw[Int.toNat_natCast,hfst j hj]
      simp[isWr,wE]
     have hco:=fun g1 e1 e2 e3 e4 e5 => rp_co h122 h131 (P:=P) (X:=X) (Eb:=Eb) (R:=R) (C:=C) (rf:=rf) hlocs hn hn2 (fun w hw => by rw[hfst w hw];rfl) hrl (fun cs h => hP rf cs hrl (fun j hj => hok j (by omega)) h) ⟨ne1,ne2,ne3⟩ _ 0 cs0 ts L t g1 (Nat.le_refl _) (by omega) e1 e2 e3 e4 e5 hpre (fun j hj => absurd hj (Nat.not_lt_zero j))
     rw[hgf] at hco
     simp (disch:=omega) only[A_xref13_E_rf,wp,qa,qb,qc,gl,he,ci',p8,hgf]
     refine bindO_call _ (hco _ (en.mv (fun i hi => upd_ne _ _ (by omega)) ?_ (fun i hi => ?_)) ((upd_ne _ _ (by omega)).trans hr) ((upd_ne _ _ (by omega)).trans hc) ?_ ?_) ?_
     ·first | omega | (dsimp only;omega)
     ·try dsimp only at hi
      rw[upd_ne _ _ (by omega)];exact en.fresh i (by omega)
     ·first | omega | (dsimp only;omega)
     ·first | omega | (dsimp only;omega)
     ·rintro v g2 ⟨L2,t2,en2,fr2⟩
      have fx:=fr2.nx
      dsimp only at fx
      simp (disch:=omega) only[wp,qa,qb,qc,gl]
      exact ⟨_,rfl,⟨L2,t2,en2⟩,⟨rf,fr2.cells (by first | omega | (dsimp only;omega)) (by omega) ((upd_ne _ _ (by omega)).trans hr),hrl,fun _ _ => rfl⟩,⟨by omega,fun i hi a b c => by
       have h1:upd g.hp g.nx (some (.cells [.i .i64 2,.sl (evsC X.evs) X.evs.length .non,.ms R 0 X.evs.length,.ms C 0 2,.sl (pairsC X.rmw) X.rmw.length .non,.sl (pairsC X.data) X.data.length .non,.sl (pairsC X.ctrl) X.ctrl.length .non,.sl (pairsC X.ctrli) X.ctrli.length .non] false)) i = g.hp i:=upd_ne _ _ (by omega)
       exact (fr2.keep i (by first | omega | (dsimp only;omega)) a (fun b' hb' => c b' (h1 ▸ hb'))).trans h1⟩⟩
    ·have ci':(((i:Nat):Int) == ((X.evs.length:Nat):Int)) = false:=by rw[beq_eq_false_iff_ne];omega
     have hev:=ev_part (l:=X.evs) (k:=i) (by omega)
     have hwi:=succ_wrap (k:=i) (by omega)
     have hil:(intsC rf).length = X.evs.length:=by rw[intsC_len,hrl]
     have hrec:=fun rf2 => ih (X.evs.length - (i + 1)) (by omega) (i + 1) rf2
     generalize hre:X.evs.getD i ev0 = r at hev
     by_cases ck:r.kd = 1
     ·have ck':(r.kd != 1) = false:=by simpa using ck
      rw[evC] at hev
      simp (disch:=omega) only[A_xref13_E_rf,wp,qa,qb,qc,gl,he,ci',p8,hgf,hev,l5,s6,ck']
      refine blk_end (fun e g' => ∃ L1 t1 rf1,RfW P X Eb R C g.nx (g.nx + 1 + 4 + 5 + 5) ts rf i g X.evs.length L1 t1 rf1 e g') ?_ ?_
      ·refine W_loop (fun q e g' => ∃ (w:Nat) (L1:List Gr) (t1:Tok) (rf1:List Int),q = X.evs.length - w∧RfW P X Eb R C g.nx (g.nx + 1 + 4 + 5 + 5) ts rf i g w L1 t1 rf1 e g') X.evs.length ?_ ?_
       ·refine ⟨0,L,t,rf,rfl,Nat.zero_le _,rfl,rfl,rfl,rfl,rfl,?_,?_,?_,hrl,fun _ _ => rfl,?_,en.mv (fun i2 h2 => ?_) ?_ (fun i2 h2 => ?_),⟨by first | omega | (dsimp only;omega),fun i2 h2 _ _ _ => ?_⟩,⟨by omega,by omega,by first | omega | (dsimp only;omega),by first | omega | (dsimp only;omega)⟩,⟨hR,hC,hEl⟩⟩
        ·simp (disch:=omega) only[upd_ne,upd_same];rw[hgf]
        ·rw[hre];exact upd_same _ _ _
        ·simp (disch:=omega) only[upd_ne];exact hr
        ·simp (disch:=omega) only[upd_ne];exact hc
        ·simp (disch:=omega) only[upd_ne]
        ·first | omega | (dsimp only;omega)
        ·try dsimp only at h2
         simp (disch:=omega) only[upd_ne]
         exact en.fresh i2 (by omega)
        ·simp (disch:=omega) only[upd_ne]
       ·rintro q e g1 ⟨w,L1,t1,rf1,rfl,I⟩
        have e0:=I.e0
        have e2:=I.e2
        have e4:=I.e4
        have e6:=I.e6
        have e7:=I.e7
        have h4:=I.h4
        have h6:=I.h6
        have hr1:=I.hr
        have hc1:=I.hc
        have hx1:=I.fr.nx
        obtain ⟨b1,b2,b3,b4⟩:=I.bs
        rw[hgf] at h4
        rw[hre,evC] at h6
        by_cases d1:w < X.evs.length
        ·have d1':((w:Nat):Int) < ((X.evs.length:Nat):Int):=by omega
         have hevx:=ev_part d1
         have hww:=succ_wrap (k:=w) (by omega)
         have hil1:(intsC rf1).length = X.evs.length:=by rw[intsC_len,I.rl]
         generalize hxe:X.evs.getD w ev0 = x at hevx
         rw[evC] at hevx
         have next:∀ (e':Env) (hp':Nat→Option Blk) (m:Nat),e' 0 = e 0→e' 2 = e 2→e' 4 = e 4→e' 6 = e 6→e' 7 = .i .i64 ((w + 1:Nat):Int)→(∀ i,i < g1.nx→hp' i = g1.hp i)→g1.nx≤m→(∀ i,m≤i→hp' i = none) →
           ∃ m',m' < X.evs.length - w∧∃ (w:Nat) (L1:List Gr) (t1:Tok) (rf1:List Int),m' = X.evs.length - w∧RfW P X Eb R C g.nx (g.nx + 1 + 4 + 5 + 5) ts rf i g w L1 t1 rf1 e' ⟨hp',m⟩:=fun e' hp' m a0 a2 a4 a6 a7 hk hm hf => by
          have J:=I.mv (e':=upd e' 7 (e 7)) a0 a2 a4 a6 rfl hk hm hf
          exact ⟨X.evs.length - (w + 1),by omega,w + 1,L1,t1,rf1,rfl,⟨by omega,J.e0,J.e2,J.e4,J.e6,a7,J.h4,J.h6,J.hr,J.rl,J.rp,J.hc,J.en,J.fr,J.bs,J.rc⟩⟩
         cases k1:(x.kd == 2) with
         | false =>
           simp (disch:=omega) only[wp,qa,qb,qc,gl,e0,e2,e4,e6,e7,h4,h6,d1',hevx,l5,s6,k1,hww]
           refine next _ _ _ rfl rfl rfl rfl rfl (fun i2 h2 => ?_) (by omega) (fun i2 h2 => ?_)
           ·simp (disch:=omega) only[upd_ne]
           ·simp (disch:=omega) only[upd_ne];exact I.en.fresh i2 (by omega)
         | true =>
         cases k2:(x.lc == r.lc) with
         | false =>
           simp (disch:=omega) only[wp,qa,qb,qc,gl,e0,e2,e4,e6,e7,h4,h6,d1',hevx,l5,s6,k1,k2,hww]
           refine next _ _ _ rfl rfl rfl rfl rfl (fun i2 h2 => ?_) (by omega) (fun i2 h2 => ?_)
           ·simp (disch:=omega) only[upd_ne]
           ·simp (disch:=omega) only[upd_ne];exact I.en.fresh i2 (by omega)
         | true =>
         cases k3:(x.vl == r.vl) with
         | false =>
           simp (disch:=omega) only[wp,qa,qb,qc,gl,e0,e2,e4,e6,e7,h4,h6,d1',hevx,l5,s6,k1,k2,k3,hww]
           refine next _ _ _ rfl rfl rfl rfl rfl (fun i2 h2 => ?_) (by omega) (fun i2 h2 => ?_)
           ·simp (disch:=omega) only[upd_ne]
           ·simp (disch:=omega) only[upd_ne];exact I.en.fresh i2 (by omega)
         | true =>
           have hrec:=hrec (rf1.set i (w:Int)) L1 t1
           rw[hgf] at hrec
           have hok2:∀ j,j < i + 1→RfOk (putX X (rf1.set i (w:Int)) []) j:=fun j hj => by
            by_cases hji:j = i
            ·subst hji
             have hs:(rf1.set j (w:Int)).getD j 0 = (w:Int):=by
              rw[List.getD_eq_getElem?_getD,List.getElem?_set_self (by have:=I.rl;omega)];rfl
             refine ⟨fun h => absurd ?_ h,fun _ => ?_⟩
             ·show (X.evs.getD j ev0).kd = 1
              rw[hre];exact ck
             ·show 0≤(rf1.set j (w:Int)).getD j 0∧(rf1.set j (w:Int)).getD j 0 < X.evs.length∧(X.evs.getD ((rf1.set j (w:Int)).getD j 0).toNat ev0).kd = 2∧(X.evs.getD ((rf1.set j (w:Int)).getD j 0).toNat ev0).lc = (X.evs.getD j ev0).lc∧(X.evs.getD ((rf1.set j (w:Int)).getD j 0).toNat ev0).vl = (X.evs.getD j ev0).vl
              rw[hs,Int.toNat_natCast,hxe,hre]
              exact ⟨by omega,by omega,by simpa using k1,by simpa using k2,by simpa using k3⟩
            ·exact (hok j (by omega)).congr (by rw[List.getD_eq_getElem?_getD,List.getElem?_set_ne (by omega),←List.getD_eq_getElem?_getD,I.rp j (by omega)])
           simp (disch:=omega) only[wp,qa,qb,qc,gl,e0,e2,e4,e6,e7,h4,h6,d1',hevx,l5,s6,k1,k2,k3,hr1,hil1,intsC_set,hwi,p8]
           have hR1:R < g1.nx:=by omega
           have hC1:C < g1.nx:=by omega
           refine bindO_call _ (hrec _ (Nat.le_refl _) (by omega) (I.en.mvR I.hr ne1 (fun i2 h2 h3 => ?_) ?_ (fun i2 h2 => ?_)) (upd_same _ _ _) (by rw[List.length_set,I.rl]) ?_ ?_ ?_ hok2) ?_
           ·simp (disch:=omega) only[upd_ne]
           ·first | omega | (dsimp only;omega)
           ·try dsimp only at h2
            simp (disch:=omega) only[upd_ne]
            exact I.en.fresh i2 (by omega)
           ·simp (disch:=omega) only[upd_ne];exact I.hc
           ·first | omega | (dsimp only;omega)
           ·first | omega | (dsimp only;omega)
           ·rintro v g3 ⟨⟨L3,t3,en3⟩,⟨rf3,hr3,rl3,rp3⟩,fr3⟩
            have fx:=fr3.nx
            dsimp only at fx
            have hEl1:=I.en.lt
            have k3:∀ i2,i2 < g1.nx→i2≠Eb→i2≠R→(∀ b,g1.hp i2≠some (.tok b))→g3.hp i2 = g1.hp i2:=fun i2 h2 a b c => by
             rw[fr3.keep i2 (by first | omega | (dsimp only;omega)) a b (fun b' hb' => by
              simp (disch:=omega) only[upd_ne] at hb'
              exact c b' hb')]
             simp (disch:=omega) only[upd_ne]
            have kc:∀ i2 cs ro,i2 < g1.nx→i2≠Eb→i2≠R→g1.hp i2 = some (.cells cs ro)→g3.hp i2 = some (.cells cs ro):=fun i2 cs ro h2 a b h => by
             rw[k3 i2 h2 a b (fun b' hb' => by rw[h] at hb';cases hb'),h]
            simp (disch:=omega) only[wp,qa,qb,qc,gl,e7,hww]
            refine ⟨X.evs.length - (w + 1),by omega,w + 1,L3,t3,rf3,rfl,by omega,e0,e2,e4,e6,rfl,?_,?_,hr3,rl3,fun j hj => ?_,kc C _ _ hC1 (by omega) (by omega) I.hc,en3.mv (fun i hi => rfl) (by first | omega | (dsimp only;omega)) (fun i hi => en3.fresh i (by first | omega | (dsimp only at hi;omega))),⟨by first | omega | (dsimp only;omega),fun i2 h2 a b c => ?_⟩,⟨by omega,by omega,by first | omega | (dsimp only;omega),by first | omega | (dsimp only;omega)⟩,⟨hR,hC,hEl⟩⟩
            ·exact kc _ _ _ b3 (by omega) (by omega) I.h4
            ·exact kc _ _ _ b4 (by omega) (by omega) I.h6
            ·rw[rp3 j (by omega),List.getD_eq_getElem?_getD,List.getElem?_set_ne (by omega),←List.getD_eq_getElem?_getD,I.rp j hj]
            ·have h1:=I.fr.keep i2 h2 a b c
             exact (k3 i2 (by omega) a b (fun b' hb' => c b' (h1 ▸ hb'))).trans h1
        ·have d1':¬ ((w:Nat):Int) < ((X.evs.length:Nat):Int):=by omega
         obtain rfl:w = X.evs.length:=by have:=I.hw;omega
         simp (disch:=omega) only[wp,qa,qb,qc,gl,e0,e2,e4,e6,e7,h4,d1']
         exact ⟨L1,t1,rf1,I.mv rfl rfl rfl rfl rfl (fun i hi => rfl) (by first | omega | (dsimp only;omega)) (fun i hi => I.en.fresh i (by first | omega | (dsimp only at hi;omega)))⟩
      ·rintro e g1 ⟨L1,t1,rf1,I⟩
       simp (disch:=omega) only[wp,qa,qb,qc,gl]
       exact ⟨_,rfl,⟨L1,t1,I.en⟩,⟨rf1,I.hr,I.rl,I.rp⟩,I.fr⟩
     ·have ck':(r.kd != 1) = true:=by simpa using ck
      have hrec:=hrec (rf.set i (-1)) L t
      rw[hgf] at hrec
      have hok2:∀ j,j < i + 1→RfOk (putX X (rf.set i (-1)) []) j:=fun j hj => by
       by_cases hji:j = i
       ·subst hji
        refine ⟨fun _ => ?_,fun h => absurd h ?_⟩
        ·show (rf.set j (-1)).getD j 0 = -1
         rw[List.getD_eq_getElem?_getD,List.getElem?_set_self (by omega)];rfl
        ·show ¬ (X.evs.getD j ev0).kd = 1
         rw[hre];exact ck
       ·exact (hok j (by omega)).congr (by rw[List.getD_eq_getElem?_getD,List.getD_eq_getElem?_getD,List.getElem?_set_ne (by omega)])
      rw[evC] at hev
      simp (disch:=omega) only[A_xref13_E_rf,wp,qa,qb,qc,gl,he,ci',p8,hgf,hev,l5,s6,ck',hr,hil,intsC_set,hwi]
      refine bindO_call _ (hrec _ (Nat.le_refl _) (by omega) (EnS.mv (g:=⟨upd g.hp R (some (.cells (intsC (rf.set i (-1))) false)),g.nx⟩) ⟨(upd_ne _ _ ne1).trans en.he,en.tk.mono (fun i2 h2 => upd_ne _ _ (fun hh => by
        rcases en.tk with h | ⟨i',h,h1,h3⟩
        ·rw[h] at h2;cases h2
        ·rw[h] at h2;cases h2;rw[hh,hr] at h1;cases h1)) (Nat.le_refl _),en.ll,en.ok,hEl,fun i2 h2 => (upd_ne _ _ (by dsimp only at h2;omega)).trans (en.fresh i2 h2)⟩ (fun i2 h2 => ?_) ?_ (fun i2 h2 => ?_)) (upd_same _ _ _) (by rw[List.length_set,hrl]) ?_ ?_ ?_ hok2) ?_
      ·dsimp only at h2
       by_cases hh:i2 = R
       ·subst hh;simp (disch:=omega) only[upd_same]
       ·simp (disch:=omega) only[upd_ne]
      ·first | omega | (dsimp only;omega)
      ·try dsimp only at h2
       simp (disch:=omega) only[upd_ne]
       exact en.fresh i2 (by omega)
      ·simp (disch:=omega) only[upd_ne];exact hc
      ·first | omega | (dsimp only;omega)
      ·first | omega | (dsimp only;omega)
      ·rintro v g2 ⟨⟨L2,t2,en2⟩,⟨rf2,hr2,rl2,rp2⟩,fr2⟩
       have fx:=fr2.nx
       dsimp only at fx
       simp (disch:=omega) only[wp,qa,qb,qc,gl]
       refine ⟨_,rfl,⟨L2,t2,en2⟩,⟨rf2,hr2,rl2,fun j hj => (rp2 j (by omega)).trans (by rw[List.getD_eq_getElem?_getD,List.getD_eq_getElem?_getD,List.getElem?_set_ne (by omega)])⟩,⟨by omega,fun i2 h2 a b c => ?_⟩⟩
       rw[fr2.keep i2 (by first | omega | (dsimp only;omega)) a b (fun b' hb' => by
        simp (disch:=omega) only[upd_ne] at hb'
        exact c b' hb')]
       simp (disch:=omega) only[upd_ne]
end Go.Ab
end
section
set_option linter.unusedVariables false
set_option linter.unusedSimpArgs false
namespace Go.Ab
variable {F:Funs}
structure GrP (X Y:Gr):Prop where
 is:∃ (rf:List Int) (cs:Nat→List Int),Y = putX X rf [cs 0,cs 1]∧rf.length = X.evs.length∧(∀ i,i < X.evs.length→RfOk (putX X rf []) i)∧∀ j,j < 2→CoPre X j (cs j)∧CoFull X j (cs j)
def coFn (i:Nat):List AV:=[if 0 < i then .sl [.i .i64 0] 1 .rig else .sl [] 0 .rig,if 1 < i then .sl [.i .i64 1] 1 .rig else .sl [] 0 .rig]
theorem flat_rep (n:Nat):(List.replicate n [AV.i .i64 0]).flatten = intsC (List.replicate n 0):=by
 induction n with
 | zero => rfl
 | succ n ih => rw[List.replicate_succ,List.flatten_cons,ih,List.replicate_succ];rfl
structure FnI (X:Gr) (B3 R C Eb:Nat) (i:Nat) (e:Env) (g0 g:G):Prop where
 hi:i≤2
 e0:e 0 = .mp Eb 0
 e3:e 3 = .mp B3 0
 e4:e 4 = .i .i64 ((i:Nat):Int)
 h3:g.hp B3 = some (.cells (gfC X R C) false)
 hr:g.hp R = some (.cells (intsC (List.replicate X.evs.length 0)) false)
 hc:g.hp C = some (.cells (coFn i) false)
 ol:∀ i,i < g0.nx→g.hp i = g0.hp i
 lt:g0.nx≤B3∧g0.nx≤R∧g0.nx≤C∧B3 < g.nx∧R < g.nx∧C < g.nx∧B3≠C∧R≠C
 fresh:∀ i,g.nx≤i→g.hp i = none
 nx:g0.nx≤g.nx
theorem rp_finish (h91:F 91 = some A_xref13_E_Finish) (h106:F 106 = some A_xref13_E_rf) (h122:F 122 = some A_xref13_E_co) (h131:F 131 = some A_xref13_copied) {P:Gr→Prop} {X:Gr} {Eb:Nat} {L:List Gr} {t:Tok} {g:G}
  (hlocs:X.locs = 2) (hrf:X.rf = []) (hco:X.co = []) (hn:X.evs.length≤100) (hn2:2≤X.evs.length) (hfst:∀ w:Nat,w < 2→X.evs.getD w ev0 = wE w) (hP:∀ Y,GrP X Y→P Y) (en:EnS P Eb L t g):
  ∃ v g',callS F 91 [.mp Eb 0,.agg (grC X)] g = some (v,g')∧CoP P Eb g g':=by
 refine raw_of (P:=fun v g' => CoP P Eb g g') h91 ?_
 have hEl:=en.lt
 have hgr:grC X = [.i .i64 2,.sl (evsC X.evs) X.evs.length .non,.sl [] 0 .non,.sl [] 0 .non,.sl (pairsC X.rmw) X.rmw.length .non,.sl (pairsC X.data) X.data.length .non,.sl (pairsC X.ctrl) X.ctrl.length .non,.sl (pairsC X.ctrli) X.ctrli.length .non]:=by rw[grC,hlocs,hrf,hco];rfl
 have hgf:∀ R C,gfC X R C = [.i .i64 2,.sl (evsC X.evs) X.evs.length .non,.ms R 0 X.evs.length,.ms C 0 2,.sl (pairsC X.rmw) X.rmw.length .non,.sl (pairsC X.data) X.data.length .non,.sl (pairsC X.ctrl) X.ctrl.length .non,.sl (pairsC X.ctrli) X.ctrli.length .non]:=fun R C => by rw[gfC,hlocs]
 have p8:∀ c1 c2 c3 c4 c5 c6 c7 c8:AV,part [c1,c2,c3,c4,c5,c6,c7,c8] 0 (some 8) = some (.agg [c1,c2,c3,c4,c5,c6,c7,c8]):=fun _ _ _ _ _ _ _ _ => rfl
 have mk2:∀ (id:Nat) (g:G),vMksl id [.sl [] 0 .rig] 1 24 (.i .i64 2) (.i .i64 2) g = some (.ms id 0 2,⟨upd g.hp id (some (.cells [.sl [] 0 .rig,.sl [] 0 .rig] false)),g.nx⟩):=fun id g => by
  have:=vMksl_ms (id:=id) (z:=[.sl [] 0 .rig]) (b:=24) (n:=2) (g:=g) (by omega) (by omega) (by omega) rfl
  exact this
 have mk1:∀ (id:Nat) (g:G),vMksl id [.i .i64 0] 1 8 (.i .i64 ((X.evs.length:Nat):Int)) (.i .i64 ((X.evs.length:Nat):Int)) g = some (.ms id 0 X.evs.length,⟨upd g.hp id (some (.cells (intsC (List.replicate X.evs.length 0)) false)),g.nx⟩):=fun id g => by
  have:=vMksl_ms (id:=id) (z:=[.i .i64 0]) (b:=8) (n:=X.evs.length) (g:=g) (by omega) (by omega) (by omega) rfl
  rw[flat_rep] at this
  exact this
 rw[hgr]
 simp (disch:=omega) only[A_xref13_E_Finish,wp,qa,qb,qc,gl,o_mksl,mk1,mk2]
 refine blk_cut (fun e g' => FnI X g.nx (g.nx + 1 + 3) (g.nx + 1 + 6 + 2) Eb 2 e g g') ?_ ?_
 ·refine W_loop (fun q e g' => ∃ i:Nat,q = 2 - i∧FnI X g.nx (g.nx + 1 + 3) (g.nx + 1 + 6 + 2) Eb i e g g') 2 ?_ ?_
  ·refine ⟨0,rfl,by omega,rfl,rfl,rfl,?_,?_,?_,fun i hi => ?_,⟨by omega,by omega,by omega,by first | omega | (dsimp only;omega),by first | omega | (dsimp only;omega),by first | omega | (dsimp only;omega),by omega,by omega⟩,fun i hi => ?_,by first | omega | (dsimp only;omega)⟩
   ·simp (disch:=omega) only[upd_ne,upd_same];rw[hgf]
   ·simp (disch:=omega) only[upd_ne,upd_same]
   ·simp (disch:=omega) only[upd_ne,upd_same];rfl
   ·simp (disch:=omega) only[upd_ne]
   ·try dsimp only at hi
    simp (disch:=omega) only[upd_ne]
    exact en.fresh i (by omega)
  ·rintro q e g1 ⟨i,rfl,hi,e0,e3,e4,h3,hr,hc,ol,⟨l1,l2,l3,l4,l5,l6,l7,l8⟩,fresh,hx⟩
   rw[hgf] at h3
   have hwi:=succ_wrap (k:=i) (by omega)
   by_cases d1:i < 2
   ·have d1':((i:Nat):Int) < 2:=by omega
    have hset:(coFn i).length = 2∧(coFn i).set (i * 1) (.sl [.i .i64 ((i:Nat):Int)] 1 .rig) = coFn (i + 1):=by
     have:i = 0∨i = 1:=by omega
     rcases this with rfl | rfl<;>exact ⟨rfl,rfl⟩
    obtain ⟨hcl,hset⟩:=hset
    simp (disch:=omega) only[wp,qa,qb,qc,gl,e0,e3,e4,h3,hc,d1',hcl,hset,hwi]
    refine ⟨2 - (i + 1),by omega,i + 1,rfl,by omega,e0,e3,rfl,?_,?_,upd_same _ _ _,fun j hj => ?_,⟨l1,l2,l3,by first | omega | (dsimp only;omega),by first | omega | (dsimp only;omega),by first | omega | (dsimp only;omega),l7,l8⟩,fun j hj => ?_,by first | omega | (dsimp only;omega)⟩
    ·rw[hgf];exact (upd_ne _ _ l7).trans h3
    ·exact (upd_ne _ _ l8).trans hr
    ·exact (upd_ne _ _ (by omega)).trans (ol j hj)
    ·try dsimp only at hj
     exact (upd_ne _ _ (by omega)).trans (fresh j (by omega))
   ·have d1':¬ ((i:Nat):Int) < 2:=by omega
    obtain rfl:i = 2:=by omega
    simp (disch:=omega) only[wp,qa,qb,qc,gl,e0,e3,e4,h3,d1']
    exact ⟨Nat.le_refl _,e0,e3,e4,by rw[hgf];exact h3,hr,hc,ol,⟨l1,l2,l3,by first | omega | (dsimp only;omega),by first | omega | (dsimp only;omega),by first | omega | (dsimp only;omega),l7,l8⟩,fun j hj => fresh j (by first | omega | (dsimp only at hj;omega)),by first | omega | (dsimp only;omega)⟩
 ·rintro e g1 ⟨_,e0,e3,e4,h3,hr,hc,ol,⟨l1,l2,l3,l4,l5,l6,l7,l8⟩,fresh,hx⟩
  have hrun:=fun g2 a1 a2 a3 a4 a5 => rp_rf h106 h122 h131 (P:=P) (X:=X) (Eb:=Eb) (R:=g.nx + 1 + 3) (C:=g.nx + 1 + 6 + 2) (ts:=fun _ => .rig) hlocs hn hn2 hfst (fun rf cs h1 h2 h3 => hP _ ⟨rf,cs,rfl,h1,h2,h3⟩) ⟨by omega,by omega,by omega⟩ X.evs.length 0 (List.replicate X.evs.length 0) L t g2 (by omega) (by omega) a1 a2 (by simp) a3 a4 a5 (fun j hj => absurd hj (Nat.not_lt_zero j))
  rw[hgf] at h3 hrun
  simp (disch:=omega) only[wp,qa,qb,qc,gl,e0,e3,h3,p8]
  refine bindO_call _ (hrun _ (en.mv ol ?_ (fun i hi => ?_)) hr hc ?_ ?_) ?_
  ·first | omega | (dsimp only;omega)
  ·exact fresh i (by first | omega | (dsimp only at hi;omega))
  ·first | omega | (dsimp only;omega)
  ·first | omega | (dsimp only;omega)
  ·rintro v g3 ⟨⟨L3,t3,en3⟩,_,fr3⟩
   have fx:=fr3.nx
   dsimp only at fx
   simp (disch:=omega) only[wp,qa,qb,qc,gl]
   exact ⟨_,rfl,L3,t3,en3,⟨by omega,fun i hi hb ht => by
    have h1:=ol i hi
    exact (fr3.keep i (by first | omega | (dsimp only;omega)) hb (by omega) (fun b hb' => ht b (h1 ▸ hb'))).trans h1⟩⟩
end Go.Ab
end
section
set_option linter.unusedVariables false
set_option linter.unusedSimpArgs false
namespace Go.Ab
variable {F:Funs}
structure EnF (F:Funs):Prop where
 ch:ChF F
 run:RunF F
 skel:F 90 = some A_xref07_Skeleton
 first:F 103 = some A_xref07_First
 lay:F 105 = some A_xref07_Lay
 moved:F 121 = some A_xref07_moved
 all:F 78 = some A_xref13_All
 vals:F 88 = some A_xref13_Values
 lots:F 89 = some A_xref13_Lots
 fin:F 91 = some A_xref13_E_Finish
 vrec:F 101 = some A_xref13_values
 dom:F 102 = some A_xref13_Domain
 rf:F 106 = some A_xref13_E_rf
 co:F 122 = some A_xref13_E_co
 cop:F 131 = some A_xref13_copied
def PgG (ths:List (List Ins)) (dom:List Int) (Y:Gr):Prop:=∃ lots,LotOk ths lots∧(∀ i,i < ths.length→∀ x∈lots.getD i [],x∈domF dom)∧GrP (skX ths lots ths.length) Y
structure AlI (ths:List (List Ins)) (dom:List Int) (k:Nat) (all:List (List (List Int))) (t:Tok) (e:Env) (g:G):Prop where
 hk:k≤ths.length
 e1:e 1 = .sl (intsC dom) dom.length .non
 e2:e 2 = .mp 0 0
 e6:e 6 = .sl (ccC all) k t
 e7:e 7 = .i .i64 ((k:Nat):Int)
 h0:g.hp 0 = some (.cells [.i .i64 2,.sl (thsC ths) ths.length .non] false)
 tk:TkOk 1 g t
 al:all.length = k
 ok:∀ j,j < k→(∀ h∈all.getD j [],VlOk (ths.getD j []) (domF dom) h)∧(all.getD j []).length≤20001
 nx:0 < g.nx
 fresh:∀ i,g.nx≤i→g.hp i = none
theorem skX_two {ths lots} (hk:∀ i,i < ths.length→ThK (ths.getD i [])) {i:Nat} (hi:i≤ths.length):2≤(skX ths lots i).evs.length∧∀ w:Nat,w < 2→(skX ths lots i).evs.getD w ev0 = wE w:=by
 obtain ⟨rest,h2,_⟩:=(skX_inv (lots:=lots) hk i hi).1.two
 rw[h2]
 refine ⟨by simp,fun w hw => ?_⟩
 have:w = 0∨w = 1:=by omega
 rcases this with rfl | rfl<;>rfl
structure AlJ (ths:List (List Ins)) (dom:List Int) (ls:List (List (List Int))) (Eb i:Nat) (L:List Gr) (t:Tok) (e:Env) (g:G):Prop where
 hi:i≤ls.length
 e2:e 2 = .mp 0 0
 e8:e 8 = .mp Eb 0
 e9:e 9 = .sl (ccC ls) ls.length .non
 e10:e 10 = .i .i64 ((i:Nat):Int)
 h0:g.hp 0 = some (.cells [.i .i64 2,.sl (thsC ths) ths.length .non] false)
 en:EnS (PgG ths dom) Eb L t g
 ne:0 < Eb
theorem sp13_all (A:EnF F) {ths:List (List Ins)} {K:Nat} (PK:PgK ths K) (dom:List Int) (hd:dom.length≤1000000):
  ∃ (L:List Gr) (c:Int),pureS F 78 [.agg [.i .i64 2,.sl (thsC ths) ths.length .non],.sl (intsC dom) dom.length .non] = some (.tup [.sl (gsC L) L.length .non,.i .i64 c])∧(∀ Y∈L,PgG ths dom Y)∧L.length≤20001:=by
 have key:∃ v,pureS F 78 [.agg [.i .i64 2,.sl (thsC ths) ths.length .non],.sl (intsC dom) dom.length .non] = some v∧∃ (L:List Gr) (c:Int),v = .tup [.sl (gsC L) L.length .non,.i .i64 c]∧(∀ Y∈L,PgG ths dom Y)∧L.length≤20001:=by
  refine pureV_of A.all ?_
  have hck:=sp4_check A.ch PK
  have h4:=PK.four
  have f2:∀ hp,frz hp depth (.agg [.i .i64 2,.sl (thsC ths) ths.length .non]) = some (.agg [.i .i64 2,.sl (thsC ths) ths.length .non]):=fun hp => by
   refine frz_d_agg ?_
   show frzL _ (7 + 1) _ = _
   simp only[frzL,frz]
  have v2:∀ hp,vis hp depth (.agg [.i .i64 2,.sl (thsC ths) ths.length .non]) = []:=fun hp => by
   show vis hp (8 + 1) _ = _
   simp only[vis,List.flatMap_cons,List.flatMap_nil]
   rfl
  have l7:∀ x:AV,List.replicate 7 x = [x,x,x,x,x,x,x]:=fun _ => rfl
  have s8:∀ b1 b2 b3 b4 b5 b6 b7 b8 c1 c2 c3 c4 c5 c6 c7 c8:AV,splice [b1,b2,b3,b4,b5,b6,b7,b8] 0 [c1,c2,c3,c4,c5,c6,c7,c8] = [c1,c2,c3,c4,c5,c6,c7,c8]:=fun _ _ _ _ _ _ _ _ _ _ _ _ _ _ _ _ => rfl
  have p8:∀ c1 c2 c3 c4 c5 c6 c7 c8:AV,part [c1,c2,c3,c4,c5,c6,c7,c8] 0 (some 8) = some (.agg [c1,c2,c3,c4,c5,c6,c7,c8]):=fun _ _ _ _ _ _ _ _ => rfl
  simp (disch:=omega) only[A_xref13_All,wp,qa,qb,qc,gl,l7,hck,f2,Int.reduceBNe]
  refine blk_cut (fun e g => ∃ all t,AlI ths dom ths.length all t e g) ?_ ?_
  ·refine W_loop (fun q e g => ∃ (k:Nat) (all:List (List (List Int))) (t:Tok),q = ths.length - k∧AlI ths dom k all t e g) ths.length ?_ ?_
   ·refine ⟨0,[],.rig,rfl,Nat.zero_le _,rfl,rfl,rfl,rfl,rfl,.inl rfl,rfl,fun j hj => absurd hj (Nat.not_lt_zero j),by first | omega | (dsimp only;omega),fun i hi => ?_⟩
    try dsimp only at hi
    simp (disch:=omega) only[upd_ne]
   ·rintro q e g ⟨k,all,t,rfl,hk,e1,e2,e6,e7,h0,tk,al,ok,hx,fresh⟩
    by_cases c1:k < ths.length
    ·have c1':((k:Nat):Int) < ((ths.length:Nat):Int):=by omega
     have hth:=th_at c1
     have hwk:=succ_wrap (k:=k) (by omega)
     obtain ⟨V,hv,hvo,hvl⟩:=sp13_values A.ch A.run A.vals A.vrec A.dom (PK.th k c1) dom hd
     have hcl:(ccC all).length = k * 1:=by rw[ccC_len,al,Nat.mul_one]
     simp (disch:=omega) only[wp,qa,qb,qc,gl,e1,e2,e6,e7,h0,c1',hth,hv]
     refine bindO_app (esz:=1) (tk.mono (fun i hi => rfl) (by first | omega | (dsimp only;omega))) (fun i hi => allow_no _ _ _) ⟨by omega,by omega,hcl,rfl⟩ ?_
     intro t2 hp2 ar2
     have h02:hp2 0 = some (.cells [.i .i64 2,.sl (thsC ths) ths.length .non] false):=by
      rw[ar2.keep 0 (by omega) (fun e h => by
       rcases tk with h4 | ⟨i',h4,h5,h6⟩
       ·rw[h4] at h;cases h
       ·rw[h4] at h;cases h;rw[h0] at h5;cases h5)]
      exact h0
     simp (disch:=omega) only[wp,qa,qb,qc,gl,e7,hwk]
     refine ⟨ths.length - (k + 1),by omega,k + 1,all ++ [V],t2,rfl,by omega,e1,e2,?_,rfl,h02,ar2.ok (by first | omega | (dsimp only;omega)),by simp[al],fun j hj => ?_,by first | omega | (dsimp only;omega),fun i hi => ?_⟩
     ·show AV.sl _ _ _ = _
      rw[ccC_app];rfl
     ·by_cases hjk:j = k
      ·subst hjk
       have:(all ++ [V]).getD j [] = V:=by rw[List.getD_eq_getElem?_getD,List.getElem?_append_right (by omega),al,Nat.sub_self];rfl
       rw[this]
       exact ⟨hvo,hvl⟩
      ·have:(all ++ [V]).getD j [] = all.getD j []:=by rw[List.getD_eq_getElem?_getD,List.getElem?_append_left (by omega),←List.getD_eq_getElem?_getD]
       rw[this]
       exact ok j (by omega)
     ·try dsimp only at hi
      show hp2 i = none
      rw[ar2.keep i (by omega) (fun e h => by
       rcases tk with h4 | ⟨i',h4,h5,h6⟩
       ·rw[h4] at h;cases h
       ·rw[h4] at h;cases h;omega)]
      exact fresh i (by omega)
    ·have c1':¬ ((k:Nat):Int) < ((ths.length:Nat):Int):=by omega
     obtain rfl:k = ths.length:=by omega
     simp (disch:=omega) only[wp,qa,qb,qc,gl,e1,e2,e6,e7,h0,c1']
     exact ⟨all,t,hk,e1,e2,e6,e7,h0,tk.mono (fun i hi => rfl) (by first | omega | (dsimp only;omega)),al,ok,by first | omega | (dsimp only;omega),fun i hi => fresh i (by first | omega | (dsimp only at hi;omega))⟩
  ·rintro e g ⟨all,t,_,e1,e2,e6,e7,h0,tk,al,ok,hx,fresh⟩
   obtain ⟨ls,hlots,hlo,hll⟩:=sp13_lots A.lots all (by omega) (fun L hL => by
    obtain ⟨j,hj,rfl⟩:=List.mem_iff_getElem.1 hL
    have:=(ok j (by omega)).2
    rw[List.getD_eq_getElem?_getD,List.getElem?_eq_getElem hj] at this
    simp only[Option.getD_some] at this
    omega)
   rw[al] at hlots hlo
   have hlt:∀ lot∈ls,LotOk ths lot∧(∀ i,i < ths.length→∀ x∈lot.getD i [],x∈domF dom):=fun lot hl => ⟨⟨(hlo lot hl).len,fun i hi => ((ok i hi).1 _ ((hlo lot hl).mem i hi)).ok⟩,fun i hi => ((ok i hi).1 _ ((hlo lot hl).mem i hi)).dom⟩
   simp (disch:=omega) only[wp,qa,qb,qc,gl,e6,hlots]
   refine blk_cut (fun e g' => ∃ L t,AlJ ths dom ls (g.nx + 1) ls.length L t e g') ?_ ?_
   ·refine W_loop (fun q e g' => ∃ (i:Nat) (L:List Gr) (t:Tok),q = ls.length - i∧AlJ ths dom ls (g.nx + 1) i L t e g') ls.length ?_ ?_
    ·refine ⟨0,[],.rig,rfl,Nat.zero_le _,e2,rfl,rfl,rfl,?_,⟨?_,.inl rfl,by simp,fun Y hY => absurd hY (List.not_mem_nil),by first | omega | (dsimp only;omega),fun i hi => ?_⟩,by omega⟩
     ·simp (disch:=omega) only[upd_ne];exact h0
     ·simp (disch:=omega) only[upd_same];rfl
     ·try dsimp only at hi
      simp (disch:=omega) only[upd_ne]
      exact fresh i (by omega)
    ·rintro q e g1 ⟨i,L,t1,rfl,hi,e2,e8,e9,e10,h0,en,ne⟩
     have hEl:=en.lt
     by_cases d1:i < ls.length
     ·have d1':((i:Nat):Int) < ((ls.length:Nat):Int):=by omega
      have hwi:=succ_wrap (k:=i) (by omega)
      have hlp:=cc_part d1
      obtain ⟨hlot,hdm⟩:=hlt _ (getD_mem (d:=[]) d1)
      generalize ls.getD i [] = lot at hlp hlot hdm
      have hsk:=sp7_skel A.ch A.run A.skel A.first A.lay A.moved PK hlot
      obtain ⟨inv,hil,hrf,hco⟩:=skX_inv (lots:=lot) PK.th ths.length (Nat.le_refl _)
      obtain ⟨hn2,hfst⟩:=skX_two (lots:=lot) PK.th (Nat.le_refl _)
      have hPg:∀ Y,GrP (skX ths lot ths.length) Y→PgG ths dom Y:=fun Y hY => ⟨lot,hlot,hdm,hY⟩
      have hfn:=fun g2 a => rp_finish A.fin A.rf A.co A.cop (P:=PgG ths dom) (X:=skX ths lot ths.length) (Eb:=g.nx + 1) (L:=L) (t:=t1) (g:=g2) inv.locs hrf hco (by omega) hn2 hfst hPg a
      generalize skX ths lot ths.length = X at hsk hfn
      rw[grC] at hsk hfn
      simp (disch:=omega) only[wp,qa,qb,qc,gl,e2,e8,e9,e10,h0,d1',hlp,f2,v2,hsk,l7,s8,p8,List.getElem?_cons_zero,List.getElem?_cons_succ]
      refine bindO_call _ (hfn _ (en.mv (fun i hi => ?_) ?_ (fun i hi => ?_))) ?_
      ·simp (disch:=omega) only[upd_ne]
      ·first | omega | (dsimp only;omega)
      ·try dsimp only at hi
       simp (disch:=omega) only[upd_ne]
       exact en.fresh i (by omega)
      ·rintro v g3 ⟨L3,t3,en3,fr3⟩
       have h03:=fr3.cells (i:=0) (by first | omega | (dsimp only;omega)) (by omega) (by simp (disch:=omega) only[upd_ne];exact h0)
       simp (disch:=omega) only[wp,qa,qb,qc,gl,e10,hwi]
       exact ⟨ls.length - (i + 1),by omega,i + 1,L3,t3,rfl,by omega,e2,e8,e9,rfl,h03,en3.mv (fun i hi => rfl) (by first | omega | (dsimp only;omega)) (fun i hi => en3.fresh i (by first | omega | (dsimp only at hi;omega))),ne⟩
     ·have d1':¬ ((i:Nat):Int) < ((ls.length:Nat):Int):=by omega
      obtain rfl:i = ls.length:=by omega
      simp (disch:=omega) only[wp,qa,qb,qc,gl,e9,e10,d1']
      exact ⟨L,t1,hi,e2,e8,e9,e10,h0,en.mv (fun i hi => rfl) (by first | omega | (dsimp only;omega)) (fun i hi => en.fresh i (by first | omega | (dsimp only at hi;omega))),ne⟩
   ·rintro e g1 ⟨L,t1,_,e2,e8,e9,e10,h0,en,ne⟩
    have he:=en.he
    by_cases cb:20000 < L.length
    ·rw[decide_eq_true cb] at he
     simp (disch:=omega) only[wp,qa,qb,qc,gl,e8,he]
     refine ⟨.tup [.sl [] 0 .non,.i .i64 4],?_,[],4,rfl,fun Y hY => absurd hY (List.not_mem_nil),by simp⟩
     rw[retQ_ret,res_2]
     show frz _ (8 + 1) (.tup [.sl [] 0 .rig,.i .i64 4]) = _
     simp only[frz,frzL]
     rfl
    ·rw[decide_eq_false cb] at he
     simp (disch:=omega) only[wp,qa,qb,qc,gl,e8,he]
     refine ⟨.tup [.sl (gsC L) L.length .non,.i .i64 0],?_,L,0,rfl,en.ok,en.ll⟩
     rw[retQ_ret,res_2]
     show frz _ (8 + 1) (.tup [.sl (gsC L) L.length t1,.i .i64 0]) = _
     simp only[frz,frzL]
     rfl
 obtain ⟨v,h1,L,c,rfl,h2,h3⟩:=key
 exact ⟨L,c,h1,h2,h3⟩
end Go.Ab
end
