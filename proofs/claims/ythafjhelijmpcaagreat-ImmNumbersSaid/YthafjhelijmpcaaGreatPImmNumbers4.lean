/- What ImmNumbers rests on, part 4: lemmas, no claim of its own. -/
import Derived.Test.YthafjhelijmpcaaGreatPImmNumbers3
set_option maxRecDepth 100000
set_option maxHeartbeats 16000000
open Nat renaming reduceAdd → qa, reduceMul → qb, reduceSub → qc
section
set_option linter.unusedVariables false
set_option linter.unusedSimpArgs false
namespace Go.Ab
variable {F:Funs}
def thsC (ths:List (List Ins)):List AV:=ths.map fun th => .sl (insLC th) th.length .non
structure PgEnd (B:Nat) (hp0:Nat→Option Blk) (l:List Int) (T most:Nat) (cs:List AV) (e:Env) (g:G):Prop where
 e6:e 6 = .mp B 0
 h0:g.hp B = some (.cells [.i .i64 2,.ms (B + 2) 0 T] false)
 h2:g.hp (B + 2) = some (.cells cs false)
 nx:B + 4 < g.nx
 len:cs.length = T
 fr:∀ i,i < B→g.hp i = hp0 i
 ok:CsOk l T T most cs
theorem set_same {cs:List AV} {t:Nat} {v:AV} (h:cs[t]? = some v):cs.set t v = cs:=by
 refine List.ext_getElem? fun j => ?_
 by_cases hj:t = j
 ·subst hj
  rw[List.getElem?_set_self (List.getElem?_eq_some_iff.1 h).1,h]
 ·rw[List.getElem?_set_ne hj]
theorem pg_walk (S:ProgF F) {l:List Int} {T most:Nat} (hT:1≤T) (hT8:T≤8) (hm:most≤16) (hl:(l.length:Int)≤9223372036854775807) {g:G} {Q:Out→Env→G→Prop} (hQ:∀ e g' cs,PgEnd g.nx g.hp l T most cs e g'→Q .ret e g'):W F A_xlaw00_Prog.body (argEnv [.sl (intsC l) l.length .non,.i .i64 (T:Nat),.i .i64 (most:Nat)]) g Q:=by
 have hmk:=fun id g => vMksl_ms (id:=id) (z:=[AV.sl [] 0 .rig]) (b:=24) (n:=T) (g:=g) hT (by omega) (by omega) rfl
 simp (disch:=omega) only[A_xlaw00_Prog,wp,qa,qb,qc,gl,o_mksl,hmk,Nat.add_assoc]
 refine blk_cut (fun e g' => ∃ cs,PgSt g.nx g.hp l T most T cs e g'∧CsOk l T T most cs) ?_ ?_
 ·refine W_loop (fun q e g' => ∃ (t:Nat) (cs:List AV),q = T - t∧t≤T∧PgSt g.nx g.hp l T most t cs e g'∧CsOk l T t most cs) T ?_ ?_
  ·refine ⟨0,(List.replicate T [AV.sl [] 0 .rig]).flatten,rfl,Nat.zero_le _,⟨?_,?_,?_,?_,?_,?_,?_,?_,?_,by first | omega | (dsimp only;omega),by simp,fun i hi => ?_⟩,fun j hj => ?_⟩
   ·simp (disch:=omega) only[wp,qa,qb,qc]
   ·simp (disch:=omega) only[wp,qa,qb,qc]
   ·simp (disch:=omega) only[wp,qa,qb,qc]
   ·simp (disch:=omega) only[wp,qa,qb,qc]
   ·simp (disch:=omega) only[wp,qa,qb,qc]
   ·simp (disch:=omega) only[wp,qa,qb,qc];rfl
   ·simp (disch:=omega) only[wp,qa,qb,qc]
   ·simp (disch:=omega) only[wp,qa,qb,qc]
   ·simp (disch:=omega) only[wp,qa,qb,qc]
   ·simp (disch:=omega) only[wp,qa,qb,qc]
   ·rw[if_neg (by omega)]
    have hf:(List.replicate T [AV.sl [] 0 Tok.rig]).flatten = List.replicate T (AV.sl [] 0 .rig):=by simp[List.flatten_replicate_singleton]
    rw[hf,List.getElem?_replicate,if_pos hj]
  ·rintro q e g' ⟨t,cs,rfl,htT,St,hcs⟩
   have St0:=St
   obtain ⟨e0,e1,e2,e6,e7,e8,h0,h4,h2,hnx,hlen,hfr⟩:=St
   by_cases ht:t < T
   ·have ht':(t:Int) < T:=by omega
    simp (disch:=omega) only[wp,qa,qb,qc,gl,e1,e8,ht']
    refine blk_cut (fun e g' => ∃ n:Nat,PgSt g.nx g.hp l T most t cs e g'∧e 9 = .i .i64 (n:Nat)∧e 10 = .i .i64 0∧n≤most∧∀ k,k < n→t + k * T < l.length) ?_ ?_
    ·refine pg_count hT hT8 hm hl ht (B:=g.nx) (hp0:=g.hp) (cs:=cs) (g:=⟨g'.hp,g'.nx + 3 + 2 + 2⟩) ⟨?_,?_,?_,?_,?_,?_,h0,h4,h2,?_,hlen,hfr⟩ ?_ ?_ ?_ _ rfl (fun e g h => h)
     all_goals first | (simp (disch:=omega) only[wp,qa,qb,qc,e0,e1,e2,e6,e7,e8];done) | omega | (dsimp only;omega)
    ·rintro e g1 ⟨n,⟨e0,e1,e2,e6,e7,e8,h0,h4,h2,hnx,hlen,hfr⟩,e9,e10,hn,hall⟩
     simp (disch:=omega) only[wp,qa,qb,qc,gl]
     have hct:cs[t]? = some (.sl [] 0 .rig):=by have:=hcs t ht;rwa [if_neg (by omega)] at this
     refine blk_end (fun e g' => ∃ th tok,PgSt g.nx g.hp l T most t (cs.set t (.sl (insLC th) n tok)) e g'∧th.length = n∧ThrOk l T t most th) ?_ ?_
     ·show W F (.loop pgC) _ _ _
      refine pg_thread S hT hT8 hm hl ht hn hall hlen (B:=g.nx) (hp0:=g.hp) (g:=⟨g1.hp,g1.nx + 1⟩) ⟨⟨?_,?_,?_,?_,?_,?_,h0,h4,?_,?_,by rw[List.length_set];exact hlen,hfr⟩,?_,?_,rfl,.inl ⟨rfl,rfl⟩,⟨fun k hk => by simp at hk⟩⟩ ?_ (fun e g ⟨th,tok,a,b,c⟩ => ⟨th,tok,b,a,c⟩)
      ·simp (disch:=omega) only[wp,qa,qb,qc,e0]
      ·simp (disch:=omega) only[wp,qa,qb,qc,e1]
      ·simp (disch:=omega) only[wp,qa,qb,qc,e2]
      ·simp (disch:=omega) only[wp,qa,qb,qc,e6]
      ·simp (disch:=omega) only[wp,qa,qb,qc,e7]
      ·simp (disch:=omega) only[wp,qa,qb,qc,e8]
      ·rw[show insLC [] = [] from rfl,set_same hct];exact h2
      ·first | omega | (dsimp only;omega)
      ·simp (disch:=omega) only[wp,qa,qb,qc,e9]
      ·simp (disch:=omega) only[wp,qa,qb,qc];rfl
      ·simp (disch:=omega) only[wp,qa,qb,qc,e10]
     ·rintro e g2 ⟨th,tok,⟨e0,e1,e2,e6,e7,e8,h0,h4,h2,hnx,hlen2,hfr⟩,hthn,hth⟩
      have hwt:=succ_wrap (k:=t) (by omega)
      simp (disch:=omega) only[wp,qa,qb,qc,gl,e8,hwt]
      refine ⟨T - (t + 1),by omega,t + 1,cs.set t (.sl (insLC th) n tok),rfl,by omega,⟨?_,?_,?_,?_,?_,?_,h0,h4,h2,by first | omega | (dsimp only;omega),hlen2,hfr⟩,fun j hj => ?_⟩
      ·simp (disch:=omega) only[wp,qa,qb,qc,e0]
      ·simp (disch:=omega) only[wp,qa,qb,qc,e1]
      ·simp (disch:=omega) only[wp,qa,qb,qc,e2]
      ·simp (disch:=omega) only[wp,qa,qb,qc,e6]
      ·simp (disch:=omega) only[wp,qa,qb,qc,e7]
      ·simp (disch:=omega) only[wp,qa,qb,qc]
      ·by_cases hjt:j = t
       ·subst hjt
        rw[if_pos (by omega)]
        exact ⟨th,tok,by rw[List.getElem?_set_self (by omega),hthn],hth⟩
       ·have:=hcs j hj
        by_cases hj2:j < t
        ·rw[if_pos hj2] at this
         rw[if_pos (by omega),List.getElem?_set_ne (by omega)]
         exact this
        ·rw[if_neg hj2] at this
         rw[if_neg (by omega),List.getElem?_set_ne (by omega)]
         exact this
   ·have ht':¬ (t:Int) < T:=by omega
    obtain rfl:t = T:=by omega
    simp (disch:=omega) only[wp,qa,qb,qc,gl,e1,e8,ht']
    refine ⟨cs,⟨?_,?_,?_,?_,?_,?_,h0,h4,h2,by first | omega | (dsimp only;omega),hlen,hfr⟩,hcs⟩
    all_goals simp (disch:=omega) only[wp,qa,qb,qc,e0,e1,e2,e6,e7,e8]
 ·rintro e g1 ⟨cs,⟨e0,e1,e2,e6,e7,e8,h0,h4,h2,hnx,hlen,hfr⟩,hcs⟩
  simp (disch:=omega) only[wp,qa,qb,qc,gl,e6,e7,h0,h4,part_ag2]
  refine hQ _ _ cs ⟨?_,?_,?_,by first | omega | (dsimp only;omega),hlen,fun i hi => ?_,hcs⟩
  ·simp (disch:=omega) only[wp,qa,qb,qc,e6]
  ·simp (disch:=omega) only[wp,qa,qb,qc]
  ·simp (disch:=omega) only[wp,qa,qb,qc,h2]
  ·simp (disch:=omega) only[wp,qa,qb,qc,hfr i hi]
theorem list_of {P:Nat→List Ins→Prop}:∀ (cs:List AV),(∀ j,j < cs.length→∃ th tok,cs[j]? = some (.sl (insLC th) th.length tok)∧P j th)→∃ ths:List (List Ins),ths.length = cs.length∧∀ j,j < cs.length→(∃ tok,cs[j]? = some (.sl (insLC (ths.getD j [])) (ths.getD j []).length tok))∧P j (ths.getD j []):=by
 intro cs
 induction cs generalizing P with
 | nil => intro _;exact ⟨[],rfl,fun j hj => by simp at hj⟩
 | cons c cs ih =>
   intro h
   obtain ⟨th,tok,h1,h2⟩:=h 0 (by simp)
   obtain ⟨ths,h3,h4⟩:=ih (P:=fun j => P (j + 1)) (fun j hj => by simpa using h (j + 1) (by simpa using hj))
   refine ⟨th :: ths,by simp[h3],fun j hj => ?_⟩
   cases j with
   | zero => exact ⟨⟨tok,by simpa using h1⟩,by simpa using h2⟩
   | succ j => simpa using h4 j (by simpa using hj)
theorem frzL_ths {hp:Nat→Option Blk} {k:Nat}:∀ {cs:List AV} {ths:List (List Ins)},ths.length = cs.length→(∀ j,j < cs.length→∃ tok,cs[j]? = some (.sl (insLC (ths.getD j [])) (ths.getD j []).length tok))→frzL hp (k + 1) cs = some (thsC ths)
 | [],[],_,_ => by simp[frzL,thsC]
 | c :: cs,th :: ths,hl,h => by
   obtain ⟨tok,h1⟩:=h 0 (by simp)
   have ih:=frzL_ths (hp:=hp) (k:=k) (cs:=cs) (ths:=ths) (by simpa using hl) (fun j hj => by simpa using h (j + 1) (by simpa using hj))
   have h1:c = .sl (insLC th) th.length tok:=by simpa using h1
   subst h1
   simp only[frzL,frz,ih]
   rfl
theorem sp_prog (S:ProgF F) (h86:F 86 = some A_xlaw00_Prog) {l:List Int} {T most:Nat} (hT:1≤T) (hT8:T≤8) (hm:most≤16) (hl:(l.length:Int)≤9223372036854775807):∃ ths:List (List Ins),pureS F 86 [.sl (intsC l) l.length .non,.i .i64 (T:Nat),.i .i64 (most:Nat)] = some (.agg [.i .i64 2,.sl (thsC ths) T .non])∧ths.length = T∧∀ t,t < T→ThrOk l T t most (ths.getD t []):=by
 obtain ⟨v,h1,ths,rfl,h2,h3⟩:=pureV_of (P:=fun v => ∃ ths:List (List Ins),v = .agg [.i .i64 2,.sl (thsC ths) T .non]∧ths.length = T∧∀ t,t < T→ThrOk l T t most (ths.getD t [])) h86 (pg_walk S hT hT8 hm hl (g:=g0) fun e g' cs ⟨e6,h0,h2,hnx,hlen,hfr,hok⟩ => by
  obtain ⟨ths,a1,a2⟩:=list_of (P:=fun j th => ThrOk l T j most th) cs (fun j hj => by
   have:=hok j (by omega)
   rw[if_pos (by omega)] at this
   exact this)
  refine ⟨_,?_,ths,rfl,by omega,fun t ht => (a2 t (by omega)).2⟩
  show (match resE [.cell 6 (some 2)] e g' with | some v0 => frz g'.hp depth v0 | none => none) = _
  rw[res_cell,e6]
  simp only[resC,h0,part_ag2]
  refine frz_d_agg ?_
  show frzL _ (7 + 1) _ = _
  simp only[frzL,frz,h2,List.drop_zero,frzL_ths (k:=6) (by omega) (fun j hj => (a2 j hj).1)]
  rfl)
 exact ⟨ths,h1,h2,h3⟩
end Go.Ab
end
section
set_option linter.unusedVariables false
set_option linter.unusedSimpArgs false
namespace Go.Ab
def ExOk (ex:List (Int × Int)):Prop:=∃ a b m:Int,0≤a∧a < 3∧0≤b∧b < 3∧0≤m∧m < 10∧ex = exM a b m
theorem exN_ok (v:Int):ExOk (exN v):=by
 obtain ⟨p0,p1⟩:=place_lt (v:=v) (n:=1073741824) (by omega)
 exact ⟨_,_,_,by omega,by omega,by omega,by omega,by omega,by omega,rfl⟩
inductive InsK (left:Int):Ins→Prop
 | ld (md rg lc:Int) (h1:md = 0∨md = 1) (h2:rg = 0∨rg = 1∨rg = 2) (h3:lc = 0∨lc = 1):InsK left ⟨1,md,0,rg,lc,[],0⟩
 | st (md lc:Int) (ex:List (Int × Int)) (h1:md = 0∨md = 2) (h3:lc = 0∨lc = 1) (he:ExOk ex):InsK left ⟨2,md,0,0,lc,ex,0⟩
 | fe (md:Int) (h1:md = 1∨md = 2∨md = 3∨md = 4):InsK left ⟨3,md,0,0,0,[],0⟩
 | fa (md md2 rg lc c:Int) (h1:md = 0∨md = 1) (h4:md2 = 0∨md2 = 2) (h2:rg = 0∨rg = 1∨rg = 2) (h3:lc = 0∨lc = 1) (h5:c = 0∨c = 1):InsK left ⟨4,md,md2,rg,lc,[(1,c)],0⟩
 | se (rg:Int) (ex:List (Int × Int)) (h2:rg = 0∨rg = 1∨rg = 2) (he:ExOk ex):InsK left ⟨5,0,0,rg,0,ex,0⟩
 | sk (ex:List (Int × Int)) (n:Int) (he:ExOk ex) (h0:0≤n) (h1:n≤left):InsK left ⟨6,0,0,0,0,ex,n⟩
theorem acq_01 (w:Int):acqM w = 0∨acqM w = 1:=by unfold acqM;split<;>omega
theorem rel_02 (w:Int):relM w = 0∨relM w = 2:=by unfold relM;split<;>omega
theorem insN_k {v left:Int} (h:0≤left):InsK left (insN v left):=by
 obtain ⟨p0,p1⟩:=place_lt (v:=v) (n:=1099511627776) (by omega)
 unfold insN
 generalize place v 1099511627776 = k at p0 p1
 have w0:0≤k / 20:=by omega
 generalize k / 20 = w at w0
 generalize k % 20 = t
 unfold insT
 split
 ·exact .ld _ _ _ (acq_01 w) (by omega) (by omega)
 split
 ·exact .st _ _ _ (rel_02 w) (by omega) (exN_ok _)
 split
 ·exact .fe _ (by omega)
 split
 ·exact .fa _ _ _ _ _ (acq_01 w) (rel_02 w) (by omega) (by omega) (by omega)
 split
 ·exact .se _ _ (by omega) (exN_ok _)
 ·have h1:=Int.emod_nonneg (w / 19) (by omega:left + 1≠0)
  have h2:=Int.emod_lt_of_pos (w / 19) (by omega:0 < left + 1)
  exact .sk _ _ (exN_ok _) h1 (by omega)
theorem fence_k (left:Int):InsK left fence0:=.fe 4 (by omega)
theorem PreOk.k {l:List Int} {T t n:Nat} {pre:List Ins} (h:PreOk l T t n pre) {k:Nat} (hk:k < pre.length):InsK ((n - 1 - k:Nat):Int) (pre.getD k fence0):=by
 rcases h.ins k hk with ⟨v,h1⟩ | h1
 ·rw[h1];exact insN_k (by omega)
 ·rw[h1];exact fence_k _
end Go.Ab
end
section
set_option linter.unusedVariables false
set_option linter.unusedSimpArgs false
namespace Go.Ab
theorem insLC_drop:∀ {l:List Ins} {k:Nat} (h:k < l.length),(insLC l).drop (k * 7) = insC (l.getD k fence0) ++ insLC (l.drop (k + 1))
 | x :: l,0,_ => by simp[insLC]
 | x :: l,k + 1,h => by
   have:=insLC_drop (l:=l) (k:=k) (by simpa using h)
   simp only[List.getD_cons_succ,List.drop_succ_cons]
   rw[←this]
   simp[insLC,Nat.succ_mul,insC]
theorem ins_at {l:List Ins} {k:Nat} (h:k < l.length):part ((insLC l).drop (k * 7)) 0 (some 7) = some (.agg (insC (l.getD k fence0))):=by
 rw[insLC_drop h]
 show (if 0 + 7≤(insC (l.getD k fence0) ++ insLC (l.drop (k + 1))).length then _ else none) = _
 rw[if_pos (by rw[List.length_append,insC_len];omega)]
 rfl
theorem th_at {l:List (List Ins)} {k:Nat} (h:k < l.length):part ((thsC l).drop (k * 1)) 0 none = some (.sl (insLC (l.getD k [])) (l.getD k []).length .non):=by
 simp only[part,Nat.mul_one,thsC]
 rw[List.getElem?_drop,Nat.add_zero,List.getElem?_map,List.getD_eq_getElem?_getD]
 cases hz:l[k]? with
 | none => rw[List.getElem?_eq_none_iff] at hz;omega
 | some x => rfl
theorem skips_take {l:List Ins} {k:Nat} (h:k < l.length):skips (l.take (k + 1)) = skips (l.take k) + (if (l.getD k fence0).kd = 6 then 1 else 0):=by
 rw[List.take_add_one,List.getD_eq_getElem?_getD]
 cases hz:l[k]? with
 | none => rw[List.getElem?_eq_none_iff] at hz;omega
 | some x => simpa using skips_snoc (l.take k) x
theorem skips_le (l:List Ins) (k:Nat):skips (l.take k)≤skips l:=by
 unfold skips
 exact List.Sublist.countP_le (List.take_sublist k l)
structure ThK (th:List Ins):Prop where
 len:th.length≤12
 ins:∀ k,k < th.length→InsK ((th.length - 1 - k:Nat):Int) (th.getD k fence0)
 sk:skips th≤2
theorem ThrOk.k {l:List Int} {T t most:Nat} {th:List Ins} (h:ThrOk l T t most th) (hm:most≤12):ThK th:=
 ⟨Nat.le_trans h.most hm,fun k hk => h.pre.k hk,h.sk⟩
end Go.Ab
end
section
set_option linter.unusedVariables false
set_option linter.unusedSimpArgs false
namespace Go.Ab
variable {F:Funs}
theorem evs_drop:∀ {l:List Ev} {k:Nat} (h:k < l.length),(evsC l).drop (k * 6) = evC (l.getD k ev0) ++ evsC (l.drop (k + 1))
 | p :: l,0,_ => by simp[evsC]
 | p :: l,k + 1,h => by
   have:=evs_drop (l:=l) (k:=k) (by simpa using h)
   simp only[List.getD_cons_succ,List.drop_succ_cons]
   rw[←this]
   simp[evsC,Nat.succ_mul,evC]
theorem ev_th_at:∀ {l:List Ev} {k:Nat} (h:k < l.length),part ((evsC l).drop (k * 6)) 0 none = some (.i .i64 (l.getD k ev0).th)
 | p :: l,0,_ => by simp[evsC,part,evC]
 | p :: l,k + 1,h => by
   have:=ev_th_at (l:=l) (k:=k) (by simpa using h)
   simp only[List.getD_cons_succ]
   rw[←this]
   simp[evsC,Nat.succ_mul,evC]
theorem ev_kd_at {l:List Ev} {k:Nat} (h:k < l.length):part (((evsC l).drop (k * 6)).drop 1) 0 none = some (.i .i64 (l.getD k ev0).kd):=by
 rw[evs_drop h];rfl
theorem ev_lc_at {l:List Ev} {k:Nat} (h:k < l.length):part (((evsC l).drop (k * 6)).drop 3) 0 none = some (.i .i64 (l.getD k ev0).lc):=by
 rw[evs_drop h];rfl
theorem ev_vl_at {l:List Ev} {k:Nat} (h:k < l.length):part (((evsC l).drop (k * 6)).drop 4) 0 none = some (.i .i64 (l.getD k ev0).vl):=by
 rw[evs_drop h];rfl
theorem ev_ex_at {l:List Ev} {k:Nat} (h:k < l.length):part (((evsC l).drop (k * 6)).drop 5) 0 none = some (.b (l.getD k ev0).ex):=by
 rw[evs_drop h];rfl
structure FewG (X:Gr):Prop where
 evs:X.evs.length≤50
 rf:X.rf.length≤60
 co:X.co.length≤6
 cos:∀ c∈X.co,c.length≤50
 rmw:X.rmw.length≤50
 data:X.data.length≤300
 ctrl:X.ctrl.length≤300
 ctrli:X.ctrli.length≤300
theorem FewG.few {X:Gr} (h:FewG X):Few X:=⟨by have:=h.evs;omega,h.co,fun c hc => by have:=h.cos c hc;omega⟩
end Go.Ab
end
section
set_option linter.unusedVariables false
set_option linter.unusedSimpArgs false
namespace Go.Ab
variable {F:Funs}
def EvOk (locs i:Int) (p e:Ev):Prop:=
 (i < locs→e.th = 0∧e.kd = 2∧e.md = 0∧e.lc = i∧e.vl = 0∧e.ex = false) ∧
 (¬ i < locs→1≤e.th∧e.th≤4∧p.th≤e.th∧((e.kd = 1∧0≤e.lc∧e.lc < locs∧(e.md = 0∨e.md = 1))∨(e.kd = 2∧0≤e.lc∧e.lc < locs∧(e.md = 0∨e.md = 2))∨(e.kd = 3∧1≤e.md∧e.md≤4∧e.lc = 0∧e.vl = 0∧e.ex = false)))
end Go.Ab
end
section
set_option linter.unusedVariables false
set_option linter.unusedSimpArgs false
namespace Go.Ab
variable {F:Funs}
def RfOk (X:Gr) (i:Nat):Prop:=((X.evs.getD i ev0).kd≠1→X.rf.getD i 0 = -1) ∧
 ((X.evs.getD i ev0).kd = 1→0≤X.rf.getD i 0∧X.rf.getD i 0 < X.evs.length∧(X.evs.getD (X.rf.getD i 0).toNat ev0).kd = 2∧(X.evs.getD (X.rf.getD i 0).toNat ev0).lc = (X.evs.getD i ev0).lc∧(X.evs.getD (X.rf.getD i 0).toNat ev0).vl = (X.evs.getD i ev0).vl)
def isWr (loc:Int) (e:Ev):Bool:=e.kd == 2 && e.lc == loc
def cntW (X:Gr) (loc:Int) (k:Nat):Nat:=((X.evs.take k).filter (isWr loc)).length
theorem cntW_succ {X:Gr} {loc:Int} {k:Nat} (h:k < X.evs.length):cntW X loc (k + 1) = if isWr loc (X.evs.getD k ev0) then cntW X loc k + 1 else cntW X loc k:=by
 unfold cntW
 rw[List.take_add_one,List.filter_append,List.getElem?_eq_getElem h,List.getD_eq_getElem?_getD,List.getElem?_eq_getElem h,List.length_append]
 simp only[Option.toList,Option.getD_some,List.filter_cons,List.filter_nil]
 split<;>simp_all
theorem cntW_le (X:Gr) (loc:Int) (k:Nat):cntW X loc k≤k:=by
 unfold cntW
 have h1:=List.length_filter_le (isWr loc) (X.evs.take k)
 rw[List.length_take] at h1;omega
structure CoOk (X:Gr) (loc:Nat):Prop where
 wr:∀ i,i < (X.co.getD loc []).length→0≤(X.co.getD loc []).getD i 0∧(X.co.getD loc []).getD i 0 < X.evs.length∧(X.evs.getD ((X.co.getD loc []).getD i 0).toNat ev0).kd = 2∧(X.evs.getD ((X.co.getD loc []).getD i 0).toNat ev0).lc = loc
 ne:∀ i,i < (X.co.getD loc []).length→∀ k,k < i→(X.co.getD loc []).getD k 0≠(X.co.getD loc []).getD i 0
 len:(X.co.getD loc []).length = cntW X loc X.evs.length
 pos:0 < (X.co.getD loc []).length
 hd:(X.co.getD loc []).getD 0 0 = loc
end Go.Ab
end
section
set_option linter.unusedVariables false
set_option linter.unusedSimpArgs false
namespace Go.Ab
abbrev Mx:=Nat→Nat→Bool
def matR (M:Mx):List AV:=(List.range 1600).map fun i => .b (M (i / 40) (i % 40))
def matC (n:Nat) (M:Mx):List AV:=.i .i64 n :: matR M
theorem matR_len (M:Mx):(matR M).length = 1600:=by simp[matR]
theorem matC_len (n:Nat) (M:Mx):(matC n M).length = 1601:=by simp[matC,matR_len]
theorem matR_get {M:Mx} {a b:Nat} (ha:a < 40) (hb:b < 40):(matR M)[a * 40 + b]? = some (.b (M a b)):=by
 have h:a * 40 + b < 1600:=by omega
 simp only[matR,List.getElem?_map,List.getElem?_range h,Option.map_some]
 rw[show (a * 40 + b) / 40 = a by omega,show (a * 40 + b) % 40 = b by omega]
theorem matC_n (n:Nat) (M:Mx):part (matC n M) 0 none = some (.i .i64 n):=rfl
theorem matC_drop1 (n:Nat) (M:Mx):(matC n M).drop 1 = matR M:=rfl
theorem matC_at {n:Nat} {M:Mx} {a b:Nat} (h:a < 40∧b < 40):part (matC n M) (0 + 1 + a * 40 + b * 1) none = some (.b (M a b)):=by
 rw[show 0 + 1 + a * 40 + b * 1 = (a * 40 + b) + 1 by omega]
 simp only[part,matC,List.getElem?_cons_succ,matR_get h.1 h.2]
theorem matR_at {M:Mx} {a b:Nat} (h:a < 40∧b < 40):part (((matR M).drop (a * 40)).drop (b * 1)) 0 none = some (.b (M a b)):=by
 simp only[part,List.getElem?_drop,Nat.mul_one,Nat.add_zero,matR_get h.1 h.2]
def upd2 (M:Mx) (a b:Nat) (x:Bool):Mx:=fun i j => if i = a∧j = b then x else M i j
theorem matC_set {n:Nat} {M:Mx} {a b:Nat} {x:Bool} (h:a < 40∧b < 40):(matC n M).set (0 + 1 + a * 40 + b * 1) (.b x) = matC n (upd2 M a b x):=by
 rw[show 0 + 1 + a * 40 + b * 1 = (a * 40 + b) + 1 by omega]
 simp only[matC,List.set_cons_succ]
 refine congrArg (List.cons _) ?_
 refine List.ext_getElem? fun i => ?_
 rw[List.getElem?_set,matR_len]
 by_cases hi:i < 1600
 ·have e1:(matR M)[i]? = some (.b (M (i / 40) (i % 40))):=by simp[matR,hi]
  have e2:(matR (upd2 M a b x))[i]? = some (.b (upd2 M a b x (i / 40) (i % 40))):=by simp[matR,hi]
  rw[e1,e2]
  by_cases hab:a * 40 + b = i
  ·rw[if_pos hab,if_pos (by omega)]
   unfold upd2
   rw[if_pos (by omega)]
  ·rw[if_neg hab]
   unfold upd2
   rw[if_neg (by omega)]
 ·have e1:(matR M)[i]? = none:=by rw[List.getElem?_eq_none];rw[matR_len];omega
  have e2:(matR (upd2 M a b x))[i]? = none:=by rw[List.getElem?_eq_none];rw[matR_len];omega
  rw[e1,e2,if_neg (by omega)]
theorem matC_flat (n:Nat) (M:Mx):(matC n M).all flat = true:=by simp[matC,matR,flat]
theorem matC_one (n:Nat) (M:Mx):(matC n M).all one = true:=by simp[matC,matR,one]
theorem matR_one (M:Mx):(matR M).all one = true:=by simp[matR,one]
theorem part_matR (M:Mx):part (matR M) 0 (some 1600) = some (.agg (matR M)):=by
 simp[part,matR_len]
 rw[List.take_of_length_le (by rw[matR_len];omega)]
theorem splice_mat (n:Nat) (M M':Mx):splice (matC n M) 1 (matR M') = matC n M':=by
 have h:∀ (vs:List AV) (a:AV) (cs:List AV),2≤vs.length→vs.length = cs.length→splice (a :: cs) 1 vs = a :: vs:=by
  intro vs a cs h2 h
  match vs,h2 with
  | u :: v :: vs,_ =>
    show List.take 1 (a :: cs) ++ (u :: v :: vs) ++ List.drop (1 + (u :: v :: vs).length) (a :: cs) = _
    rw[List.drop_eq_nil_of_le (by simp at h ⊢;omega)]
    simp
 exact h _ _ _ (by rw[matR_len];omega) (by rw[matR_len,matR_len])
theorem zero_mat (n:Nat):AV.i .i64 n :: List.replicate 1600 (.b false) = matC n (fun _ _ => false):=by
 unfold matC matR
 refine congrArg (List.cons _) ?_
 refine List.ext_getElem? fun i => ?_
 by_cases hi:i < 1600
 ·rw[List.getElem?_replicate,if_pos hi,List.getElem?_map,List.getElem?_range hi];rfl
 ·rw[List.getElem?_eq_none (by rw[List.length_replicate];omega),List.getElem?_eq_none (by rw[List.length_map,List.length_range];omega)]
theorem ml:type_of% (And.intro (And.intro (And.intro @matC_n (And.intro @matC_at @matR_at)) (And.intro (And.intro @matC_drop1 @matC_len) (And.intro @matR_len @matC_one))) (And.intro (And.intro (And.intro @matR_one @matC_flat) (And.intro @part_matR @splice_mat)) (And.intro (And.intro @matC_set @retT_nrm) (And.intro @retT_ret @o_thaw)))):=(And.intro (And.intro (And.intro @matC_n (And.intro @matC_at @matR_at)) (And.intro (And.intro @matC_drop1 @matC_len) (And.intro @matR_len @matC_one))) (And.intro (And.intro (And.intro @matR_one @matC_flat) (And.intro @part_matR @splice_mat)) (And.intro (And.intro @matC_set @retT_nrm) (And.intro @retT_ret @o_thaw))))
end Go.Ab
end
section
set_option linter.unusedVariables false
set_option linter.unusedSimpArgs false
namespace Go.Ab
variable {F:Funs}
theorem pairs_a:∀ {l:List (Int × Int)} {k:Nat} (h:k < l.length),part ((pairsC l).drop (k * 2)) 0 none = some (.i .i64 (l.getD k (0,0)).1)
 | p :: l,0,_ => by simp[pairsC,part]
 | p :: l,k + 1,h => by
   have:=pairs_a (l:=l) (k:=k) (by simpa using h)
   simp only[List.getD_cons_succ]
   rw[←this]
   simp[pairsC,Nat.succ_mul]
theorem pairs_b:∀ {l:List (Int × Int)} {k:Nat} (h:k < l.length),part (((pairsC l).drop (k * 2)).drop 1) 0 none = some (.i .i64 (l.getD k (0,0)).2)
 | p :: l,0,_ => by simp[pairsC,part]
 | p :: l,k + 1,h => by
   have:=pairs_b (l:=l) (k:=k) (by simpa using h)
   simp only[List.getD_cons_succ]
   rw[←this]
   simp[pairsC,Nat.succ_mul]
def addM (n:Nat) (M:Mx) (p:Int × Int):Mx:=if inR n p then upd2 M p.1.toNat p.2.toNat true else M
def newM (n:Nat) (l:List (Int × Int)):Mx:=l.foldl (addM n) (fun _ _ => false)
theorem newM_take {n:Nat} {l:List (Int × Int)} {k:Nat} (h:k < l.length):newM n (l.take (k + 1)) = addM n (newM n (l.take k)) (l.getD k (0,0)):=by
 unfold newM
 rw[List.take_add_one,List.foldl_append,List.getElem?_eq_getElem h,List.getD_eq_getElem?_getD,List.getElem?_eq_getElem h]
 rfl
theorem new_W (n:Int) (l:List (Int × Int)) (t:Tok) (hlen:l.length < 9000000000000000000):W F A_xref01_New.body (argEnv [.i .i64 n,.sl (pairsC l) l.length t]) g0 (retT A_xref01_New.res (matC (clamp n) (newM (clamp n) l))):=by
 have c1:(if (40:Int) < (if n < 0 then (0:Int) else n) then (40:Int) else (if n < 0 then (0:Int) else n)) = clamp n:=by unfold clamp;split<;>split<;>omega
 have hcl:=clamp_le n
 simp (disch:=omega) only[A_xref01_New,wp,qa,qb,qc,c1,List.all_append,List.all_replicate,zero_mat,ml]
 generalize clamp n = N at hcl
 refine W_loop (fun m e g => ∃ k,m = l.length - k∧k≤l.length∧e 1 = .sl (pairsC l) l.length t∧e 6 = .i .i64 k∧e 5 = .mp 5 0∧g.hp 5 = some (.cells (matC N (newM N (l.take k))) false)∧5 < g.nx) l.length ?_ ?_
 ·refine ⟨0,rfl,Nat.zero_le _,?_⟩
  simp (disch:=omega) only[wp,qa,qb,qc]
  exact ⟨rfl,rfl,by omega⟩
 ·rintro m e g ⟨k,rfl,hk,h1,h6,h5,hg,hn⟩
  by_cases hk':k < l.length
  ·have hk1:(k:Int) < l.length:=by omega
   have hpa:=pairs_a hk'
   have hpb:=pairs_b hk'
   have hw:=succ_wrap (k:=k) (by omega)
   have ht:=newM_take (n:=N) hk'
   generalize l.getD k (0,0) = p at hpa hpb ht
   obtain ⟨a,b⟩:=p
   by_cases i1:0≤a
   ·by_cases i2:0≤b
    ·by_cases i3:a < N
     ·by_cases i4:b < N
      ·have hset:=matC_set (n:=N) (M:=newM N (l.take k)) (a:=a.toNat) (b:=b.toNat) (x:=true) (by omega)
       simp (disch:=omega) only[wp,qa,qb,qc,h1,h5,h6,hk1,hpa,hpb,hg,i1,i2,i3,i4,hw,ml,List.length_drop,pairsC_len,hset]
       refine ⟨_,?_,k + 1,rfl,by omega,rfl,?_,by first | omega | (dsimp only;omega)⟩
       ·omega
       ·rw[ht];simp[addM,inR,i1,i2,i3,i4]
      ·simp (disch:=omega) only[wp,qa,qb,qc,h1,h5,h6,hk1,hpa,hpb,hg,i1,i2,i3,i4,hw,ml,List.length_drop,pairsC_len]
       refine ⟨_,?_,k + 1,rfl,by omega,rfl,?_,by first | omega | (dsimp only;omega)⟩
       ·omega
       ·rw[ht];simp[addM,inR,i4]
     ·simp (disch:=omega) only[wp,qa,qb,qc,h1,h5,h6,hk1,hpa,hpb,hg,i1,i2,i3,hw,ml,List.length_drop,pairsC_len]
      refine ⟨_,?_,k + 1,rfl,by omega,rfl,?_,by first | omega | (dsimp only;omega)⟩
      ·omega
      ·rw[ht];simp[addM,inR,i3]
    ·simp (disch:=omega) only[wp,qa,qb,qc,h1,h5,h6,hk1,hpa,hpb,hg,i1,i2,hw,ml,List.length_drop,pairsC_len]
     refine ⟨_,?_,k + 1,rfl,by omega,rfl,?_,by first | omega | (dsimp only;omega)⟩
     ·omega
     ·rw[ht];simp[addM,inR,i2]
   ·simp (disch:=omega) only[wp,qa,qb,qc,h1,h5,h6,hk1,hpa,hpb,hg,i1,hw,ml,List.length_drop,pairsC_len]
    refine ⟨_,?_,k + 1,rfl,by omega,rfl,?_,by first | omega | (dsimp only;omega)⟩
    ·omega
    ·rw[ht];simp[addM,inR,i1]
  ·obtain rfl:k = l.length:=by omega
   have hk1:¬ ((l.length:Int) < l.length):=by omega
   simp (disch:=omega) only[wp,qa,qb,qc,h1,h5,h6,hk1,hg,retT_ret,List.take_length]
   exact ⟨5,rfl,hg.trans (by rw[List.take_length])⟩
theorem sp_newM (h27:F 27 = some A_xref01_New) (n:Int) (l:List (Int × Int)) (t:Tok) (hlen:l.length < 9000000000000000000):pureS F 27 [.i .i64 n,.sl (pairsC l) l.length t] = some (.ptr (matC (clamp n) (newM (clamp n) l))):=
 pure_of_thaw h27 (matC_flat _ _) (new_W n l t hlen)
theorem sp_newT (h27:F 27 = some A_xref01_New) {n:Nat} (hn:n≤40) (t:Tok):thawS F 27 [.i .i64 n,.sl [] 0 t] = some (matC n fun _ _ => false):=by
 have:=thaw_of h27 (matC_flat _ _) (new_W (F:=F) (n:Int) [] t (by simp))
 rw[show clamp (n:Int) = n by unfold clamp;omega] at this
 exact this
end Go.Ab
end
section
set_option linter.unusedVariables false
set_option linter.unusedSimpArgs false
namespace Go.Ab
variable {F:Funs}
def lessP (p q:Int × Int):Prop:=p.1 < q.1∨(p.1 = q.1∧p.2 < q.2)
def Rising (l:List (Int × Int)):Prop:=∀ i,i + 1 < l.length→lessP (l.getD i (0,0)) (l.getD (i + 1) (0,0))
def DepOk (X:Gr) (p:Int × Int):Prop:=0≤p.1∧p.1 < p.2∧p.2 < X.evs.length∧(X.evs.getD p.1.toNat ev0).kd = 1∧(X.evs.getD p.1.toNat ev0).th = (X.evs.getD p.2.toNat ev0).th
def DepsOk (X:Gr) (l:List (Int × Int)):Prop:=(∀ i,i < l.length→DepOk X (l.getD i (0,0)))∧Rising l
end Go.Ab
end
section
set_option linter.unusedVariables false
set_option linter.unusedSimpArgs false
namespace Go.Ab
variable {F:Funs}
def cntC (f:Nat→Nat):List AV:=(List.range 40).map fun i => .i .i64 (f i)
theorem cntC_len (f):(cntC f).length = 40:=by simp[cntC]
theorem cnt_zero:List.replicate 40 (AV.i .i64 0) = cntC (fun _ => 0):=by rfl
theorem cnt_at {f:Nat→Nat} {a:Nat} (h:a < 40):part (cntC f) (a * 1) none = some (.i .i64 (f a)):=by
 simp only[part,cntC,Nat.mul_one,List.getElem?_map,List.getElem?_range h,Option.map_some]
theorem cnt_set {f:Nat→Nat} {a n:Nat} (h:a < 40):(cntC f).set (a * 1) (.i .i64 (n:Int)) = cntC (upd f a n):=by
 rw[Nat.mul_one]
 refine List.ext_getElem? fun i => ?_
 rw[List.getElem?_set]
 unfold cntC
 by_cases hi:i < 40
 ·by_cases ha:a = i
  ·subst ha
   simp[hi,upd]
  ·have:i≠a:=fun h => ha h.symm
   simp[hi,ha,upd,this]
 ·by_cases ha:a = i
  ·omega
  ·simp[hi,ha]
def inB (i:Nat) (p:Int × Int):Bool:=p.1 == (i:Int) || p.2 == (i:Int)
def inC (l:List (Int × Int)) (i:Nat):Nat:=(l.filter (inB i)).length
theorem inC_take {l:List (Int × Int)} {k:Nat} (h:k < l.length) (i:Nat):inC (l.take (k + 1)) i = inC (l.take k) i + if inB i (l.getD k (0,0)) then 1 else 0:=by
 unfold inC
 rw[List.take_add_one,List.filter_append,List.getElem?_eq_getElem h,List.getD_eq_getElem?_getD,List.getElem?_eq_getElem h,List.length_append]
 simp only[Option.toList,Option.getD_some,List.filter_cons,List.filter_nil]
 split<;>rfl
theorem inC_le (l:List (Int × Int)) (i:Nat):inC l i≤l.length:=List.length_filter_le _ _
def PairOk (X:Gr) (p:Int × Int):Prop:=0≤p.1∧p.1 < X.evs.length - 1∧p.2 = p.1 + 1∧(X.evs.getD p.1.toNat ev0).th = (X.evs.getD p.2.toNat ev0).th∧(X.evs.getD p.1.toNat ev0).kd = 1∧(X.evs.getD p.2.toNat ev0).kd = 2∧(X.evs.getD p.1.toNat ev0).lc = (X.evs.getD p.2.toNat ev0).lc∧(X.evs.getD p.1.toNat ev0).ex = true∧(X.evs.getD p.2.toNat ev0).ex = true
structure RmwOk (X:Gr):Prop where
 pairs:∀ j,j < X.rmw.length→PairOk X (X.rmw.getD j (0,0))
 once:∀ i,i < X.evs.length→inC X.rmw i≤1∧(X.evs.getD i ev0).ex = ((inC X.rmw i:Int) == 1)
 rise:Rising X.rmw
end Go.Ab
end
section
set_option linter.unusedVariables false
set_option linter.unusedSimpArgs false
namespace Go.Ab
variable {F:Funs}
structure GraphOk (X:Gr):Prop where
 locs1:1≤X.locs
 locs4:X.locs≤4
 nl:X.locs≤X.evs.length
 n40:X.evs.length≤40
 rfl:X.rf.length = X.evs.length
 col:(X.co.length:Int) = X.locs
 ev:∀ i,i < X.evs.length→EvOk X.locs i (X.evs.getD (i - 1) ev0) (X.evs.getD i ev0)
 rf:∀ i,i < X.evs.length→RfOk X i
 co:∀ i,i < X.co.length→CoOk X i
 rmw:RmwOk X
 data:DepsOk X X.data
 ctrl:DepsOk X X.ctrl
 ctrli:DepsOk X X.ctrli
end Go.Ab
end
section
set_option linter.unusedVariables false
set_option linter.unusedSimpArgs false
namespace Go.Ab
instance (p q:Int × Int):Decidable (lessP p q):=by unfold lessP;infer_instance
theorem lessP_trans {p q r:Int × Int} (h:lessP p q) (k:lessP q r):lessP p r:=by unfold lessP at *;omega
theorem lessP_tot {p q:Int × Int} (h:¬ lessP p q) (n:p≠q):lessP q p:=by
 unfold lessP at *
 have:¬ (p.1 = q.1∧p.2 = q.2):=fun h => n (Prod.ext h.1 h.2)
 omega
def Up (l:List Int):Prop:=l.Pairwise (· < ·)
def putI:List Int→Int→List Int
 | [],v => [v]
 | a :: l,v => if a < v then a :: putI l v else if a = v then a :: l else v :: a :: l
theorem putI_eq:∀ {l:List Int} {v:Int} {k:Nat},k≤l.length→(∀ j,j < k→l.getD j 0 < v)→(k < l.length→v < l.getD k 0)→putI l v = l.take k ++ v :: l.drop k
 | [],v,k,hk,_,_ => by
   obtain rfl:k = 0:=by simpa using hk
   rfl
 | a :: l,v,0,_,_,h => by
   have h1:v < a:=by simpa using h (by simp)
   simp only[putI,List.take_zero,List.drop_zero,List.nil_append]
   rw[if_neg (by omega),if_neg (by omega)]
 | a :: l,v,k + 1,hk,h,h2 => by
   have h1:a < v:=by simpa using h 0 (by omega)
   simp only[putI,List.take_succ_cons,List.drop_succ_cons,List.cons_append]
   rw[if_pos h1,putI_eq (by simpa using hk) (fun j hj => by simpa using h (j + 1) (by omega)) (fun hl => by simpa using h2 (by simpa using hl))]
theorem putI_has:∀ {l:List Int} {v:Int} {k:Nat},k < l.length→(∀ j,j < k→l.getD j 0 < v)→l.getD k 0 = v→putI l v = l
 | [],v,k,hk,_,_ => by simp at hk
 | a :: l,v,0,_,_,h => by
   have h1:a = v:=by simpa using h
   simp only[putI]
   rw[if_neg (by omega),if_pos h1]
 | a :: l,v,k + 1,hk,h,h2 => by
   have h1:a < v:=by simpa using h 0 (by omega)
   simp only[putI]
   rw[if_pos h1,putI_has (by simpa using hk) (fun j hj => by simpa using h (j + 1) (by omega)) (by simpa using h2)]
theorem putI_mem:∀ {l:List Int} {v x:Int},x∈putI l v↔x∈l∨x = v
 | [],v,x => by simp[putI]
 | a :: l,v,x => by
   unfold putI
   split
   ·simp[putI_mem,or_assoc]
   ·split
    ·rename_i h1 h2
     subst h2
     simp only[List.mem_cons]
     refine ⟨fun h => .inl h,fun h => ?_⟩
     rcases h with h | h
     ·exact h
     ·exact .inl h
    ·simp only[List.mem_cons]
     refine ⟨fun h => ?_,fun h => ?_⟩
     ·rcases h with h | h | h
      ·exact .inr h
      ·exact .inl (.inl h)
      ·exact .inl (.inr h)
     ·rcases h with (h | h) | h
      ·exact .inr (.inl h)
      ·exact .inr (.inr h)
      ·exact .inl h
theorem putI_up:∀ {l:List Int} {v:Int},Up l→Up (putI l v)
 | [],v,_ => by simp[putI,Up]
 | a :: l,v,h => by
   obtain ⟨h1,h2⟩:=List.pairwise_cons.1 h
   unfold putI
   split
   ·rename_i hv
    refine List.pairwise_cons.2 ⟨fun x hx => ?_,putI_up h2⟩
    rcases putI_mem.1 hx with hx | hx
    ·exact h1 x hx
    ·omega
   ·split
    ·exact h
    ·rename_i hv hn
     refine List.pairwise_cons.2 ⟨fun x hx => ?_,h⟩
     rcases List.mem_cons.1 hx with rfl | hx
     ·omega
     ·have:=h1 x hx;omega
def bothI (a b:List Int):List Int:=b.foldl putI a
theorem bothI_mem:∀ {b a:List Int} {x:Int},x∈bothI a b↔x∈a∨x∈b
 | [],a,x => by simp[bothI]
 | v :: b,a,x => by
   show x∈bothI (putI a v) b↔_
   rw[bothI_mem,putI_mem,List.mem_cons,or_assoc]
theorem bothI_up:∀ {b a:List Int},Up a→Up (bothI a b)
 | [],a,h => h
 | v :: b,a,h => bothI_up (b:=b) (putI_up h)
theorem up_len:∀ {l:List Int} {lo hi:Int},Up l→(∀ r∈l,lo≤r∧r < hi)→l.length≤(hi - lo).toNat
 | [],_,_,_,_ => Nat.zero_le _
 | a :: l,lo,hi,h,hb => by
   obtain ⟨h1,h2⟩:=List.pairwise_cons.1 h
   have ha:=hb a (List.mem_cons_self ..)
   have:=up_len (lo:=a + 1) (hi:=hi) h2 fun r hr => ⟨by have:=h1 r hr;omega,(hb r (List.mem_cons_of_mem _ hr)).2⟩
   simp only[List.length_cons]
   omega
def insP:List (Int × Int)→Int × Int→List (Int × Int)
 | [],p => [p]
 | q :: l,p => if lessP q p then q :: insP l p else p :: q :: l
theorem insP_eq:∀ {l:List (Int × Int)} {p:Int × Int} {k:Nat},k≤l.length→(∀ j,j < k→lessP (l.getD j (0,0)) p)→(k < l.length→¬ lessP (l.getD k (0,0)) p)→insP l p = l.take k ++ p :: l.drop k
 | [],p,k,hk,_,_ => by
   obtain rfl:k = 0:=by simpa using hk
   rfl
 | a :: l,p,0,_,_,h => by
   have h1:¬ lessP a p:=by simpa using h (by simp)
   simp only[insP,List.take_zero,List.drop_zero,List.nil_append]
   rw[if_neg h1]
 | a :: l,p,k + 1,hk,h,h2 => by
   have h1:lessP a p:=by simpa using h 0 (by omega)
   simp only[insP,List.take_succ_cons,List.drop_succ_cons,List.cons_append]
   rw[if_pos h1,insP_eq (by simpa using hk) (fun j hj => by simpa using h (j + 1) (by omega)) (fun hl => by simpa using h2 (by simpa using hl))]
theorem insP_mem:∀ {l:List (Int × Int)} {p x:Int × Int},x∈insP l p↔x∈l∨x = p
 | [],p,x => by simp[insP]
 | a :: l,p,x => by
   unfold insP
   split
   ·simp[insP_mem,or_assoc]
   ·simp only[List.mem_cons]
    refine ⟨fun h => ?_,fun h => ?_⟩
    ·rcases h with h | h | h
     ·exact .inr h
     ·exact .inl (.inl h)
     ·exact .inl (.inr h)
    ·rcases h with (h | h) | h
     ·exact .inr (.inl h)
     ·exact .inr (.inr h)
     ·exact .inl h
theorem insP_len:∀ {l:List (Int × Int)} {p:Int × Int},(insP l p).length = l.length + 1
 | [],p => rfl
 | a :: l,p => by
   unfold insP
   split
   ·simp[insP_len]
   ·simp
theorem insP_pw:∀ {l:List (Int × Int)} {p:Int × Int},l.Pairwise lessP→p ∉ l→(insP l p).Pairwise lessP
 | [],p,_,_ => by simp[insP]
 | a :: l,p,h,hn => by
   obtain ⟨h1,h2⟩:=List.pairwise_cons.1 h
   unfold insP
   split
   ·rename_i hv
    refine List.pairwise_cons.2 ⟨fun x hx => ?_,insP_pw h2 fun hm => hn (List.mem_cons_of_mem _ hm)⟩
    rcases insP_mem.1 hx with hx | rfl
    ·exact h1 x hx
    ·exact hv
   ·rename_i hv
    have hpa:lessP p a:=lessP_tot hv fun h => hn (by rw[h];exact List.mem_cons_self ..)
    refine List.pairwise_cons.2 ⟨fun x hx => ?_,h⟩
    rcases List.mem_cons.1 hx with rfl | hx
    ·exact hpa
    ·exact lessP_trans hpa (h1 x hx)
def pairsI (l:List (Int × Int)) (rs:List Int) (b:Int):List (Int × Int):=rs.foldl (fun l r => insP l (r,b)) l
theorem pairsI_mem:∀ {rs:List Int} {l:List (Int × Int)} {b:Int} {x:Int × Int},x∈pairsI l rs b↔x∈l∨(x.2 = b∧x.1∈rs)
 | [],l,b,x => by simp[pairsI]
 | r :: rs,l,b,x => by
   show x∈pairsI (insP l (r,b)) rs b↔_
   rw[pairsI_mem,insP_mem,List.mem_cons]
   have he:x = (r,b)↔x.1 = r∧x.2 = b:=by rw[Prod.ext_iff]
   rw[he]
   refine ⟨fun h => ?_,fun h => ?_⟩
   ·rcases h with (h | ⟨h1,h2⟩) | ⟨h1,h2⟩
    ·exact .inl h
    ·exact .inr ⟨h2,.inl h1⟩
    ·exact .inr ⟨h1,.inr h2⟩
   ·rcases h with h | ⟨h1,h2 | h2⟩
    ·exact .inl (.inl h)
    ·exact .inl (.inr ⟨h2,h1⟩)
    ·exact .inr ⟨h1,h2⟩
theorem pairsI_len:∀ {rs:List Int} {l:List (Int × Int)} {b:Int},(pairsI l rs b).length = l.length + rs.length
 | [],l,b => rfl
 | r :: rs,l,b => by
   show (pairsI (insP l (r,b)) rs b).length = _
   rw[pairsI_len,insP_len,List.length_cons]
   omega
theorem pairsI_pw:∀ {rs:List Int} {l:List (Int × Int)} {b:Int},l.Pairwise lessP→(∀ r∈rs,(r,b) ∉ l)→rs.Nodup→(pairsI l rs b).Pairwise lessP
 | [],l,b,h,_,_ => h
 | r :: rs,l,b,h,hn,hd => by
   obtain ⟨d1,d2⟩:=List.nodup_cons.1 hd
   show (pairsI (insP l (r,b)) rs b).Pairwise lessP
   refine pairsI_pw (insP_pw h (hn r (List.mem_cons_self ..))) (fun r' hr' hm => ?_) d2
   rcases insP_mem.1 hm with hm | hm
   ·exact hn r' (List.mem_cons_of_mem _ hr') hm
   ·have:r' = r:=congrArg Prod.fst hm
    subst this
    exact d1 hr'
theorem Up.nodup {l:List Int} (h:Up l):l.Nodup:=List.Pairwise.imp (fun {a b} (hab:a < b) => (by omega:a≠b)) h
structure RS where
 evs:List Ev
 rmw:List (Int × Int)
 data:List (Int × Int)
 ctrl:List (Int × Int)
 used:Nat
 regs:List Int
 frm:List (List Int)
 now:List Int
 short:Bool
def rs0:RS:=⟨[],[],[],[],0,List.replicate 8 0,List.replicate 8 [],[],false⟩
def evR (s:RS) (e:Ev) (dl:List Int):RS:={ s with evs:=s.evs ++ [e],data:=pairsI s.data dl s.evs.length,ctrl:=pairsI s.ctrl s.now s.evs.length }
def rdR (s:RS) (reads:List Int) (loc mode:Int) (ex:Bool) (reg:Nat):RS:=
 if reads.length≤s.used then { s with short:=true } else
  let s1:=evR { s with used:=s.used + 1 } ⟨0,1,mode,loc,reads.getD s.used 0,ex⟩ []
  { s1 with regs:=s1.regs.set reg (reads.getD s.used 0),frm:=s1.frm.set reg [(s.evs.length:Int)] }
def wrR (s:RS) (loc mode:Int) (ex:Bool) (v:Int) (dl:List Int):RS:=
 let s1:=evR s ⟨0,2,mode,loc,v,ex⟩ dl
 if ex then { s1 with rmw:=s1.rmw ++ [((s.evs.length:Int) - 1,(s.evs.length:Int))] } else s1
def exR (ex:List (Int × Int)):List Nat:=match ex with
 | (2,a) :: _ => [a.toNat]
 | _ => []
def ofR (s:RS) (ex:List (Int × Int)):List Int:=(exR ex).foldl (fun l r => bothI l (s.frm.getD r [])) []
def faR (s:RS) (reads:List Int) (loc md md2:Int) (reg:Nat) (from_:List Int) (add:Int):RS:=
 let s1:=rdR s reads loc md true reg
 if reads.length≤s.used then s1 else wrR s1 loc md2 true (IntKind.i64.wrap (s1.regs.getD reg 0 + add)) (bothI from_ (s1.frm.getD reg []))
def stR (V:List (Int × Int)→List Int→Int) (reads:List Int) (s:RS) (x:Ins):RS:=
 if x.kd = 1 then rdR s reads x.lc x.md false x.rg.toNat
 else if x.kd = 2 then wrR s x.lc x.md false (V x.ex s.regs) (ofR s x.ex)
 else if x.kd = 3 then evR s ⟨0,3,x.md,0,0,false⟩ []
 else if x.kd = 4 then faR s reads x.lc x.md x.md2 x.rg.toNat (ofR s x.ex) (V x.ex s.regs)
 else if x.kd = 5 then { s with regs:=s.regs.set x.rg.toNat (V x.ex s.regs),frm:=s.frm.set x.rg.toNat (ofR s x.ex) }
 else { s with now:=bothI s.now (ofR s x.ex) }
def skR (V:List (Int × Int)→List Int→Int) (s:RS) (x:Ins):Nat:=if x.kd = 6∧V x.ex s.regs≠0 then x.n.toNat else 0
def runR (V:List (Int × Int)→List Int→Int) (reads:List Int) (th:List Ins):Nat→Nat→RS→RS
 | 0,_,s => s
 | f + 1,k,s => if k < th.length∧s.short = false then runR V reads th f (k + skR V s (th.getD k fence0) + 1) (stR V reads s (th.getD k fence0)) else s
def doR (V:List (Int × Int)→List Int→Int) (th:List Ins) (reads:List Int):RS:=runR V reads th th.length 0 rs0
theorem evR_used (s e dl):(evR s e dl).used = s.used:=rfl
theorem wrR_used (s loc mode ex v dl):(wrR s loc mode ex v dl).used = s.used:=by unfold wrR;dsimp only;split<;>rfl
theorem wrR_short (s loc mode ex v dl):(wrR s loc mode ex v dl).short = s.short:=by unfold wrR;dsimp only;split<;>rfl
theorem rdR_used (s reads loc mode ex reg):(rdR s reads loc mode ex reg).used = if reads.length≤s.used then s.used else s.used + 1:=by
 unfold rdR;split<;>rfl
theorem stR_used (V reads s x):s.used≤(stR V reads s x).used∧(stR V reads s x).used≤s.used + 1∧(s.used≤reads.length→(stR V reads s x).used≤reads.length):=by
 unfold stR
 split
 ·rw[rdR_used];split<;>omega
 split
 ·rw[wrR_used];omega
 split
 ·rw[evR_used];omega
 split
 ·unfold faR
  dsimp only
  split
  ·rw[rdR_used];split<;>omega
  ·rw[wrR_used,rdR_used];split<;>omega
 split
 ·exact ⟨Nat.le_refl _,Nat.le_succ _,id⟩
 ·exact ⟨Nat.le_refl _,Nat.le_succ _,id⟩
theorem runR_used (V reads th):∀ f k s,s.used≤(runR V reads th f k s).used∧(runR V reads th f k s).used≤s.used + f∧(s.used≤reads.length→(runR V reads th f k s).used≤reads.length)
 | 0,k,s => ⟨Nat.le_refl _,Nat.le_refl _,id⟩
 | f + 1,k,s => by
   unfold runR
   split
   ·have h1:=stR_used V reads s (th.getD k fence0)
    have h2:=runR_used V reads th f (k + skR V s (th.getD k fence0) + 1) (stR V reads s (th.getD k fence0))
    omega
   ·omega
theorem stR_short {V reads s x} (h:s.short = false) (hs:(stR V reads s x).short = true):reads.length≤s.used∧(x.kd = 1∨x.kd = 4):=by
 unfold stR at hs
 split at hs
 ·rename_i hk
  unfold rdR at hs
  split at hs
  ·exact ⟨by assumption,.inl hk⟩
  ·rw[show (_:RS).short = s.short from rfl,h] at hs;cases hs
 split at hs
 ·rw[wrR_short,h] at hs;cases hs
 split at hs
 ·rw[show (evR _ _ _).short = s.short from rfl,h] at hs;cases hs
 split at hs
 ·rename_i hk
  unfold faR at hs
  dsimp only at hs
  split at hs
  ·exact ⟨by assumption,.inr hk⟩
  ·rename_i hu
   rw[wrR_short] at hs
   unfold rdR at hs
   rw[if_neg hu] at hs
   rw[show (_:RS).short = s.short from rfl,h] at hs;cases hs
 split at hs
 ·rw[show (_:RS).short = s.short from rfl,h] at hs;cases hs
 ·rw[show (_:RS).short = s.short from rfl,h] at hs;cases hs
theorem stR_more {V h x s i} (hs:s.short = false) (hn:(stR V h s i).short = false) (hu:s.used≤h.length):stR V (h ++ [x]) s i = stR V h s i:=by
 have key:(i.kd = 1∨i.kd = 4)→s.used < h.length:=by
  intro hk
  by_cases hc:h.length≤s.used
  ·exfalso
   unfold stR at hn
   rcases hk with hk | hk
   ·rw[if_pos hk] at hn
    unfold rdR at hn
    rw[if_pos hc] at hn
    cases hn
   ·rw[if_neg (by omega),if_neg (by omega),if_neg (by omega),if_pos hk] at hn
    unfold faR rdR at hn
    simp only[if_pos hc] at hn
    cases hn
  ·omega
 have rd:(i.kd = 1∨i.kd = 4)→∀ loc mode ex reg,rdR s (h ++ [x]) loc mode ex reg = rdR s h loc mode ex reg:=by
  intro hk loc mode ex reg
  have hlt:=key hk
  unfold rdR
  rw[if_neg (by simp;omega),if_neg (by omega)]
  have:(h ++ [x]).getD s.used 0 = h.getD s.used 0:=by simp[List.getD,List.getElem?_append_left hlt]
  rw[this]
 unfold stR
 split
 ·rename_i hk;exact rd (.inl hk) _ _ _ _
 split
 ·rfl
 split
 ·rfl
 split
 ·rename_i hk
  have hlt:=key (.inr hk)
  unfold faR
  rw[rd (.inr hk)]
  dsimp only
  rw[if_neg (by simp;omega),if_neg (by omega)]
 split
 ·rfl
 ·rfl
theorem runR_end {V reads th f k s} (h:s.short = true):runR V reads th f k s = s:=by
 cases f with
 | zero => rfl
 | succ f => unfold runR;rw[if_neg (by simp[h])]
theorem runR_more {V h x th}:∀ f k s,s.short = false→s.used≤h.length→(runR V h th f k s).short = true→(runR V (h ++ [x]) th f k s).used = h.length + 1
 | 0,k,s,hs,_,hn => by rw[show runR V h th 0 k s = s from rfl,hs] at hn;cases hn
 | f + 1,k,s,hs,hu,hn => by
   unfold runR at hn ⊢
   split at hn
   ·rename_i hk
    rw[if_pos hk]
    cases hb:(stR V h s (th.getD k fence0)).short with
    | false =>
      rw[stR_more hs hb hu]
      exact runR_more f _ _ hb ((stR_used V h s (th.getD k fence0)).2.2 hu) hn
    | true =>
      obtain ⟨h1,h2⟩:=stR_short hs hb
      have h3:(stR V (h ++ [x]) s (th.getD k fence0)).used = h.length + 1:=by
       unfold stR
       rcases h2 with h2 | h2
       ·rw[if_pos h2,rdR_used,if_neg (by simp;omega)];omega
       ·rw[if_neg (by omega),if_neg (by omega),if_neg (by omega),if_pos h2]
        unfold faR
        dsimp only
        rw[if_neg (by simp;omega),wrR_used,rdR_used,if_neg (by simp;omega)]
        omega
      have h4:=runR_used V (h ++ [x]) th f (k + skR V s (th.getD k fence0) + 1) (stR V (h ++ [x]) s (th.getD k fence0))
      rw[h3] at h4
      have h5:=h4.2.2 (by simp)
      rw[List.length_append,List.length_singleton] at h5
      omega
   ·rw[hs] at hn;cases hn
theorem doR_more {V th h x} (hs:(doR V th h).short = true):(doR V th (h ++ [x])).used = h.length + 1:=runR_more _ _ _ rfl (Nat.zero_le _) hs
theorem runR_far {V reads th}:∀ f k s,s.short = false→(runR V reads th f k s).short = true→reads.length < s.used + f
 | 0,k,s,hs,hn => by rw[show runR V reads th 0 k s = s from rfl,hs] at hn;cases hn
 | f + 1,k,s,hs,hn => by
   unfold runR at hn
   split at hn
   ·cases hb:(stR V reads s (th.getD k fence0)).short with
    | true => have:=(stR_short hs hb).1;omega
    | false =>
      have:=runR_far f _ _ hb hn
      have h1:=stR_used V reads s (th.getD k fence0)
      omega
   ·rw[hs] at hn;cases hn
theorem runR_fuel {V reads th}:∀ f f' k s,th.length≤k + f→th.length≤k + f'→runR V reads th f k s = runR V reads th f' k s
 | 0,0,k,s,_,_ => rfl
 | 0,f' + 1,k,s,h,_ => by
   show s = _
   unfold runR
   rw[if_neg (by omega)]
 | f + 1,0,k,s,_,h => by
   show _ = s
   unfold runR
   rw[if_neg (by omega)]
 | f + 1,f' + 1,k,s,h,h' => by
   unfold runR
   split
   ·exact runR_fuel f f' _ _ (by omega) (by omega)
   ·rfl
theorem doR_far {V th h} (hs:(doR V th h).short = true):h.length < th.length:=by
 have:=runR_far (V:=V) (reads:=h) (th:=th) th.length 0 rs0 rfl hs
 simpa [rs0] using this
end Go.Ab
end
section
set_option linter.unusedVariables false
set_option linter.unusedSimpArgs false
namespace Go.Ab
def EvT (e:Ev):Prop:=e.th = 0∧((e.kd = 1∧(e.lc = 0∨e.lc = 1)∧(e.md = 0∨e.md = 1))∨(e.kd = 2∧(e.lc = 0∨e.lc = 1)∧(e.md = 0∨e.md = 2))∨(e.kd = 3∧1≤e.md∧e.md≤4∧e.lc = 0∧e.vl = 0∧e.ex = false))
def RdL (es:List Ev) (l:List Int):Prop:=(∀ r∈l,0≤r∧r < es.length∧(es.getD r.toNat ev0).kd = 1)∧Up l
def DpL (es:List Ev) (l:List (Int × Int)):Prop:=(∀ p∈l,0≤p.1∧p.1 < p.2∧p.2 < es.length∧(es.getD p.1.toNat ev0).kd = 1∧(es.getD p.1.toNat ev0).th = (es.getD p.2.toNat ev0).th)∧l.Pairwise lessP
def RmP (es:List Ev) (p:Int × Int):Prop:=0≤p.1∧p.2 = p.1 + 1∧p.2 < es.length∧(es.getD p.1.toNat ev0).th = (es.getD p.2.toNat ev0).th∧(es.getD p.1.toNat ev0).kd = 1∧(es.getD p.2.toNat ev0).kd = 2∧(es.getD p.1.toNat ev0).lc = (es.getD p.2.toNat ev0).lc∧(es.getD p.1.toNat ev0).ex = true∧(es.getD p.2.toNat ev0).ex = true
structure RmL (es:List Ev) (l:List (Int × Int)):Prop where
 pairs:∀ p∈l,RmP es p
 once:∀ i,i < es.length→inC l i≤1∧(es.getD i ev0).ex = ((inC l i:Int) == 1)
 rise:l.Pairwise lessP
 len:l.length≤es.length
theorem getD_l {es:List Ev} {x:List Ev} {i:Nat} (h:i < es.length):(es ++ x).getD i ev0 = es.getD i ev0:=by
 simp[List.getD,List.getElem?_append_left h]
theorem getD_r {es:List Ev} {x:List Ev} {i:Nat}:(es ++ x).getD (es.length + i) ev0 = x.getD i ev0:=by
 simp[List.getD,List.getElem?_append_right]
theorem RdL.mono {es x l} (h:RdL es l):RdL (es ++ x) l:=by
 refine ⟨fun r hr => ?_,h.2⟩
 obtain ⟨h0,h1,h2⟩:=h.1 r hr
 refine ⟨h0,by rw[List.length_append];omega,?_⟩
 rw[getD_l (by omega)];exact h2
theorem DpL.mono {es x l} (h:DpL es l):DpL (es ++ x) l:=by
 refine ⟨fun p hp => ?_,h.2⟩
 obtain ⟨h0,h1,h2,h3,h4⟩:=h.1 p hp
 refine ⟨h0,h1,by rw[List.length_append];omega,?_,?_⟩
 ·rw[getD_l (by omega)];exact h3
 ·rw[getD_l (by omega),getD_l (by omega)];exact h4
theorem RmP.mono {es x p} (h:RmP es p):RmP (es ++ x) p:=by
 obtain ⟨h0,h1,h2,h3⟩:=h
 refine ⟨h0,h1,by rw[List.length_append];omega,?_⟩
 rw[getD_l (by omega),getD_l (by omega)];exact h3
theorem inC_app (a b:List (Int × Int)) (i:Nat):inC (a ++ b) i = inC a i + inC b i:=by simp[inC]
theorem inC_zero {l:List (Int × Int)} {i:Nat} (h:∀ p∈l,p.1≠(i:Int)∧p.2≠(i:Int)):inC l i = 0:=by
 unfold inC
 rw[List.length_eq_zero_iff,List.filter_eq_nil_iff]
 intro p hp
 have:=h p hp
 simp[inB,this.1,this.2]
theorem DpL.pairs {es:List Ev} {l:List (Int × Int)} {rs:List Int} {e:Ev} (h:DpL es l) (hr:RdL es rs) (ht:∀ x∈es,x.th = e.th):DpL (es ++ [e]) (pairsI l rs es.length):=by
 refine ⟨fun p hp => ?_,pairsI_pw h.2 (fun r hr' hm => ?_) hr.2.nodup⟩
 ·rcases pairsI_mem.1 hp with hp | ⟨hp2,hp1⟩
  ·exact (h.mono (x:=[e])).1 p hp
  ·obtain ⟨h0,h1,h2⟩:=hr.1 _ hp1
   refine ⟨h0,by omega,by rw[List.length_append];simp;omega,?_,?_⟩
   ·rw[getD_l (by omega)];exact h2
   ·rw[getD_l (by omega),hp2,show ((es.length:Int)).toNat = es.length + 0 by simp,getD_r]
    have:es.getD p.1.toNat ev0∈es:=by
     rw[List.getD_eq_getElem?_getD,List.getElem?_eq_getElem (by omega)]
     exact List.getElem_mem _
    exact ht _ this
 ·have:=h.1 _ hm
  simp only at this
  omega
theorem RmL.one {es l} {e:Ev} (h:RmL es l) (he:e.ex = false):RmL (es ++ [e]) l:=by
 refine ⟨fun p hp => (h.pairs p hp).mono,fun i hi => ?_,h.rise,by have:=h.len;rw[List.length_append];omega⟩
 by_cases c:i < es.length
 ·rw[getD_l c];exact h.once i c
 ·obtain rfl:i = es.length:=by rw[List.length_append] at hi;simp at hi;omega
  have hz:inC l es.length = 0:=inC_zero fun p hp => by
   obtain ⟨h0,h1,h2,_⟩:=h.pairs p hp
   omega
  rw[hz]
  refine ⟨by omega,?_⟩
  have:(es ++ [e]).getD es.length ev0 = e:=by have:=getD_r (es:=es) (x:=[e]) (i:=0);rw[Nat.add_zero] at this;rw[this];rfl
  rw[this,he]
  rfl
theorem RmL.two {es l} {r w:Ev} (h:RmL es l) (h1:r.th = w.th) (h2:r.kd = 1) (h3:w.kd = 2) (h4:r.lc = w.lc) (h5:r.ex = true) (h6:w.ex = true):RmL (es ++ [r] ++ [w]) (l ++ [((es.length:Int),(es.length:Int) + 1)]):=by
 have er:(es ++ [r] ++ [w]).getD es.length ev0 = r:=by
  rw[List.append_assoc];simp
 have ew:(es ++ [r] ++ [w]).getD (es.length + 1) ev0 = w:=by
  rw[List.append_assoc];simp
 have hlen:(es ++ [r] ++ [w]).length = es.length + 2:=by simp
 refine ⟨fun p hp => ?_,fun i hi => ?_,?_,?_⟩
 ·rcases List.mem_append.1 hp with hp | hp
  ·rw[List.append_assoc];exact (h.pairs p hp).mono
  ·obtain rfl:p = ((es.length:Int),(es.length:Int) + 1):=by simpa using hp
   have e1:((es.length:Int)).toNat = es.length:=by omega
   have e2:((es.length:Int) + 1).toNat = es.length + 1:=by omega
   refine ⟨by simp,rfl,by rw[hlen];simp,?_⟩
   simp only[e1,e2,er,ew]
   exact ⟨h1,h2,h3,h4,h5,h6⟩
 ·rw[inC_app]
  rw[hlen] at hi
  by_cases c:i < es.length
  ·have hz:inC [((es.length:Int),(es.length:Int) + 1)] i = 0:=inC_zero fun p hp => by
    obtain rfl:p = ((es.length:Int),(es.length:Int) + 1):=by simpa using hp
    simp only;omega
   rw[hz,List.append_assoc,getD_l c]
   exact h.once i c
  ·have hz:inC l i = 0:=inC_zero fun p hp => by
    obtain ⟨h0,h1,h2,_⟩:=h.pairs p hp
    omega
   rw[hz]
   by_cases c2:i = es.length
   ·subst c2
    rw[er,h5]
    simp[inC,inB]
   ·obtain rfl:i = es.length + 1:=by omega
    rw[ew,h6]
    simp[inC,inB]
 ·refine List.pairwise_append.2 ⟨h.rise,by simp,fun p hp q hq => ?_⟩
  obtain rfl:q = ((es.length:Int),(es.length:Int) + 1):=by simpa using hq
  obtain ⟨h0,h1,h2,_⟩:=h.pairs p hp
  unfold lessP
  simp only
  omega
 ·have:=h.len
  simp
  omega
structure RIn0 (s:RS):Prop where
 ev:∀ e∈s.evs,EvT e
 data:DpL s.evs s.data
 ctrl:DpL s.evs s.ctrl
 frm:∀ l∈s.frm,RdL s.evs l
 now:RdL s.evs s.now
 f8:s.frm.length = 8
 r8:s.regs.length = 8
 dl:s.data.length≤s.evs.length * s.evs.length
 cl:s.ctrl.length≤s.evs.length * s.evs.length
structure RInv (s:RS):Prop where
 b:RIn0 s
 rmw:RmL s.evs s.rmw
theorem RdL.len {es l} (h:RdL es l):l.length≤es.length:=by
 have:=up_len (lo:=0) (hi:=es.length) h.2 fun r hr => ⟨(h.1 r hr).1,(h.1 r hr).2.1⟩
 omega
theorem rdL_nil (es):RdL es []:=⟨fun r hr => absurd hr (List.not_mem_nil),List.Pairwise.nil⟩
theorem RIn0.ev1 {s:RS} {e:Ev} {dl:List Int} (h:RIn0 s) (he:EvT e) (hd:RdL s.evs dl):RIn0 (evR s e dl):=by
 have hth:∀ x∈s.evs,x.th = e.th:=fun x hx => by rw[(h.ev x hx).1,he.1]
 have hq:∀ a m:Nat,a≤m * m→∀ b,b≤m→a + b≤(m + 1) * (m + 1):=by
  intro a m h1 b h2
  have:(m + 1) * (m + 1) = m * m + m + m + 1:=by rw[Nat.add_mul,Nat.mul_add];omega
  omega
 refine ⟨fun x hx => ?_,h.data.pairs hd hth,h.ctrl.pairs h.now hth,fun l hl => (h.frm l hl).mono,h.now.mono,h.f8,h.r8,?_,?_⟩
 ·rcases List.mem_append.1 hx with hx | hx
  ·exact h.ev x hx
  ·obtain rfl:x = e:=by simpa using hx
   exact he
 ·show (pairsI _ _ _).length≤(s.evs ++ [e]).length * (s.evs ++ [e]).length
  rw[pairsI_len,List.length_append,List.length_singleton]
  exact hq _ _ h.dl _ hd.len
 ·show (pairsI _ _ _).length≤(s.evs ++ [e]).length * (s.evs ++ [e]).length
  rw[pairsI_len,List.length_append,List.length_singleton]
  exact hq _ _ h.cl _ h.now.len
theorem RdL.both {es a b} (ha:RdL es a) (hb:RdL es b):RdL es (bothI a b):=by
 refine ⟨fun r hr => ?_,bothI_up ha.2⟩
 rcases bothI_mem.1 hr with h | h
 ·exact ha.1 r h
 ·exact hb.1 r h
theorem RIn0.at {s:RS} (h:RIn0 s) (r:Nat):RdL s.evs (s.frm.getD r []):=by
 by_cases c:r < s.frm.length
 ·refine h.frm _ ?_
  rw[List.getD_eq_getElem?_getD,List.getElem?_eq_getElem c]
  exact List.getElem_mem c
 ·rw[List.getD_eq_getElem?_getD,List.getElem?_eq_none (by omega)]
  exact rdL_nil _
theorem RIn0.of {s:RS} (h:RIn0 s) (ex):RdL s.evs (ofR s ex):=by
 unfold ofR exR
 split
 ·exact (rdL_nil _).both (h.at _)
 ·exact rdL_nil _
theorem mem_set {α:Type} {l:List α} {i:Nat} {a x:α} (h:x∈l.set i a):x∈l∨x = a:=List.mem_or_eq_of_mem_set h
theorem RIn0.rd {s:RS} (h:RIn0 s) {reads:List Int} {loc mode:Int} {ex:Bool} {reg:Nat} (hl:loc = 0∨loc = 1) (hm:mode = 0∨mode = 1):RIn0 (rdR s reads loc mode ex reg):=by
 unfold rdR
 split
 ·exact ⟨h.ev,h.data,h.ctrl,h.frm,h.now,h.f8,h.r8,h.dl,h.cl⟩
 ·have h1:RIn0 (evR { s with used:=s.used + 1 } ⟨0,1,mode,loc,reads.getD s.used 0,ex⟩ []):=
   RIn0.ev1 (s:={ s with used:=s.used + 1 }) ⟨h.ev,h.data,h.ctrl,h.frm,h.now,h.f8,h.r8,h.dl,h.cl⟩ ⟨rfl,.inl ⟨rfl,hl,hm⟩⟩ (rdL_nil _)
  refine ⟨h1.ev,h1.data,h1.ctrl,fun l hl => ?_,h1.now,by simpa using h1.f8,by simpa using h1.r8,h1.dl,h1.cl⟩
  rcases mem_set hl with hl | rfl
  ·exact h1.frm l hl
  ·refine ⟨fun r hr => ?_,by simp[Up]⟩
   obtain rfl:r = (s.evs.length:Int):=by simpa using hr
   refine ⟨by omega,?_,?_⟩
   ·show _ < (((s.evs ++ [_]).length:Nat):Int)
    simp;omega
   ·show ((s.evs ++ [_]).getD _ ev0).kd = 1
    have:=getD_r (es:=s.evs) (x:=[⟨0,1,mode,loc,reads.getD s.used 0,ex⟩]) (i:=0)
    simp only[Nat.add_zero] at this
    rw[show ((s.evs.length:Int)).toNat = s.evs.length by omega,this]
    rfl
theorem RIn0.wr {s:RS} (h:RIn0 s) {loc mode:Int} {ex:Bool} {v:Int} {dl:List Int} (hl:loc = 0∨loc = 1) (hm:mode = 0∨mode = 2) (hd:RdL s.evs dl):RIn0 (wrR s loc mode ex v dl):=by
 have h1:RIn0 (evR s ⟨0,2,mode,loc,v,ex⟩ dl):=h.ev1 ⟨rfl,.inr (.inl ⟨rfl,hl,hm⟩)⟩ hd
 unfold wrR
 dsimp only
 split
 ·exact ⟨h1.ev,h1.data,h1.ctrl,h1.frm,h1.now,h1.f8,h1.r8,h1.dl,h1.cl⟩
 ·exact h1
theorem RInv.st {s:RS} (h:RInv s) {V reads x} {left:Int} (hx:InsK left x):RInv (stR V reads s x):=by
 unfold stR
 cases hx with
 | ld md rg lc h1 h2 h3 =>
   rw[if_pos rfl]
   refine ⟨h.b.rd h3 h1,?_⟩
   unfold rdR
   split
   ·exact h.rmw
   ·exact h.rmw.one (e:=⟨0,1,md,lc,reads.getD s.used 0,false⟩) rfl
 | st md lc ex h1 h3 he =>
   rw[if_neg (by simp),if_pos rfl]
   exact ⟨h.b.wr h3 h1 (h.b.of ex),h.rmw.one (e:=⟨0,2,md,lc,V ex s.regs,false⟩) rfl⟩
 | fe md h1 =>
   rw[if_neg (by simp),if_neg (by simp),if_pos rfl]
   exact ⟨h.b.ev1 ⟨rfl,.inr (.inr ⟨rfl,by simp only;omega,by simp only;omega,rfl,rfl,rfl⟩)⟩ (rdL_nil _),h.rmw.one rfl⟩
 | fa md md2 rg lc c h1 h4 h2 h3 h5 =>
   rw[if_neg (by simp),if_neg (by simp),if_neg (by simp),if_pos rfl]
   have hr:=h.b.rd (reads:=reads) (ex:=true) (reg:=rg.toNat) h3 h1
   unfold faR
   dsimp only
   split
   ·rename_i hc
    refine ⟨hr,?_⟩
    unfold rdR
    rw[if_pos hc]
    exact h.rmw
   ·rename_i hc
    have hof:RdL (rdR s reads lc md true rg.toNat).evs (ofR s [(1,c)]):=by
     show RdL _ []
     exact rdL_nil _
    refine ⟨hr.wr h3 h4 (hof.both (hr.at _)),?_⟩
    have he:(rdR s reads lc md true rg.toNat).evs = s.evs ++ [⟨0,1,md,lc,reads.getD s.used 0,true⟩]:=by
     unfold rdR;rw[if_neg hc];rfl
    have hm:(rdR s reads lc md true rg.toNat).rmw = s.rmw:=by
     unfold rdR;rw[if_neg hc];rfl
    generalize rdR s reads lc md true rg.toNat = s1 at he hm
    unfold wrR evR
    dsimp only
    rw[if_pos rfl]
    dsimp only
    rw[he,hm]
    have hn:(((s.evs ++ [(⟨0,1,md,lc,reads.getD s.used 0,true⟩:Ev)]).length:Nat):Int) - 1 = (s.evs.length:Int):=by simp
    have hn2:(((s.evs ++ [(⟨0,1,md,lc,reads.getD s.used 0,true⟩:Ev)]).length:Nat):Int) = (s.evs.length:Int) + 1:=by simp
    rw[hn,hn2]
    exact h.rmw.two rfl rfl rfl rfl rfl rfl
 | se rg ex h2 he =>
   rw[if_neg (by simp),if_neg (by simp),if_neg (by simp),if_neg (by simp),if_pos rfl]
   refine ⟨⟨h.b.ev,h.b.data,h.b.ctrl,fun l hl => ?_,h.b.now,by simpa using h.b.f8,by simpa using h.b.r8,h.b.dl,h.b.cl⟩,h.rmw⟩
   rcases mem_set hl with hl | rfl
   ·exact h.b.frm l hl
   ·exact h.b.of ex
 | sk ex n he h0 h1 =>
   rw[if_neg (by simp),if_neg (by simp),if_neg (by simp),if_neg (by simp),if_neg (by simp)]
   exact ⟨⟨h.b.ev,h.b.data,h.b.ctrl,h.b.frm,h.b.now.both (h.b.of ex),h.b.f8,h.b.r8,h.b.dl,h.b.cl⟩,h.rmw⟩
theorem stR_evs (V reads s x):(stR V reads s x).evs.length≤s.evs.length + 2:=by
 have rd:∀ loc mode ex reg,(rdR s reads loc mode ex reg).evs.length≤s.evs.length + 1:=by
  intro loc mode ex reg
  unfold rdR
  split
  ·exact Nat.le_succ _
  ·show (s.evs ++ [_]).length≤_;simp
 have wr:∀ s:RS,∀ loc mode ex v dl,(wrR s loc mode ex v dl).evs.length = s.evs.length + 1:=by
  intro s loc mode ex v dl
  unfold wrR
  dsimp only
  split<;>(show (s.evs ++ [_]).length = _;simp)
 unfold stR
 split
 ·have:=rd x.lc x.md false x.rg.toNat;omega
 split
 ·rw[wr];omega
 split
 ·show (s.evs ++ [_]).length≤_;simp
 split
 ·unfold faR
  dsimp only
  have:=rd x.lc x.md true x.rg.toNat
  split
  ·omega
  ·rw[wr];omega
 split
 ·exact Nat.le_add_right _ _
 ·exact Nat.le_add_right _ _
theorem RInv.run {V reads th} (hk:∀ k,k < th.length→∃ left,InsK left (th.getD k fence0)):∀ f k s,RInv s→RInv (runR V reads th f k s)∧(runR V reads th f k s).evs.length≤s.evs.length + 2 * f
 | 0,k,s,h => ⟨h,Nat.le_refl _⟩
 | f + 1,k,s,h => by
   unfold runR
   split
   ·rename_i hc
    obtain ⟨left,hx⟩:=hk k hc.1
    have h1:=RInv.run (V:=V) (reads:=reads) hk f (k + skR V s (th.getD k fence0) + 1) _ (h.st (V:=V) (reads:=reads) hx)
    have h2:=stR_evs V reads s (th.getD k fence0)
    exact ⟨h1.1,by omega⟩
   ·exact ⟨h,by omega⟩
theorem rs0_inv:RInv rs0:=by
 refine ⟨⟨fun e he => absurd he (List.not_mem_nil),⟨fun p hp => absurd hp (List.not_mem_nil),List.Pairwise.nil⟩,⟨fun p hp => absurd hp (List.not_mem_nil),List.Pairwise.nil⟩,fun l hl => ?_,rdL_nil _,rfl,rfl,Nat.le_refl _,Nat.le_refl _⟩,⟨fun p hp => absurd hp (List.not_mem_nil),fun i hi => absurd hi (Nat.not_lt_zero _),List.Pairwise.nil,Nat.le_refl _⟩⟩
 have:l = []:=List.eq_of_mem_replicate hl
 subst this
 exact rdL_nil _
theorem doR_inv {V th reads} (hk:∀ k,k < th.length→∃ left,InsK left (th.getD k fence0)):RInv (doR V th reads)∧(doR V th reads).evs.length≤2 * th.length:=by
 have:=RInv.run (V:=V) (reads:=reads) hk th.length 0 rs0 rs0_inv
 have h0:rs0.evs.length = 0:=rfl
 exact ⟨this.1,by have h2:=this.2;rw[h0] at h2;show (runR V reads th th.length 0 rs0).evs.length≤_;omega⟩
end Go.Ab
end
section
set_option linter.unusedVariables false
set_option linter.unusedSimpArgs false
namespace Go.Ab
variable {F:Funs}
def allN (n:Nat) (p:Nat→Bool):Bool:=(List.range n).all p
theorem allN_iff {n:Nat} {p:Nat→Bool}:allN n p = true↔∀ i,i < n→p i = true:=by
 unfold allN
 rw[List.all_eq_true]
 exact ⟨fun h i hi => h i (List.mem_range.2 hi),fun h i hi => h i (List.mem_range.1 hi)⟩
theorem allN_t {n:Nat} {p:Nat→Bool} (h:∀ i,i < n→p i = true):allN n p = true:=allN_iff.2 h
theorem allN_f {n:Nat} {p:Nat→Bool} {k:Nat} (hk:k < n) (h:p k = false):allN n p = false:=by
 cases c:allN n p with
 | false => rfl
 | true => rw[allN_iff.1 c k hk] at h;cases h
def cmpI (a b:Int):Int:=if a < b then -1 else if b < a then 1 else 0
def ordP (p q:Int × Int):Int:=if cmpI p.1 q.1 != 0 then cmpI p.1 q.1 else cmpI p.2 q.2
def gEv (locs:Int) (e:Ev):Bool:=
 if e.kd == 1 then (decide (0≤e.lc) && decide (e.lc < locs)) && (e.md == 0 || e.md == 1)
 else if e.kd == 2 then (decide (0≤e.lc) && decide (e.lc < locs)) && (e.md == 0 || e.md == 2)
 else e.kd == 3 && decide (1≤e.md) && decide (e.md≤4) && e.lc == 0 && e.vl == 0 && !e.ex
def gWr (X:Gr) (i loc:Int):Bool:=decide (0≤i) && decide (i < X.evs.length) && (X.evs.getD i.toNat ev0).kd == 2 && (X.evs.getD i.toNat ev0).lc == loc
def mayD (a b:Ev):Bool:=a.kd == 1 && a.th == b.th
def mayR (a b:Ev):Bool:=a.kd == 1 && b.kd == 2 && a.lc == b.lc && a.ex && b.ex && a.th == b.th
section
variable (pc:Pk_cmp F)
include pc
theorem sg_nan (a:Int):pureS F 266 [.i .i64 a] = some (.b false):=by
 refine pure_of pc.cmp_isNaN_int ?_
 have h:(a != a) = false:=by simp
 simp (disch:=omega) only[A_cmp_isNaN_int,wp,qa,qb,qc,h]
theorem sg_cmp (a b:Int):pureS F 248 [.i .i64 a,.i .i64 b] = some (.i .i64 (cmpI a b)):=by
 refine pure_of pc.cmp_Compare_int ?_
 unfold cmpI
 by_cases c1:a < b
 ·simp (disch:=omega) only[A_cmp_Compare_int,wp,qa,qb,qc,sg_nan pc,c1,if_true]
 ·by_cases c2:b < a
  ·simp (disch:=omega) only[A_cmp_Compare_int,wp,qa,qb,qc,sg_nan pc,c1,c2,if_true,if_false]
  ·simp (disch:=omega) only[A_cmp_Compare_int,wp,qa,qb,qc,sg_nan pc,c1,c2,if_false]
theorem sg_or (a b:Int):pureS F 249 [.sl [.i .i64 a,.i .i64 b] 2 .non] = some (.i .i64 (if a != 0 then a else b)):=by
 refine pure_of pc.cmp_Or_int ?_
 simp (disch:=omega) only[A_cmp_Or_int,wp,qa,qb,qc]
 have p0:part (List.drop (0 * 1) [AV.i .i64 a,AV.i .i64 b]) 0 none = some (.i .i64 a):=rfl
 have p1:part (List.drop (1 * 1) [AV.i .i64 a,AV.i .i64 b]) 0 none = some (.i .i64 b):=rfl
 have w0:=succ_wrap (k:=0) (by omega)
 have w1:=succ_wrap (k:=1) (by omega)
 refine W_loop (fun q e g => ∃ k:Nat,q = 2 - k∧k≤2∧e 3 = .i .i64 0∧e 6 = .sl [.i .i64 a,.i .i64 b] 2 .non∧e 7 = .i .i64 2∧e 8 = .i .i64 k∧(1≤k→a = 0)∧(2≤k→b = 0)) 2 ?_ ?_
 ·refine ⟨0,rfl,by omega,?_⟩
  simp (disch:=omega) only[wp,qa,qb,qc]
  exact ⟨rfl,rfl,fun h => by omega,fun h => by omega⟩
 ·rintro q e g ⟨k,rfl,hk,e3,e6,e7,e8,ha,hb'⟩
  by_cases hk':k < 2
  ·have hk1:(k:Int) < 2:=by omega
   have hwk:=succ_wrap (k:=k) (by omega)
   by_cases k0:k = 0
   ·subst k0
    cases c:(a != 0)
    ·simp (disch:=omega) only[wp,qa,qb,qc,e3,e6,e7,e8,hk1,p0,c,hwk]
     exact ⟨1,by omega,1,rfl,by omega,rfl,fun _ => by simpa using c,fun h => by omega⟩
    ·simp (disch:=omega) only[wp,qa,qb,qc,e3,e6,e7,e8,hk1,p0,c]
     rfl
   ·obtain rfl:k = 1:=by omega
    have ha:=ha (by omega)
    subst ha
    cases c:(b != 0)
    ·simp (disch:=omega) only[wp,qa,qb,qc,e3,e6,e7,e8,hk1,p1,c,hwk]
     exact ⟨0,by omega,2,rfl,by omega,rfl,fun _ => trivial,fun h => by simpa using c⟩
    ·simp (disch:=omega) only[wp,qa,qb,qc,e3,e6,e7,e8,hk1,p1,c]
     rfl
  ·obtain rfl:k = 2:=by omega
   have hk1:¬ (((2:Nat):Int) < 2):=by omega
   have ha:=ha (by omega)
   have hb':=hb' (by omega)
   subst ha hb'
   simp (disch:=omega) only[wp,qa,qb,qc,e3,e6,e7,e8,hk1]
   rfl
end
theorem sg_event (h236:F 236 = some A_graph_event) (e:Ev) (locs:Int):pureS F 236 [.agg (evC e),.i .i64 locs] = some (.b (gEv locs e)):=by
 refine pure_of h236 ?_
 obtain ⟨th,kd,md,lc,vl,ex⟩:=e
 have d0:(evC ⟨th,kd,md,lc,vl,ex⟩) = [.i .i64 th,.i .i64 kd,.i .i64 md,.i .i64 lc,.i .i64 vl,.b ex]:=rfl
 have fin:gEv locs ⟨th,kd,md,lc,vl,ex⟩ = if kd == 1 then (decide (0≤lc) && decide (lc < locs)) && (md == 0 || md == 1) else if kd == 2 then (decide (0≤lc) && decide (lc < locs)) && (md == 0 || md == 2) else kd == 3 && decide (1≤md) && decide (md≤4) && lc == 0 && vl == 0 && !ex:=rfl
 generalize gEv locs ⟨th,kd,md,lc,vl,ex⟩ = R at fin
 simp only[A_graph_event,W_seq]
 refine W_cut (fun e g => e 1 = .i .i64 locs∧e 2 = .mp 0 0∧g.hp 0 = some (.cells (evC ⟨th,kd,md,lc,vl,ex⟩) false)) ?_ ?_
 ·simp (disch:=omega) only[wp,qa,qb,qc,gl]
 rintro e g ⟨e1,e2,hg⟩
 simp only[W_seq]
 refine W_cut (fun e g => e 2 = .mp 0 0∧e 5 = .b (decide (0≤lc) && decide (lc < locs))∧g.hp 0 = some (.cells (evC ⟨th,kd,md,lc,vl,ex⟩) false)) ?_ ?_
 ·by_cases l1:0≤lc
  ·simp (disch:=omega) only[wp,qa,qb,qc,gl,e1,e2,hg,d0,l1]
  ·simp (disch:=omega) only[wp,qa,qb,qc,gl,e1,e2,hg,d0,l1]
 rintro e g ⟨e2,e5,hg⟩
 generalize (decide (0≤lc) && decide (lc < locs)) = at0 at e5 fin
 cases k1:(kd == 1)
 case true =>
  rw[k1,if_pos rfl] at fin
  cases at0
  ·simp (disch:=omega) only[wp,qa,qb,qc,gl,e2,e5,hg,d0,k1,fin]
  ·cases m0:(md == 0)
   ·rw[m0] at fin
    simp (disch:=omega) only[wp,qa,qb,qc,gl,e2,e5,hg,d0,k1,m0,fin]
   ·rw[m0] at fin
    simp (disch:=omega) only[wp,qa,qb,qc,gl,e2,e5,hg,d0,k1,m0,fin]
 case false =>
  rw[k1,if_neg (by decide)] at fin
  cases k2:(kd == 2)
  case true =>
   rw[k2,if_pos rfl] at fin
   cases at0
   ·simp (disch:=omega) only[wp,qa,qb,qc,gl,e2,e5,hg,d0,k1,k2,fin]
   ·cases m0:(md == 0)
    ·rw[m0] at fin
     simp (disch:=omega) only[wp,qa,qb,qc,gl,e2,e5,hg,d0,k1,k2,m0,fin]
    ·rw[m0] at fin
     simp (disch:=omega) only[wp,qa,qb,qc,gl,e2,e5,hg,d0,k1,k2,m0,fin]
  case false =>
   rw[k2,if_neg (by decide)] at fin
   cases k3:(kd == 3)
   ·rw[k3] at fin
    simp (disch:=omega) only[wp,qa,qb,qc,gl,e2,e5,hg,d0,k1,k2,k3,fin]
   rw[k3] at fin
   by_cases m1:1≤md
   case neg => simp (disch:=omega) only[wp,qa,qb,qc,gl,e2,e5,hg,d0,k1,k2,k3,m1,fin]
   by_cases m4:md≤4
   case neg => simp (disch:=omega) only[wp,qa,qb,qc,gl,e2,e5,hg,d0,k1,k2,k3,m1,m4,fin]
   cases a3:(lc == 0)
   ·rw[a3] at fin
    simp (disch:=omega) only[wp,qa,qb,qc,gl,e2,e5,hg,d0,k1,k2,k3,m1,m4,a3,fin]
   cases a4:(vl == 0)
   ·rw[a3,a4] at fin
    simp (disch:=omega) only[wp,qa,qb,qc,gl,e2,e5,hg,d0,k1,k2,k3,m1,m4,a3,a4,fin]
   rw[a3,a4] at fin
   simp (disch:=omega) only[wp,qa,qb,qc,gl,e2,e5,hg,d0,k1,k2,k3,m1,m4,a3,a4,fin]
theorem sg_write (h237:F 237 = some A_graph_write) (X:Gr) (i loc:Int):pureS F 237 [.agg (grC X),.i .i64 i,.i .i64 loc] = some (.b (gWr X i loc)):=by
 refine pure_of h237 ?_
 unfold gWr
 by_cases c1:0≤i
 case neg => simp (disch:=omega) only[A_graph_write,wp,qa,qb,qc,gl,c1]
 by_cases c2:i < X.evs.length
 case neg => simp (disch:=omega) only[A_graph_write,wp,qa,qb,qc,gl,c1,c2]
 have ka:=ev_kd_at (l:=X.evs) (k:=i.toNat) (by omega)
 have la:=ev_lc_at (l:=X.evs) (k:=i.toNat) (by omega)
 have da:(List.drop (i.toNat * 6) (evsC X.evs)).length = X.evs.length * 6 - i.toNat * 6:=by rw[List.length_drop,evsC_len]
 cases c3:((X.evs.getD i.toNat ev0).kd == 2)
 ·simp (disch:=omega) only[A_graph_write,wp,qa,qb,qc,gl,c1,c2,ka,la,da,c3]
 ·simp (disch:=omega) only[A_graph_write,wp,qa,qb,qc,gl,c1,c2,ka,la,da,c3]
theorem sg_mayD (h191:F 191 = some A_graph_Check_1) (a b:Ev):pureS F 191 [.agg (evC a),.agg (evC b)] = some (.b (mayD a b)):=by
 refine pure_of h191 ?_
 unfold mayD
 cases c1:(a.kd == 1)
 ·simp (disch:=omega) only[A_graph_Check_1,wp,qa,qb,qc,gl,c1]
 ·simp (disch:=omega) only[A_graph_Check_1,wp,qa,qb,qc,gl,c1]
theorem sg_mayR (h238:F 238 = some A_graph_rmw_1) (a b:Ev):pureS F 238 [.agg (evC a),.agg (evC b)] = some (.b (mayR a b)):=by
 refine pure_of h238 ?_
 unfold mayR
 cases c1:(a.kd == 1)
 ·simp (disch:=omega) only[A_graph_rmw_1,wp,qa,qb,qc,gl,c1]
 cases c2:(b.kd == 2)
 ·simp (disch:=omega) only[A_graph_rmw_1,wp,qa,qb,qc,gl,c1,c2]
 cases c3:(a.lc == b.lc)
 ·simp (disch:=omega) only[A_graph_rmw_1,wp,qa,qb,qc,gl,c1,c2,c3]
 cases c4:a.ex
 ·simp (disch:=omega) only[A_graph_rmw_1,wp,qa,qb,qc,gl,c1,c2,c3,c4]
 cases c5:b.ex
 ·simp (disch:=omega) only[A_graph_rmw_1,wp,qa,qb,qc,gl,c1,c2,c3,c4,c5]
 simp (disch:=omega) only[A_graph_rmw_1,wp,qa,qb,qc,gl,c1,c2,c3,c4,c5]
theorem sg_order (pc:Pk_cmp F) (h239:F 239 = some A_graph_order) (p q:Int × Int):pureS F 239 [.agg [.i .i64 p.1,.i .i64 p.2],.agg [.i .i64 q.1,.i .i64 q.2]] = some (.i .i64 (ordP p q)):=by
 refine pure_of h239 ?_
 simp (disch:=omega) only[A_graph_order,wp,qa,qb,qc,gl,sg_cmp pc,sg_or pc]
 rfl
end Go.Ab
end
section
set_option linter.unusedVariables false
set_option linter.unusedSimpArgs false
namespace Go.Ab
variable {F:Funs}
def evIs (a b:Ev):Bool:=a.th == b.th && (a.kd == b.kd && (a.md == b.md && (a.lc == b.lc && (a.vl == b.vl && (a.ex == b.ex && true)))))
def gFirst (X:Gr):Bool:=allN X.locs.toNat fun i => evIs (X.evs.getD i ev0) ⟨0,2,0,i,0,false⟩
theorem sg_first (h186:F 186 = some A_graph_first) {X:Gr} (h0:0≤X.locs) (hl:X.locs≤X.evs.length) (hn:X.evs.length≤1000):pureS F 186 [.agg (grC X)] = some (.b (gFirst X)):=by
 refine pure_of h186 ?_
 have finT:(∀ i,i < X.locs.toNat→evIs (X.evs.getD i ev0) ⟨0,2,0,i,0,false⟩ = true)→gFirst X = true:=allN_t
 have finF:∀ k,k < X.locs.toNat→evIs (X.evs.getD k ev0) ⟨0,2,0,k,0,false⟩ = false→gFirst X = false:=fun k hk h => allN_f hk h
 generalize gFirst X = R at finT finF
 have r5:∀ x:AV,List.replicate 5 x = [x,x,x,x,x]:=fun _ => rfl
 simp (disch:=omega) only[A_graph_first,wp,qa,qb,qc,gl]
 refine W_loop (fun q e g => ∃ k:Nat,q = X.locs.toNat - k∧k≤X.locs.toNat∧e 1 = .mp 0 0∧e 5 = .i .i64 X.locs∧e 6 = .i .i64 k∧g.hp 0 = some (.cells (grC X) false)∧0 < g.nx∧∀ i,i < k→evIs (X.evs.getD i ev0) ⟨0,2,0,i,0,false⟩ = true) X.locs.toNat ?_ ?_
 ·refine ⟨0,rfl,Nat.zero_le _,?_⟩
  simp (disch:=omega) only[wp,qa,qb,qc]
  exact ⟨rfl,by first | omega | (dsimp only;omega),fun i hi => by omega⟩
 ·rintro q e g ⟨k,rfl,hk,e1,e5,e6,hg,hnx,hall⟩
  by_cases hk':k < X.locs.toNat
  ·have hk1:(k:Int) < X.locs:=by omega
   have hkn:(k:Int) < X.evs.length:=by omega
   have hwk:=succ_wrap (k:=k) (by omega)
   have hev:=ev_part (l:=X.evs) (k:=k) (by omega)
   have he:aeqa [0,0,0,0,0,1] (.agg (evC (X.evs.getD k ev0))) (.agg [.i .i64 0,.i .i64 2,.i .i64 0,.i .i64 k,.i .i64 0,.b false]) = some (evIs (X.evs.getD k ev0) ⟨0,2,0,k,0,false⟩):=rfl
   cases c:evIs (X.evs.getD k ev0) ⟨0,2,0,k,0,false⟩
   ·obtain rfl:=finF k hk' c
    rw[c] at he
    simp (disch:=omega) only[wp,qa,qb,qc,gl,e1,e5,e6,hg,hk1,hkn,hev,r5,he]
   ·have hc:=c
    rw[c] at he
    simp (disch:=omega) only[wp,qa,qb,qc,gl,e1,e5,e6,hg,hk1,hkn,hev,r5,he,hwk]
    refine ⟨X.locs.toNat - (k + 1),by omega,k + 1,rfl,by omega,rfl,by first | omega | (dsimp only;omega),fun i hi => ?_⟩
    by_cases hik:i = k
    ·subst hik;exact hc
    ·exact hall i (by omega)
  ·have hk1:¬ ((k:Int) < X.locs):=by omega
   obtain rfl:k = X.locs.toNat:=by omega
   obtain rfl:=finT hall
   simp (disch:=omega) only[wp,qa,qb,qc,gl,e1,e5,e6,hg,hk1]
theorem o_slice' {call al lo' id e g} (esz:Nat) (x:Opd) (lo hi mx:Option Opd):opE call al lo' id (.slice esz x lo hi mx) e g = vSlice esz (x.ev e) (evo e lo) (evo e hi) (evo e mx) g:=rfl
theorem vSlice_lo {esz:Nat} {cs:List AV} {n:Nat} {lo:Int} {g:G} (h0:0≤lo) (h:lo≤n):vSlice esz (.sl cs n .non) (some (.i .i64 lo)) none none g = some (.sl ((cs.drop (lo.toNat * esz)).take ((n - lo.toNat) * esz)) (n - lo.toNat) .non,g):=by
 unfold vSlice
 have e:bnd n none = some (n:Int):=rfl
 have e2:bnd 0 (some (.i .i64 lo)) = some lo:=rfl
 have c:0≤lo∧lo≤(n:Int)∧(n:Int)≤n:=⟨h0,h,by omega⟩
 simp only[e,e2,if_pos c,Int.toNat_natCast]
 rfl
theorem evsC_drop:∀ (l:List Ev) (k:Nat),(evsC l).drop (k * 6) = evsC (l.drop k)
 | l,0 => by simp
 | [],k + 1 => by simp[evsC]
 | x :: l,k + 1 => by
   have e:(k + 1) * 6 = (evC x).length + k * 6:=by show _ = 6 + k * 6;omega
   rw[List.drop_succ_cons,←evsC_drop l k,e]
   show List.drop _ (evC x ++ evsC l) = _
   rw[List.drop_length_add_append]
theorem evs_tail {l:List Ev} {lo:Int} (h0:0≤lo) (h:lo≤l.length):((evsC l).drop (lo.toNat * 6)).take ((l.length - lo.toNat) * 6) = evsC (l.drop lo.toNat):=by
 rw[evsC_drop,List.take_of_length_le]
 rw[evsC_len,List.length_drop]
 exact Nat.le_refl _
def thrWas (D:List Ev) (k:Nat):Int:=if k = 0 then 1 else (D.getD (k - 1) ev0).th
def thrK (locs:Int) (D:List Ev) (k:Nat):Bool:=!decide ((D.getD k ev0).th < thrWas D k) && (!decide (4 < (D.getD k ev0).th) && gEv locs (D.getD k ev0))
def gThr (X:Gr):Bool:=allN (X.evs.length - X.locs.toNat) (thrK X.locs (X.evs.drop X.locs.toNat))
theorem sg_threads (h187:F 187 = some A_graph_threads) (h236:F 236 = some A_graph_event) {X:Gr} (h0:0≤X.locs) (hl:X.locs≤X.evs.length) (hn:X.evs.length≤1000):pureS F 187 [.agg (grC X)] = some (.b (gThr X)):=by
 refine pure_of h187 ?_
 have hD:(X.evs.drop X.locs.toNat).length = X.evs.length - X.locs.toNat:=List.length_drop ..
 have finT:(∀ i,i < X.evs.length - X.locs.toNat→thrK X.locs (X.evs.drop X.locs.toNat) i = true)→gThr X = true:=allN_t
 have finF:∀ k,k < X.evs.length - X.locs.toNat→thrK X.locs (X.evs.drop X.locs.toNat) k = false→gThr X = false:=fun k hk h => allN_f hk h
 generalize gThr X = R at finT finF
 have hs:∀ g:G,vSlice 6 (.sl (evsC X.evs) X.evs.length .non) (some (.i .i64 X.locs)) none none g = some (.sl (evsC (X.evs.drop X.locs.toNat)) (X.evs.drop X.locs.toNat).length .non,g):=fun g => by
  rw[vSlice_lo h0 hl,evs_tail h0 hl,hD]
 rw[←hD] at finT finF
 simp (disch:=omega) only[A_graph_threads,wp,qa,qb,qc,gl,o_slice',evo,Option.map_some,Option.map_none,hs]
 generalize X.evs.drop X.locs.toNat = D at finT finF hD
 have s6:∀ b1 b2 b3 b4 b5 b6 c1 c2 c3 c4 c5 c6:AV,splice [b1,b2,b3,b4,b5,b6] 0 [c1,c2,c3,c4,c5,c6] = [c1,c2,c3,c4,c5,c6]:=fun _ _ _ _ _ _ _ _ _ _ _ _ => rfl
 have r5:∀ x:AV,List.replicate 5 x = [x,x,x,x,x]:=fun _ => rfl
 refine W_loop (fun q e g => ∃ k:Nat,q = D.length - k∧k≤D.length∧e 1 = .mp 0 0∧e 3 = .i .i64 (thrWas D k)∧e 10 = .sl (evsC D) D.length .non∧e 11 = .i .i64 D.length∧e 12 = .i .i64 k∧g.hp 0 = some (.cells (grC X) false)∧0 < g.nx∧∀ i,i < k→thrK X.locs D i = true) D.length ?_ ?_
 ·refine ⟨0,rfl,Nat.zero_le _,?_⟩
  simp (disch:=omega) only[wp,qa,qb,qc]
  exact ⟨rfl,rfl,by first | omega | (dsimp only;omega),fun i hi => by omega⟩
 ·rintro q e g ⟨k,rfl,hk,e1,e3,e10,e11,e12,hg,hnx,hall⟩
  by_cases hk':k < D.length
  ·have hk1:(k:Int) < D.length:=by omega
   have hwk:=succ_wrap (k:=k) (by omega)
   have hev:=ev_part hk'
   have hK:thrK X.locs D k = (!decide ((D.getD k ev0).th < thrWas D k) && (!decide (4 < (D.getD k ev0).th) && gEv X.locs (D.getD k ev0))):=rfl
   have hW:thrWas D (k + 1) = (D.getD k ev0).th:=rfl
   have hv:=sg_event h236 (D.getD k ev0) X.locs
   have hf:=finF k hk'
   rw[hK] at hf
   have hall':thrK X.locs D k = true→∀ i,i < k + 1→thrK X.locs D i = true:=by
    intro h i hi
    by_cases hik:i = k
    ·subst hik;exact h
    ·exact hall i (by omega)
   rw[hK] at hall'
   generalize thrWas D k = was at e3 hf hall'
   have t0:=ev_th (D.getD k ev0)
   generalize D.getD k ev0 = ev at hev hW hv hf hall' t0
   have n1:0≠g.nx + 1 + 1:=by omega
   by_cases c1:ev.th < was
   ·obtain rfl:=hf (by simp[c1])
    simp (disch:=omega) only[wp,qa,qb,qc,gl,e1,e3,e10,e11,e12,hg,hk1,hev,c1]
   by_cases c2:4 < ev.th
   ·obtain rfl:=hf (by simp[c2])
    simp (disch:=omega) only[wp,qa,qb,qc,gl,e1,e3,e10,e11,e12,hg,hk1,hev,c1,c2]
   cases c3:gEv X.locs ev
   ·rw[c3] at hv
    obtain rfl:=hf (by simp[c3])
    simp (disch:=omega) only[wp,qa,qb,qc,gl,e1,e3,e10,e11,e12,hg,hk1,hev,c1,c2,hv]
   ·rw[c3] at hv
    have hall':=hall' (by simp[c1,c2,c3])
    simp (disch:=omega) only[wp,qa,qb,qc,gl,e1,e3,e10,e11,e12,hg,hk1,hev,c1,c2,hv,hwk]
    exact ⟨D.length - (k + 1),by omega,k + 1,rfl,by omega,by rw[hW],rfl,by first | omega | (dsimp only;omega),hall'⟩
  ·have hk1:¬ ((k:Int) < D.length):=by omega
   obtain rfl:k = D.length:=by omega
   obtain rfl:=finT hall
   simp (disch:=omega) only[wp,qa,qb,qc,gl,e1,e3,e10,e11,e12,hg,hk1]
end Go.Ab
end
section
set_option linter.unusedVariables false
set_option linter.unusedSimpArgs false
namespace Go.Ab
variable {F:Funs}
def rfK (X:Gr) (i:Nat):Bool:=!((X.evs.getD i ev0).kd != 1 && X.rf.getD i 0 != -1) && !((X.evs.getD i ev0).kd == 1 && (!gWr X (X.rf.getD i 0) (X.evs.getD i ev0).lc || (X.evs.getD (X.rf.getD i 0).toNat ev0).vl != (X.evs.getD i ev0).vl))
def gRf (X:Gr):Bool:=((X.rf.length:Int) == X.evs.length) && allN X.evs.length (rfK X)
theorem gWr_in {X:Gr} {i loc:Int} (h:gWr X i loc = true):0≤i∧i < X.evs.length:=by
 unfold gWr at h
 simp only[Bool.and_eq_true,decide_eq_true_eq] at h
 exact ⟨h.1.1.1,h.1.1.2⟩
theorem sg_rf (h188:F 188 = some A_graph_rf) (h237:F 237 = some A_graph_write) {X:Gr} (hn:X.evs.length≤1000):pureS F 188 [.agg (grC X)] = some (.b (gRf X)):=by
 refine pure_of h188 ?_
 have hR:gRf X = (((X.rf.length:Int) == X.evs.length) && allN X.evs.length (rfK X)):=rfl
 cases c0:((X.rf.length:Int) == (X.evs.length:Int))
 ·rw[c0] at hR
  have c0':((X.rf.length:Int) != (X.evs.length:Int)) = true:=by unfold bne;rw[c0];rfl
  rw[hR]
  simp (disch:=omega) only[A_graph_rf,wp,qa,qb,qc,gl,c0']
 rw[c0,Bool.true_and] at hR
 have c0':((X.rf.length:Int) != (X.evs.length:Int)) = false:=by unfold bne;rw[c0];rfl
 have hrl:X.rf.length = X.evs.length:=by have:=of_decide_eq_true (p:=(X.rf.length:Int) = X.evs.length) (by simpa using c0);omega
 have finT:(∀ i,i < X.evs.length→rfK X i = true)→gRf X = true:=fun h => by rw[hR];exact allN_t h
 have finF:∀ k,k < X.evs.length→rfK X k = false→gRf X = false:=fun k hk h => by rw[hR];exact allN_f hk h
 clear hR
 generalize gRf X = R at finT finF
 have r5:∀ x:AV,List.replicate 5 x = [x,x,x,x,x]:=fun _ => rfl
 simp (disch:=omega) only[A_graph_rf,wp,qa,qb,qc,gl,c0']
 refine W_loop (fun q e g => ∃ k:Nat,q = X.evs.length - k∧k≤X.evs.length∧e 1 = .mp 0 0∧e 14 = .sl (evsC X.evs) X.evs.length .non∧e 15 = .i .i64 X.evs.length∧e 16 = .i .i64 k∧g.hp 0 = some (.cells (grC X) false)∧0 < g.nx∧∀ i,i < k→rfK X i = true) X.evs.length ?_ ?_
 ·refine ⟨0,rfl,Nat.zero_le _,?_⟩
  simp (disch:=omega) only[wp,qa,qb,qc]
  exact ⟨rfl,by first | omega | (dsimp only;omega),fun i hi => by omega⟩
 ·rintro q e g ⟨k,rfl,hk,e1,e14,e15,e16,hg,hnx,hall⟩
  by_cases hk':k < X.evs.length
  ·have hk1:(k:Int) < X.evs.length:=by omega
   have hkr:(k:Int) < X.rf.length:=by omega
   have hwk:=succ_wrap (k:=k) (by omega)
   have hev:=ev_part hk'
   have hrf:=ints_part (l:=X.rf) (k:=k) (by omega)
   have hK:rfK X k = (!((X.evs.getD k ev0).kd != 1 && X.rf.getD k 0 != -1) && !((X.evs.getD k ev0).kd == 1 && (!gWr X (X.rf.getD k 0) (X.evs.getD k ev0).lc || (X.evs.getD (X.rf.getD k 0).toNat ev0).vl != (X.evs.getD k ev0).vl))):=rfl
   have hf:=finF k hk'
   rw[hK] at hf
   have hall':rfK X k = true→∀ i,i < k + 1→rfK X i = true:=by
    intro h i hi
    by_cases hik:i = k
    ·subst hik;exact h
    ·exact hall i (by omega)
   rw[hK] at hall'
   have hw:=sg_write h237 X (X.rf.getD k 0) (X.evs.getD k ev0).lc
   have hin:=gWr_in (X:=X) (i:=X.rf.getD k 0) (loc:=(X.evs.getD k ev0).lc)
   generalize X.rf.getD k 0 = w at hrf hf hall' hw hin
   have n1:0≠g.nx + 2 + 1:=by omega
   cases c1:((X.evs.getD k ev0).kd == 1)
   ·have c1':((X.evs.getD k ev0).kd != 1) = true:=by unfold bne;rw[c1];rfl
    rw[c1,c1'] at hf hall'
    generalize X.evs.getD k ev0 = ev at hev hw c1 c1'
    cases c2:(w != -1)
    ·rw[c2] at hall'
     have hall':=hall' rfl
     simp (disch:=omega) only[wp,qa,qb,qc,gl,e1,e14,e15,e16,hg,hk1,hkr,hev,hrf,c1,c1',c2,hwk]
     exact ⟨X.evs.length - (k + 1),by omega,k + 1,rfl,by omega,rfl,by first | omega | (dsimp only;omega),hall'⟩
    ·rw[c2] at hf
     obtain rfl:=hf rfl
     simp (disch:=omega) only[wp,qa,qb,qc,gl,e1,e14,e15,e16,hg,hk1,hkr,hev,hrf,c1,c1',c2]
   ·have c1':((X.evs.getD k ev0).kd != 1) = false:=by unfold bne;rw[c1];rfl
    rw[c1,c1'] at hf hall'
    generalize X.evs.getD k ev0 = ev at hev hw c1 c1' hf hall' hin
    cases c2:gWr X w ev.lc
    ·rw[c2] at hf hw
     obtain rfl:=hf rfl
     simp (disch:=omega) only[wp,qa,qb,qc,gl,e1,e14,e15,e16,hg,hk1,hkr,hev,hrf,c1,c1',hw]
    ·rw[c2] at hf hw hall'
     obtain ⟨w0,w1⟩:=hin c2
     have va:=ev_vl_at (l:=X.evs) (k:=w.toNat) (by omega)
     have da:(List.drop (w.toNat * 6) (evsC X.evs)).length = X.evs.length * 6 - w.toNat * 6:=by rw[List.length_drop,evsC_len]
     cases c3:((X.evs.getD w.toNat ev0).vl != ev.vl)
     ·rw[c3] at hall'
      have hall':=hall' rfl
      simp (disch:=omega) only[wp,qa,qb,qc,gl,e1,e14,e15,e16,hg,hk1,hkr,hev,hrf,c1,c1',hw,w0,w1,va,da,c3,hwk]
      exact ⟨X.evs.length - (k + 1),by omega,k + 1,rfl,by omega,rfl,by first | omega | (dsimp only;omega),hall'⟩
     ·rw[c3] at hf
      obtain rfl:=hf rfl
      simp (disch:=omega) only[wp,qa,qb,qc,gl,e1,e14,e15,e16,hg,hk1,hkr,hev,hrf,c1,c1',hw,w0,w1,va,da,c3]
  ·have hk1:¬ ((k:Int) < X.evs.length):=by omega
   obtain rfl:k = X.evs.length:=by omega
   obtain rfl:=finT hall
   simp (disch:=omega) only[wp,qa,qb,qc,gl,e1,e14,e15,e16,hg,hk1]
end Go.Ab
end
section
set_option linter.unusedVariables false
set_option linter.unusedSimpArgs false
namespace Go.Ab
variable {F:Funs}
def lsK (X:Gr) (may:Ev→Ev→Bool) (l:List (Int × Int)) (i:Nat):Bool:=
 !decide ((l.getD i (0,0)).1 < 0) && (!decide ((X.evs.length:Int)≤(l.getD i (0,0)).2) && (!decide ((l.getD i (0,0)).2≤(l.getD i (0,0)).1) && (!(decide (0 < i) && decide (0≤ordP (l.getD (i - 1) (0,0)) (l.getD i (0,0)))) && may (X.evs.getD (l.getD i (0,0)).1.toNat ev0) (X.evs.getD (l.getD i (0,0)).2.toNat ev0))))
def gList (X:Gr) (may:Ev→Ev→Bool) (l:List (Int × Int)):Bool:=allN l.length (lsK X may l)
theorem frz_p2 (hp) (x y:Int):frz hp depth (.agg [.i .i64 x,.i .i64 y]) = some (.agg [.i .i64 x,.i .i64 y]):=by
 show frz hp (8 + 1) _ = _
 simp only[frz,frzL,Option.map_some]
theorem vis_p2 (hp) (x y:Int):vis hp depth (.agg [.i .i64 x,.i .i64 y]) = []:=by
 show vis hp (8 + 1) _ = _
 simp only[vis,List.flatMap_cons,List.flatMap_nil,List.append_nil]
theorem sg_list (h192:F 192 = some A_graph_list) (h239:F 239 = some A_graph_order) (pc:Pk_cmp F) {X:Gr} (hn:X.evs.length≤1000) {fid:Nat} {may:Ev→Ev→Bool} (hmay:∀ a b,pureS F fid [.agg (evC a),.agg (evC b)] = some (.b (may a b))) (l:List (Int × Int)) (hl:l.length≤1000):pureS F 192 [.agg (grC X),.sl (pairsC l) l.length .non,.fn fid [] []] = some (.b (gList X may l)):=by
 refine pure_of h192 ?_
 have finT:(∀ i,i < l.length→lsK X may l i = true)→gList X may l = true:=allN_t
 have finF:∀ k,k < l.length→lsK X may l k = false→gList X may l = false:=fun k hk h => allN_f hk h
 generalize gList X may l = R at finT finF
 simp (disch:=omega) only[A_graph_list,wp,qa,qb,qc,gl]
 refine W_loop (fun q e g => ∃ k:Nat,q = l.length - k∧k≤l.length∧e 1 = .sl (pairsC l) l.length .non∧e 2 = .fn fid [] []∧e 3 = .mp 0 0∧e 9 = .sl (pairsC l) l.length .non∧e 10 = .i .i64 l.length∧e 11 = .i .i64 k∧g.hp 0 = some (.cells (grC X) false)∧0 < g.nx∧∀ i,i < k→lsK X may l i = true) l.length ?_ ?_
 ·refine ⟨0,rfl,Nat.zero_le _,?_⟩
  simp (disch:=omega) only[wp,qa,qb,qc]
  exact ⟨rfl,by first | omega | (dsimp only;omega),fun i hi => by omega⟩
 ·rintro q e g ⟨k,rfl,hk,e1,e2,e3,e9,e10,e11,hg,hnx,hall⟩
  by_cases hk':k < l.length
  ·have hk1:(k:Int) < l.length:=by omega
   have hwk:=succ_wrap (k:=k) (by omega)
   have hpp:=pairs_part hk'
   have hK:lsK X may l k = (!decide ((l.getD k (0,0)).1 < 0) && (!decide ((X.evs.length:Int)≤(l.getD k (0,0)).2) && (!decide ((l.getD k (0,0)).2≤(l.getD k (0,0)).1) && (!(decide (0 < k) && decide (0≤ordP (l.getD (k - 1) (0,0)) (l.getD k (0,0)))) && may (X.evs.getD (l.getD k (0,0)).1.toNat ev0) (X.evs.getD (l.getD k (0,0)).2.toNat ev0))))):=rfl
   have hf:=finF k hk'
   rw[hK] at hf
   have hall':lsK X may l k = true→∀ i,i < k + 1→lsK X may l i = true:=by
    intro h i hi
    by_cases hik:i = k
    ·subst hik;exact h
    ·exact hall i (by omega)
   rw[hK] at hall'
   have ho:=sg_order pc h239 (l.getD (k - 1) (0,0)) (l.getD k (0,0))
   have hpq:=pairs_part (l:=l) (k:=k - 1) (by omega)
   have dq:(List.drop ((k - 1) * 2) (pairsC l)).length = l.length * 2 - (k - 1) * 2:=by rw[List.length_drop,pairsC_len]
   generalize l.getD k (0,0) = p at hpp hf hall' ho
   generalize l.getD (k - 1) (0,0) = pq at hf hall' ho hpq
   obtain ⟨a,b⟩:=p
   have s2:∀ b1 b2 c1 c2:AV,splice [b1,b2] 0 [c1,c2] = [c1,c2]:=fun _ _ _ _ => rfl
   have n1:0≠g.nx + 2 + 1:=by omega
   simp only at hpp hf hall' ho
   by_cases c1:a < 0
   ·obtain rfl:=hf (by simp[c1])
    simp (disch:=omega) only[wp,qa,qb,qc,gl,s2,frz_p2,vis_p2,e1,e2,e3,e9,e10,e11,hg,hk1,hpp,c1]
   by_cases c2:(X.evs.length:Int)≤b
   ·obtain rfl:=hf (by simp[c2])
    simp (disch:=omega) only[wp,qa,qb,qc,gl,s2,frz_p2,vis_p2,e1,e2,e3,e9,e10,e11,hg,hk1,hpp,c1,c2]
   by_cases c3:b≤a
   ·obtain rfl:=hf (by simp[c3])
    simp (disch:=omega) only[wp,qa,qb,qc,gl,s2,frz_p2,vis_p2,e1,e2,e3,e9,e10,e11,hg,hk1,hpp,c1,c2,c3]
   have hm:=hmay (X.evs.getD a.toNat ev0) (X.evs.getD b.toNat ev0)
   have pa:=ev_part (l:=X.evs) (k:=a.toNat) (by omega)
   have pb:=ev_part (l:=X.evs) (k:=b.toNat) (by omega)
   generalize X.evs.getD a.toNat ev0 = ea at hm pa hf hall'
   generalize X.evs.getD b.toNat ev0 = eb at hm pb hf hall'
   have a0:0≤a:=by omega
   have an:a < X.evs.length:=by omega
   have b0:0≤b:=by omega
   have bn:b < X.evs.length:=by omega
   by_cases c4:0 < k
   ·have c4':(0:Int) < k:=by omega
    have hw1:IntKind.i64.wrap ((k:Int) - 1) = ((k - 1:Nat):Int):=by rw[i64_wrap (by omega) (by omega)];omega
    have km:((k - 1:Nat):Int) < l.length:=by omega
    by_cases c5:0≤ordP pq (a,b)
    ·obtain rfl:=hf (by simp[c4,c5])
     simp (disch:=omega) only[wp,qa,qb,qc,gl,s2,frz_p2,vis_p2,e1,e2,e3,e9,e10,e11,hg,hk1,hpp,c1,c2,c3,c4',hw1,km,hpq,dq,ho,c5]
    ·cases c6:may ea eb
     ·rw[c6] at hm
      obtain rfl:=hf (by simp[c6])
      simp (disch:=omega) only[wp,qa,qb,qc,gl,s2,frz_p2,vis_p2,e1,e2,e3,e9,e10,e11,hg,hk1,hpp,c1,c2,c3,c4',hw1,km,hpq,dq,ho,c5,pa,pb,a0,an,b0,bn,hm]
     ·rw[c6] at hm
      have hall':=hall' (by simp[c1,c2,c3,c5,c6])
      simp (disch:=omega) only[wp,qa,qb,qc,gl,s2,frz_p2,vis_p2,e1,e2,e3,e9,e10,e11,hg,hk1,hpp,c1,c2,c3,c4',hw1,km,hpq,dq,ho,c5,pa,pb,a0,an,b0,bn,hm,hwk]
      exact ⟨l.length - (k + 1),by omega,k + 1,rfl,by omega,rfl,by first | omega | (dsimp only;omega),hall'⟩
   ·have c4':¬ (0:Int) < k:=by omega
    cases c6:may ea eb
    ·rw[c6] at hm
     obtain rfl:=hf (by simp[c6])
     simp (disch:=omega) only[wp,qa,qb,qc,gl,s2,frz_p2,vis_p2,e1,e2,e3,e9,e10,e11,hg,hk1,hpp,c1,c2,c3,c4',pa,pb,a0,an,b0,bn,hm]
    ·rw[c6] at hm
     have hall':=hall' (by simp[c1,c2,c3,c4,c6])
     simp (disch:=omega) only[wp,qa,qb,qc,gl,s2,frz_p2,vis_p2,e1,e2,e3,e9,e10,e11,hg,hk1,hpp,c1,c2,c3,c4',pa,pb,a0,an,b0,bn,hm,hwk]
     exact ⟨l.length - (k + 1),by omega,k + 1,rfl,by omega,rfl,by first | omega | (dsimp only;omega),hall'⟩
  ·have hk1:¬ ((k:Int) < l.length):=by omega
   obtain rfl:k = l.length:=by omega
   obtain rfl:=finT hall
   simp (disch:=omega) only[wp,qa,qb,qc,gl,e1,e2,e3,e9,e10,e11,hg,hk1]
end Go.Ab
end
section
set_option linter.unusedVariables false
set_option linter.unusedSimpArgs false
namespace Go.Ab
variable {F:Funs}
def nEx (X:Gr) (k:Nat):Nat:=((X.evs.take k).filter (·.ex)).length
theorem nEx_succ {X:Gr} {k:Nat} (h:k < X.evs.length):nEx X (k + 1) = if (X.evs.getD k ev0).ex then nEx X k + 1 else nEx X k:=by
 unfold nEx
 rw[List.take_add_one,List.filter_append,List.getElem?_eq_getElem h,List.getD_eq_getElem?_getD,List.getElem?_eq_getElem h,List.length_append]
 simp only[Option.toList_some,Option.getD_some,List.filter_cons,List.filter_nil]
 split<;>simp
theorem nEx_le (X:Gr) (k:Nat):nEx X k≤k:=by
 unfold nEx
 have h1:=List.length_filter_le (·.ex) (X.evs.take k)
 rw[List.length_take] at h1
 omega
def rmLast (X:Gr) (k:Nat):Int:=if k = 0 then -1 else (X.rmw.getD (k - 1) (0,0)).2
def rmK (X:Gr) (k:Nat):Bool:=!((X.rmw.getD k (0,0)).2 != (X.rmw.getD k (0,0)).1 + 1) && !decide ((X.rmw.getD k (0,0)).1≤rmLast X k)
def gRmw (X:Gr):Bool:=gList X mayR X.rmw && (allN X.rmw.length (rmK X) && ((nEx X X.evs.length:Int) == 2 * (X.rmw.length:Int)))
theorem gList_at {X:Gr} {may} {l:List (Int × Int)} (h:gList X may l = true) {k:Nat} (hk:k < l.length):0≤(l.getD k (0,0)).1∧(l.getD k (0,0)).1 < (l.getD k (0,0)).2∧(l.getD k (0,0)).2 < X.evs.length:=by
 have:=allN_iff.1 h k hk
 unfold lsK at this
 simp only[Bool.and_eq_true,Bool.not_eq_true',decide_eq_false_iff_not] at this
 obtain ⟨h1,h2,h3,_⟩:=this
 omega
theorem sg_rmw (h190:F 190 = some A_graph_rmw) (h238:F 238 = some A_graph_rmw_1) (h192:F 192 = some A_graph_list) (h239:F 239 = some A_graph_order) (pc:Pk_cmp F) {X:Gr} (hn:X.evs.length≤1000) (hr:X.rmw.length≤1000):pureS F 190 [.agg (grC X)] = some (.b (gRmw X)):=by
 refine pure_of h190 ?_
 have hR:gRmw X = (gList X mayR X.rmw && (allN X.rmw.length (rmK X) && ((nEx X X.evs.length:Int) == 2 * (X.rmw.length:Int)))):=rfl
 have hl:=sg_list h192 h239 pc hn (sg_mayR h238) X.rmw hr
 cases c0:gList X mayR X.rmw
 ·rw[c0] at hR hl
  rw[hR]
  simp (disch:=omega) only[A_graph_rmw,wp,qa,qb,qc,gl,hl]
 rw[c0] at hl
 rw[c0,Bool.true_and] at hR
 have hat:=fun {k:Nat} (hk:k < X.rmw.length) => gList_at c0 hk
 have finF:∀ k,k < X.rmw.length→rmK X k = false→gRmw X = false:=fun k hk h => by rw[hR,allN_f hk h];rfl
 have finT:(∀ i,i < X.rmw.length→rmK X i = true)→gRmw X = ((nEx X X.evs.length:Int) == 2 * (X.rmw.length:Int)):=fun h => by rw[hR,allN_t h,Bool.true_and]
 clear hR
 generalize gRmw X = R at finT finF
 simp (disch:=omega) only[A_graph_rmw,wp,qa,qb,qc,gl,hl]
 refine blk_cut (fun e g => e 1 = .mp 0 0∧e 4 = .i .i64 (nEx X X.evs.length:Nat)∧g.hp 0 = some (.cells (grC X) false)∧0 < g.nx) ?_ ?_
 ·refine W_loop (fun q e g => ∃ k:Nat,q = X.evs.length - k∧k≤X.evs.length∧e 1 = .mp 0 0∧e 4 = .i .i64 (nEx X k:Nat)∧e 17 = .sl (evsC X.evs) X.evs.length .non∧e 18 = .i .i64 X.evs.length∧e 19 = .i .i64 k∧g.hp 0 = some (.cells (grC X) false)∧0 < g.nx) X.evs.length ?_ ?_
  ·refine ⟨0,rfl,Nat.zero_le _,?_⟩
   simp (disch:=omega) only[wp,qa,qb,qc]
   exact ⟨rfl,rfl,by first | omega | (dsimp only;omega)⟩
  ·rintro q e g ⟨k,rfl,hk,e1,e4,e17,e18,e19,hg,hnx⟩
   by_cases hk':k < X.evs.length
   ·have hk1:(k:Int) < X.evs.length:=by omega
    have hwk:=succ_wrap (k:=k) (by omega)
    have hev:=ev_part hk'
    have hs:=nEx_succ hk'
    have hle:=nEx_le X k
    generalize nEx X k = c at e4 hs hle
    have hwc:=succ_wrap (k:=c) (by omega)
    generalize X.evs.getD k ev0 = ev at hev hs
    have n1:0≠g.nx + 1 + 1:=by omega
    cases c1:ev.ex
    ·rw[c1] at hs
     simp (disch:=omega) only[wp,qa,qb,qc,gl,e1,e4,e17,e18,e19,hg,hk1,hev,c1,hwk]
     exact ⟨X.evs.length - (k + 1),by omega,k + 1,rfl,by omega,by rw[hs];rfl,rfl,by first | omega | (dsimp only;omega)⟩
    ·rw[c1] at hs
     simp (disch:=omega) only[wp,qa,qb,qc,gl,e1,e4,e17,e18,e19,hg,hk1,hev,c1,hwk,hwc]
     exact ⟨X.evs.length - (k + 1),by omega,k + 1,rfl,by omega,by rw[hs];rfl,rfl,by first | omega | (dsimp only;omega)⟩
   ·have hk1:¬ ((k:Int) < X.evs.length):=by omega
    obtain rfl:k = X.evs.length:=by omega
    simp (disch:=omega) only[wp,qa,qb,qc,gl,e1,e4,e17,e18,e19,hg,hk1]
    exact (by first | omega | (dsimp only;omega))
 ·rintro e g ⟨e1,e4,hg,hnx⟩
  generalize nEx X X.evs.length = N at e4 finT
  simp (disch:=omega) only[wp,qa,qb,qc,gl,e1,e4,hg]
  refine W_loop (fun q e g => ∃ k:Nat,q = X.rmw.length - k∧k≤X.rmw.length∧e 1 = .mp 0 0∧e 4 = .i .i64 N∧e 7 = .i .i64 (rmLast X k)∧e 29 = .sl (pairsC X.rmw) X.rmw.length .non∧e 30 = .i .i64 X.rmw.length∧e 31 = .i .i64 k∧g.hp 0 = some (.cells (grC X) false)∧0 < g.nx∧∀ i,i < k→rmK X i = true) X.rmw.length ?_ ?_
  ·refine ⟨0,rfl,Nat.zero_le _,?_⟩
   simp (disch:=omega) only[wp,qa,qb,qc,e1,e4]
   exact ⟨rfl,rfl,hg,by first | omega | (dsimp only;omega),fun i hi => by omega⟩
  ·rintro q e g ⟨k,rfl,hk,e1,e4,e7,e29,e30,e31,hg,hnx,hall⟩
   by_cases hk':k < X.rmw.length
   ·have hk1:(k:Int) < X.rmw.length:=by omega
    have hwk:=succ_wrap (k:=k) (by omega)
    have hpp:=pairs_part hk'
    have hb:=hat hk'
    have hK:rmK X k = (!((X.rmw.getD k (0,0)).2 != (X.rmw.getD k (0,0)).1 + 1) && !decide ((X.rmw.getD k (0,0)).1≤rmLast X k)):=rfl
    have hL:rmLast X (k + 1) = (X.rmw.getD k (0,0)).2:=rfl
    have hf:=finF k hk'
    rw[hK] at hf
    have hall':rmK X k = true→∀ i,i < k + 1→rmK X i = true:=by
     intro h i hi
     by_cases hik:i = k
     ·subst hik;exact h
     ·exact hall i (by omega)
    rw[hK] at hall'
    generalize rmLast X k = la at e7 hf hall'
    generalize X.rmw.getD k (0,0) = p at hpp hf hall' hL hb
    obtain ⟨a,b⟩:=p
    simp only at hpp hf hall' hL hb
    have s2:∀ b1 b2 c1 c2:AV,splice [b1,b2] 0 [c1,c2] = [c1,c2]:=fun _ _ _ _ => rfl
    have n1:0≠g.nx + 1 + 1:=by omega
    have hwa:IntKind.i64.wrap (a + 1) = a + 1:=by rw[i64_wrap (by omega) (by omega)]
    cases c1:(b != a + 1)
    ·by_cases c2:a≤la
     ·obtain rfl:=hf (by simp[c2])
      simp (disch:=omega) only[wp,qa,qb,qc,gl,s2,e1,e4,e7,e29,e30,e31,hg,hk1,hpp,hwa,c1,c2]
     ·rw[c1] at hall'
      have hall':=hall' (by simp[c2])
      simp (disch:=omega) only[wp,qa,qb,qc,gl,s2,e1,e4,e7,e29,e30,e31,hg,hk1,hpp,hwa,c1,c2,hwk]
      exact ⟨X.rmw.length - (k + 1),by omega,k + 1,rfl,by omega,by rw[hL],rfl,by first | omega | (dsimp only;omega),hall'⟩
    ·rw[c1] at hf
     obtain rfl:=hf rfl
     simp (disch:=omega) only[wp,qa,qb,qc,gl,s2,e1,e4,e7,e29,e30,e31,hg,hk1,hpp,hwa,c1]
   ·have hk1:¬ ((k:Int) < X.rmw.length):=by omega
    obtain rfl:k = X.rmw.length:=by omega
    obtain rfl:=finT hall
    have hwm:IntKind.i64.wrap (2 * (X.rmw.length:Int)) = 2 * (X.rmw.length:Int):=by rw[i64_wrap (by omega) (by omega)]
    simp (disch:=omega) only[wp,qa,qb,qc,gl,e1,e4,e7,e29,e30,e31,hg,hk1,hwm]
end Go.Ab
end
section
set_option linter.unusedVariables false
set_option linter.unusedSimpArgs false
namespace Go.Ab
variable {F:Funs}
def seenC (L:List Int):List AV:=(List.range 40).map fun i:Nat => .b (L.contains (i:Int))
theorem seenC_len (L):(seenC L).length = 40:=by simp[seenC]
theorem seenC_zero:List.replicate 40 (AV.b false) = seenC []:=by rfl
theorem seen_at {L:List Int} {a:Nat} (h:a < 40):part (seenC L) (a * 1) none = some (.b (L.contains (a:Int))):=by
 simp only[part,seenC,Nat.mul_one,List.getElem?_map,List.getElem?_range h,Option.map_some]
theorem seen_set {L:List Int} {a:Nat} (h:a < 40):(seenC L).set (a * 1) (.b true) = seenC (L ++ [(a:Int)]):=by
 rw[Nat.mul_one]
 refine List.ext_getElem? fun i => ?_
 rw[List.getElem?_set]
 unfold seenC
 simp only[List.length_map,List.length_range,List.getElem?_map]
 by_cases hi:a = i
 ·subst hi
  rw[if_pos rfl,if_pos h,List.getElem?_range h]
  simp
 ·rw[if_neg hi]
  by_cases hl:i < 40
  ·rw[List.getElem?_range hl]
   simp only[Option.map_some,Option.some.injEq,AV.b.injEq,List.contains_eq_mem,List.mem_append,List.mem_singleton]
   have hne:¬ ((i:Int) = (a:Int)):=by omega
   simp[hne]
  ·rw[List.getElem?_eq_none (by simp;omega)];rfl
def coS' (X:Gr) (k j:Nat):List Int:=(X.co.take k).flatten ++ (X.co.getD k []).take j
theorem coS'_succ {X:Gr} {k j:Nat} (h:j < (X.co.getD k []).length):coS' X k (j + 1) = coS' X k j ++ [(X.co.getD k []).getD j 0]:=by
 unfold coS'
 rw[List.take_add_one,List.getElem?_eq_getElem h,List.append_assoc,List.getD_eq_getElem?_getD (l:=X.co.getD k []),List.getElem?_eq_getElem h]
 rfl
theorem coS'_next {X:Gr} {k:Nat} (h:k < X.co.length):coS' X k (X.co.getD k []).length = coS' X (k + 1) 0:=by
 unfold coS'
 rw[List.take_length,List.take_zero,List.append_nil,List.take_add_one,List.getElem?_eq_getElem h,List.getD_eq_getElem?_getD,List.getElem?_eq_getElem h,List.flatten_append]
 simp
theorem coS'_end (X:Gr):coS' X X.co.length 0 = X.co.flatten:=by
 unfold coS'
 rw[List.take_length,List.take_zero,List.append_nil]
theorem coS'_le {X:Gr} {k j:Nat} (h:k < X.co.length):(coS' X k j).length≤X.co.flatten.length:=by
 have e:X.co = X.co.take k ++ X.co.drop k:=(List.take_append_drop k X.co).symm
 have e2:X.co.drop k = X.co.getD k [] :: X.co.drop (k + 1):=by
  rw[List.drop_eq_getElem_cons h,List.getD_eq_getElem?_getD,List.getElem?_eq_getElem h];rfl
 have e3:X.co.flatten = (X.co.take k).flatten ++ (X.co.getD k [] ++ (X.co.drop (k + 1)).flatten):=by
  conv => lhs;rw[e,e2]
  rw[List.flatten_append,List.flatten_cons]
 rw[e3]
 unfold coS'
 simp only[List.length_append,List.length_take]
 omega
def ciK (X:Gr) (k j:Nat):Bool:=gWr X ((X.co.getD k []).getD j 0) k && !(coS' X k j).contains ((X.co.getD k []).getD j 0)
def coK (X:Gr) (k:Nat):Bool:=!(((X.co.getD k []).length:Int) == 0) && (!((X.co.getD k []).getD 0 0 != (k:Int)) && allN (X.co.getD k []).length (ciK X k))
def nWr (X:Gr) (k:Nat):Nat:=((X.evs.take k).filter (·.kd == 2)).length
theorem nWr_succ {X:Gr} {k:Nat} (h:k < X.evs.length):nWr X (k + 1) = if (X.evs.getD k ev0).kd == 2 then nWr X k + 1 else nWr X k:=by
 unfold nWr
 rw[List.take_add_one,List.filter_append,List.getElem?_eq_getElem h,List.getD_eq_getElem?_getD,List.getElem?_eq_getElem h,List.length_append]
 simp only[Option.toList_some,Option.getD_some,List.filter_cons,List.filter_nil]
 split<;>simp
theorem nWr_le (X:Gr) (k:Nat):nWr X k≤k:=by
 unfold nWr
 have h1:=List.length_filter_le (·.kd == 2) (X.evs.take k)
 rw[List.length_take] at h1
 omega
def gCo (X:Gr):Bool:=((X.co.length:Int) == X.locs) && (allN X.co.length (coK X) && ((X.co.flatten.length:Int) - (nWr X X.evs.length:Int) == 0))
theorem sg_co (h189:F 189 = some A_graph_co) (h237:F 237 = some A_graph_write) {X:Gr} (hn:X.evs.length≤40) (hc:X.co.flatten.length≤1000) (hc6:X.co.length≤1000) (hcl:∀ k,(X.co.getD k []).length≤1000):pureS F 189 [.agg (grC X)] = some (.b (gCo X)):=by
 refine pure_of h189 ?_
 have hR:gCo X = (((X.co.length:Int) == X.locs) && (allN X.co.length (coK X) && ((X.co.flatten.length:Int) - (nWr X X.evs.length:Int) == 0))):=rfl
 cases c0:((X.co.length:Int) == X.locs)
 ·rw[c0] at hR
  have c0':((X.co.length:Int) != X.locs) = true:=by unfold bne;rw[c0];rfl
  rw[hR]
  simp (disch:=omega) only[A_graph_co,wp,qa,qb,qc,gl,c0']
 rw[c0,Bool.true_and] at hR
 have c0':((X.co.length:Int) != X.locs) = false:=by unfold bne;rw[c0];rfl
 have finF:∀ k,k < X.co.length→coK X k = false→gCo X = false:=fun k hk h => by rw[hR,allN_f hk h];rfl
 have finT:(∀ i,i < X.co.length→coK X i = true)→gCo X = ((X.co.flatten.length:Int) - (nWr X X.evs.length:Int) == 0):=fun h => by rw[hR,allN_t h,Bool.true_and]
 clear hR
 generalize gCo X = R at finT finF
 simp (disch:=omega) only[A_graph_co,wp,qa,qb,qc,gl,c0',seenC_zero]
 refine blk_cutR (fun e g => e 1 = .mp 0 0∧e 3 = .i .i64 X.co.flatten.length∧g.hp 0 = some (.cells (grC X) false)∧0 < g.nx∧∀ i,i < X.co.length→coK X i = true) ?_ ?_
 ·refine W_loop (fun q e g => ∃ k:Nat,q = X.co.length - k∧k≤X.co.length∧e 1 = .mp 0 0∧e 3 = .i .i64 (coS' X k 0).length∧e 4 = .mp 9 0∧e 18 = .sl (coC X.co) X.co.length .non∧e 19 = .i .i64 X.co.length∧e 20 = .i .i64 k∧g.hp 0 = some (.cells (grC X) false)∧g.hp 9 = some (.cells (seenC (coS' X k 0)) false)∧9 < g.nx∧∀ i,i < k→coK X i = true) X.co.length ?_ ?_
  ·refine ⟨0,rfl,Nat.zero_le _,?_⟩
   simp (disch:=omega) only[wp,qa,qb,qc]
   exact ⟨rfl,rfl,rfl,by first | omega | (dsimp only;omega),fun i hi => by omega⟩
  ·rintro q e g ⟨k,rfl,hk,e1,e3,e4,e18,e19,e20,hg,hs,hnx,hall⟩
   by_cases hk':k < X.co.length
   ·have hk1:(k:Int) < X.co.length:=by omega
    have hwk:=succ_wrap (k:=k) (by omega)
    have hcp:=co_part hk'
    have hK:coK X k = (!(((X.co.getD k []).length:Int) == 0) && (!((X.co.getD k []).getD 0 0 != (k:Int)) && allN (X.co.getD k []).length (ciK X k))):=rfl
    have hci:∀ j,ciK X k j = (gWr X ((X.co.getD k []).getD j 0) k && !(coS' X k j).contains ((X.co.getD k []).getD j 0)):=fun _ => rfl
    have hf:=finF k hk'
    rw[hK] at hf
    have hall':coK X k = true→∀ i,i < k + 1→coK X i = true:=by
     intro h i hi
     by_cases hik:i = k
     ·subst hik;exact h
     ·exact hall i (by omega)
    rw[hK] at hall'
    have hll:=hcl k
    have hsu:=fun {j:Nat} (h:j < (X.co.getD k []).length) => coS'_succ h
    have hnx':=coS'_next hk'
    have hle:=fun j => coS'_le (X:=X) (k:=k) (j:=j) hk'
    generalize X.co.getD k [] = l at hcp hf hall' hll hsu hnx' hci
    cases c1:((l.length:Int) == 0)
    case true =>
     rw[c1] at hf
     obtain rfl:=hf rfl
     simp (disch:=omega) only[wp,qa,qb,qc,gl,e1,e3,e4,e18,e19,e20,hg,hs,hk1,hcp,c1]
    have hl0:0 < l.length:=by have:¬ (l.length:Int) = 0:=by simpa using c1
                              omega
    have hl0':(0:Int) < l.length:=by omega
    have hip:=ints_part hl0
    rw[Nat.zero_mul,List.drop_zero] at hip
    cases c2:(l.getD 0 0 != (k:Int))
    case true =>
     rw[c2] at hf
     obtain rfl:=hf (by simp)
     simp (disch:=omega) only[wp,qa,qb,qc,gl,e1,e3,e4,e18,e19,e20,hg,hs,hk1,hcp,c1,hl0',hip,c2]
    rw[c1,c2] at hf hall'
    have hf:∀ j,j < l.length→ciK X k j = false→R = false:=fun j hj h => hf (by rw[allN_f hj h];rfl)
    have hall':(∀ j,j < l.length→ciK X k j = true)→∀ i,i < k + 1→coK X i = true:=fun h => hall' (by rw[allN_t h];rfl)
    simp (disch:=omega) only[wp,qa,qb,qc,gl,e1,e3,e4,e18,e19,e20,hg,hs,hk1,hcp,c1,hl0',hip,c2]
    refine W_loop (fun q e g => ∃ j:Nat,q = l.length - j∧j≤l.length∧e 1 = .mp 0 0∧e 3 = .i .i64 (coS' X k j).length∧e 4 = .mp 9 0∧e 5 = .i .i64 k∧e 18 = .sl (coC X.co) X.co.length .non∧e 19 = .i .i64 X.co.length∧e 20 = .i .i64 k∧e 35 = .sl (intsC l) l.length .non∧e 36 = .i .i64 l.length∧e 37 = .i .i64 j∧g.hp 0 = some (.cells (grC X) false)∧g.hp 9 = some (.cells (seenC (coS' X k j)) false)∧9 < g.nx∧∀ i,i < j→ciK X k i = true) l.length ?_ ?_
    ·refine ⟨0,rfl,Nat.zero_le _,?_⟩
     simp (disch:=omega) only[wp,qa,qb,qc,e1,e3,e4,e18,e19,e20]
     exact ⟨rfl,hg,hs,by first | omega | (dsimp only;omega),fun i hi => by omega⟩
    ·rintro q e g ⟨j,rfl,hj,e1,e3,e4,e5,e18,e19,e20,e35,e36,e37,hg,hs,hnx,hin⟩
     by_cases hj':j < l.length
     ·have hj1:(j:Int) < l.length:=by omega
      have hwj:=succ_wrap (k:=j) (by omega)
      have hjp:=ints_part hj'
      have hw:=sg_write h237 X (l.getD j 0) k
      have hwin:=gWr_in (X:=X) (i:=l.getD j 0) (loc:=k)
      have hff:=hf j hj'
      have hcj:=hci j
      have hsu:=hsu hj'
      have hlj:=hle j
      rw[hcj] at hff
      have hin':ciK X k j = true→∀ i,i < j + 1→ciK X k i = true:=by
       intro h i hi
       by_cases hij:i = j
       ·subst hij;exact h
       ·exact hin i (by omega)
      rw[hcj] at hin'
      generalize l.getD j 0 = w at hjp hw hwin hff hin' hsu
      generalize coS' X k j = L at e3 hs hff hin' hsu hlj
      have hwc:=succ_wrap (k:=L.length) (by omega)
      cases c3:gWr X w k
      ·rw[c3] at hw hff
       obtain rfl:=hff rfl
       simp (disch:=omega) only[wp,qa,qb,qc,gl,e1,e3,e4,e5,e18,e19,e20,e35,e36,e37,hg,hs,hj1,hjp,hw]
      ·obtain ⟨w0,w1⟩:=hwin c3
       rw[c3] at hw hff hin'
       have ra:=seen_at (L:=L) (a:=w.toNat) (by omega)
       have sa:=seen_set (L:=L) (a:=w.toNat) (by omega)
       have ew:((w.toNat:Nat):Int) = w:=by omega
       rw[ew] at ra sa
       have w40:w < 40:=by omega
       cases c4:L.contains w
       ·rw[c4] at ra hin'
        have hin':=hin' rfl
        simp (disch:=omega) only[wp,qa,qb,qc,gl,e1,e3,e4,e5,e18,e19,e20,e35,e36,e37,hg,hs,hj1,hjp,hw,w0,w40,ra,sa,seenC_len,hwj,hwc]
        refine ⟨l.length - (j + 1),by omega,j + 1,rfl,by omega,by rw[hsu,List.length_append];rfl,rfl,by rw[hsu],by first | omega | (dsimp only;omega),hin'⟩
       ·rw[c4] at ra hff
        obtain rfl:=hff rfl
        simp (disch:=omega) only[wp,qa,qb,qc,gl,e1,e3,e4,e5,e18,e19,e20,e35,e36,e37,hg,hs,hj1,hjp,hw,w0,w40,ra]
     ·have hj1:¬ ((j:Int) < l.length):=by omega
      obtain rfl:j = l.length:=by omega
      rw[hnx'] at e3 hs
      simp (disch:=omega) only[wp,qa,qb,qc,gl,e1,e3,e4,e5,e18,e19,e20,e35,e36,e37,hg,hs,hj1,hwk]
      exact ⟨X.co.length - (k + 1),by omega,k + 1,rfl,by omega,rfl,rfl,by first | rfl | exact hs | omega,by first | omega | (dsimp only;omega),hall' hin⟩
   ·have hk1:¬ ((k:Int) < X.co.length):=by omega
    obtain rfl:k = X.co.length:=by omega
    rw[coS'_end] at e3
    simp (disch:=omega) only[wp,qa,qb,qc,gl,e1,e3,e4,e18,e19,e20,hg,hs,hk1]
    exact ⟨by first | omega | (dsimp only;omega),hall⟩
 ·rintro e g ⟨e1,e3,hg,hnx,hall⟩
  obtain rfl:=finT hall
  generalize X.co.flatten.length = T at e3 hc
  simp (disch:=omega) only[wp,qa,qb,qc,gl,e1,e3,hg]
  refine W_loop (fun q e g => ∃ k:Nat,q = X.evs.length - k∧k≤X.evs.length∧e 1 = .mp 0 0∧e 3 = .i .i64 ((T:Int) - (nWr X k:Nat))∧e 58 = .sl (evsC X.evs) X.evs.length .non∧e 59 = .i .i64 X.evs.length∧e 60 = .i .i64 k∧g.hp 0 = some (.cells (grC X) false)∧0 < g.nx) X.evs.length ?_ ?_
  ·refine ⟨0,rfl,Nat.zero_le _,?_⟩
   simp (disch:=omega) only[wp,qa,qb,qc,e1,e3]
   exact ⟨by simp[nWr],rfl,hg,by first | omega | (dsimp only;omega)⟩
  ·rintro q e g ⟨k,rfl,hk,e1,e3,e58,e59,e60,hg,hnx⟩
   by_cases hk':k < X.evs.length
   ·have hk1:(k:Int) < X.evs.length:=by omega
    have hwk:=succ_wrap (k:=k) (by omega)
    have hev:=ev_part hk'
    have hs:=nWr_succ hk'
    have hle:=nWr_le X k
    generalize nWr X k = c at e3 hs hle
    have hwc:IntKind.i64.wrap ((T:Int) - (c:Nat) - 1) = (T:Int) - ((c + 1:Nat):Int):=by rw[i64_wrap (by omega) (by omega)];omega
    generalize X.evs.getD k ev0 = ev at hev hs
    have n1:0≠g.nx + 1 + 1:=by omega
    cases c1:(ev.kd == 2)
    ·rw[c1] at hs
     simp (disch:=omega) only[wp,qa,qb,qc,gl,e1,e3,e58,e59,e60,hg,hk1,hev,c1,hwk]
     exact ⟨X.evs.length - (k + 1),by omega,k + 1,rfl,by omega,by rw[hs];rfl,rfl,by first | omega | (dsimp only;omega)⟩
    ·rw[c1] at hs
     simp (disch:=omega) only[wp,qa,qb,qc,gl,e1,e3,e58,e59,e60,hg,hk1,hev,c1,hwk,hwc]
     exact ⟨X.evs.length - (k + 1),by omega,k + 1,rfl,by omega,by rw[hs];rfl,rfl,by first | omega | (dsimp only;omega)⟩
   ·have hk1:¬ ((k:Int) < X.evs.length):=by omega
    obtain rfl:k = X.evs.length:=by omega
    simp (disch:=omega) only[wp,qa,qb,qc,gl,e1,e3,e58,e59,e60,hg,hk1]
end Go.Ab
end
section
set_option linter.unusedVariables false
set_option linter.unusedSimpArgs false
namespace Go.Ab
variable {F:Funs}
def gCheck (X:Gr):Bool:=
 !decide (X.locs < 1) && (!decide (4 < X.locs) && (!decide (40 < (X.evs.length:Int)) && (!decide ((X.evs.length:Int) < X.locs) && (gFirst X && (gThr X && (gRf X && (gCo X && (gRmw X && (gList X mayD X.data && (gList X mayD X.ctrl && gList X mayD X.ctrli))))))))))
structure GrFs (F:Funs):Prop where
 chk:F 152 = some A_graph_Check
 fst:F 186 = some A_graph_first
 thr:F 187 = some A_graph_threads
 rf:F 188 = some A_graph_rf
 co:F 189 = some A_graph_co
 rmw:F 190 = some A_graph_rmw
 chk1:F 191 = some A_graph_Check_1
 list:F 192 = some A_graph_list
 event:F 236 = some A_graph_event
 write:F 237 = some A_graph_write
 rmw1:F 238 = some A_graph_rmw_1
 order:F 239 = some A_graph_order
 pc:Pk_cmp F
structure LenG (X:Gr):Prop where
 fl:X.co.flatten.length≤1000
 col:X.co.length≤1000
 cos:∀ k,(X.co.getD k []).length≤1000
 rmw:X.rmw.length≤1000
 data:X.data.length≤1000
 ctrl:X.ctrl.length≤1000
 ctrli:X.ctrli.length≤1000
theorem flat_le:∀ {l:List (List Int)} {m:Nat},(∀ c∈l,c.length≤m)→l.flatten.length≤l.length * m
 | [],_,_ => by simp
 | c :: l,m,h => by
   have h1:=flat_le (l:=l) (m:=m) fun c hc => h c (List.mem_cons_of_mem _ hc)
   have h2:=h c (List.mem_cons_self ..)
   rw[List.flatten_cons,List.length_append,List.length_cons,Nat.succ_mul]
   omega
theorem FewG.len {X:Gr} (h:FewG X):LenG X:=by
 have h1:=flat_le h.cos
 have h2:=h.co
 have h3:X.co.length * 50≤6 * 50:=Nat.mul_le_mul_right _ h2
 refine ⟨by omega,by omega,fun k => ?_,by have:=h.rmw;omega,by have:=h.data;omega,by have:=h.ctrl;omega,by have:=h.ctrli;omega⟩
 by_cases hk:k < X.co.length
 ·have hm:X.co.getD k []∈X.co:=by
   rw[List.getD_eq_getElem?_getD,List.getElem?_eq_getElem hk];exact List.getElem_mem hk
  have:=h.cos _ hm;omega
 ·rw[List.getD_eq_getElem?_getD,List.getElem?_eq_none (by omega)];simp
theorem sg_check (S:GrFs F) {X:Gr} (hX:LenG X):pureS F 152 [.agg (grC X)] = some (.b (gCheck X)):=by
 refine pure_of S.chk ?_
 have hR:gCheck X = (!decide (X.locs < 1) && (!decide (4 < X.locs) && (!decide (40 < (X.evs.length:Int)) && (!decide ((X.evs.length:Int) < X.locs) && (gFirst X && (gThr X && (gRf X && (gCo X && (gRmw X && (gList X mayD X.data && (gList X mayD X.ctrl && gList X mayD X.ctrli))))))))))):=rfl
 generalize gCheck X = R at hR
 by_cases c1:X.locs < 1
 ·obtain rfl:R = false:=by rw[hR];simp[c1]
  simp (disch:=omega) only[A_graph_Check,wp,qa,qb,qc,gl,c1]
 by_cases c2:4 < X.locs
 ·obtain rfl:R = false:=by rw[hR];simp[c2]
  simp (disch:=omega) only[A_graph_Check,wp,qa,qb,qc,gl,c1,c2]
 by_cases c3:40 < (X.evs.length:Int)
 ·obtain rfl:R = false:=by rw[hR];simp[c3]
  simp (disch:=omega) only[A_graph_Check,wp,qa,qb,qc,gl,c1,c2,c3]
 by_cases c4:(X.evs.length:Int) < X.locs
 ·obtain rfl:R = false:=by rw[hR];simp[c4]
  simp (disch:=omega) only[A_graph_Check,wp,qa,qb,qc,gl,c1,c2,c3,c4]
 have h5:=sg_first S.fst (X:=X) (by omega) (by omega) (by omega)
 have h6:=sg_threads S.thr S.event (X:=X) (by omega) (by omega) (by omega)
 have h7:=sg_rf S.rf S.write (X:=X) (by omega)
 have h8:=sg_co S.co S.write (X:=X) (by omega) hX.fl hX.col hX.cos
 have h9:=sg_rmw S.rmw S.rmw1 S.list S.order S.pc (X:=X) (by omega) hX.rmw
 have h10:=sg_list S.list S.order S.pc (X:=X) (by omega) (sg_mayD S.chk1) X.data hX.data
 have h11:=sg_list S.list S.order S.pc (X:=X) (by omega) (sg_mayD S.chk1) X.ctrl hX.ctrl
 have h12:=sg_list S.list S.order S.pc (X:=X) (by omega) (sg_mayD S.chk1) X.ctrli hX.ctrli
 have hR:R = (gFirst X && (gThr X && (gRf X && (gCo X && (gRmw X && (gList X mayD X.data && (gList X mayD X.ctrl && gList X mayD X.ctrli))))))):=by rw[hR];simp[c1,c2,c3,c4]
 generalize gFirst X = b5 at h5 hR
 generalize gThr X = b6 at h6 hR
 generalize gRf X = b7 at h7 hR
 generalize gCo X = b8 at h8 hR
 generalize gRmw X = b9 at h9 hR
 generalize gList X mayD X.data = b10 at h10 hR
 generalize gList X mayD X.ctrl = b11 at h11 hR
 generalize gList X mayD X.ctrli = b12 at h12 hR
 subst hR
 cases b5
 ·simp (disch:=omega) only[A_graph_Check,wp,qa,qb,qc,gl,c1,c2,c3,c4,h5]
 cases b6
 ·simp (disch:=omega) only[A_graph_Check,wp,qa,qb,qc,gl,c1,c2,c3,c4,h5,h6]
 cases b7
 ·simp (disch:=omega) only[A_graph_Check,wp,qa,qb,qc,gl,c1,c2,c3,c4,h5,h6,h7]
 cases b8
 ·simp (disch:=omega) only[A_graph_Check,wp,qa,qb,qc,gl,c1,c2,c3,c4,h5,h6,h7,h8]
 cases b9
 ·simp (disch:=omega) only[A_graph_Check,wp,qa,qb,qc,gl,c1,c2,c3,c4,h5,h6,h7,h8,h9]
 cases b10
 ·simp (disch:=omega) only[A_graph_Check,wp,qa,qb,qc,gl,c1,c2,c3,c4,h5,h6,h7,h8,h9,h10]
 cases b11
 ·simp (disch:=omega) only[A_graph_Check,wp,qa,qb,qc,gl,c1,c2,c3,c4,h5,h6,h7,h8,h9,h10,h11]
 simp (disch:=omega) only[A_graph_Check,wp,qa,qb,qc,gl,c1,c2,c3,c4,h5,h6,h7,h8,h9,h10,h11,h12]
end Go.Ab
end
section
set_option linter.unusedVariables false
set_option linter.unusedSimpArgs false
namespace Go.Ab
def wE (i:Nat):Ev:=⟨0,2,0,(i:Int),0,false⟩
end Go.Ab
end
section
set_option linter.unusedVariables false
set_option linter.unusedSimpArgs false
namespace Go.Ab
def movI (l:List (Int × Int)) (n:Int):List (Int × Int):=l.map fun p => (p.1 + n,p.2 + n)
def thE (t:Int) (e:Ev):Ev:={ e with th:=t }
def layX (X:Gr) (s:RS) (t:Int):Gr:=⟨X.locs,X.evs ++ s.evs.map (thE t),X.rf,X.co,X.rmw ++ movI s.rmw X.evs.length,X.data ++ movI s.data X.evs.length,X.ctrl ++ movI s.ctrl X.evs.length,X.ctrli⟩
def sk0:Gr:=⟨2,[wE 0,wE 1],[],[],[],[],[],[]⟩
def EvS (e:Ev):Prop:=(e.kd = 1∧(e.lc = 0∨e.lc = 1)∧(e.md = 0∨e.md = 1))∨(e.kd = 2∧(e.lc = 0∨e.lc = 1)∧(e.md = 0∨e.md = 2))∨(e.kd = 3∧1≤e.md∧e.md≤4∧e.lc = 0∧e.vl = 0∧e.ex = false)
theorem getD_thE {es:List Ev} {t:Int} {i:Nat} (h:i < es.length):(es.map (thE t)).getD i ev0 = thE t (es.getD i ev0):=by
 rw[List.getD_eq_getElem?_getD,List.getElem?_map,List.getD_eq_getElem?_getD,List.getElem?_eq_getElem h]
 rfl
theorem getD_lay {pre es:List Ev} {t:Int} {i:Nat} (h:i < es.length):(pre ++ es.map (thE t)).getD (i + pre.length) ev0 = thE t (es.getD i ev0):=by
 rw[Nat.add_comm,getD_r,getD_thE h]
theorem toNat_add {x:Int} {n:Nat} (h:0≤x):(x + (n:Int)).toNat = x.toNat + n:=by omega
theorem mov_pw {l:List (Int × Int)} {n:Int} (h:l.Pairwise lessP):(movI l n).Pairwise lessP:=by
 unfold movI
 rw[List.pairwise_map]
 refine h.imp fun {a b} hab => ?_
 unfold lessP at *
 simp only
 omega
theorem mov_mem {l:List (Int × Int)} {n:Int} {p:Int × Int} (h:p∈movI l n):∃ q∈l,p = (q.1 + n,q.2 + n):=by
 obtain ⟨q,h1,h2⟩:=List.mem_map.1 h
 exact ⟨q,h1,h2.symm⟩
theorem DpL.lay {pre es:List Ev} {l m:List (Int × Int)} {t:Int} (h:DpL pre l) (k:DpL es m):DpL (pre ++ es.map (thE t)) (l ++ movI m pre.length):=by
 refine ⟨fun p hp => ?_,?_⟩
 ·rcases List.mem_append.1 hp with hp | hp
  ·exact (h.mono).1 p hp
  ·obtain ⟨q,hq,rfl⟩:=mov_mem hp
   obtain ⟨h0,h1,h2,h3,h4⟩:=k.1 q hq
   have e1:(q.1 + (pre.length:Int)).toNat = q.1.toNat + pre.length:=toNat_add h0
   have e2:(q.2 + (pre.length:Int)).toNat = q.2.toNat + pre.length:=toNat_add (by omega)
   refine ⟨by simp only;omega,by simp only;omega,by simp only[List.length_append,List.length_map];omega,?_,?_⟩
   ·simp only[e1]
    rw[getD_lay (by omega)]
    exact h3
   ·simp only[e1,e2]
    rw[getD_lay (by omega),getD_lay (by omega)]
    rfl
 ·refine List.pairwise_append.2 ⟨h.2,mov_pw k.2,fun p hp q hq => ?_⟩
  obtain ⟨h0,h1,h2,_⟩:=h.1 p hp
  obtain ⟨q,hq',rfl⟩:=mov_mem hq
  obtain ⟨k0,_⟩:=k.1 q hq'
  unfold lessP
  simp only
  omega
theorem inC_mov {l:List (Int × Int)} {n i:Nat}:inC (movI l n) (i + n) = inC l i:=by
 unfold inC movI
 rw[List.filter_map,List.length_map]
 congr 1
 refine List.filter_congr fun p hp => ?_
 simp only[Function.comp,inB]
 have e1:(p.1 + (n:Int) == ((i + n:Nat):Int)) = (p.1 == (i:Int)):=by
  rw[Bool.eq_iff_iff];simp only[beq_iff_eq];omega
 have e2:(p.2 + (n:Int) == ((i + n:Nat):Int)) = (p.2 == (i:Int)):=by
  rw[Bool.eq_iff_iff];simp only[beq_iff_eq];omega
 rw[e1,e2]
theorem RmL.lay {pre es:List Ev} {l m:List (Int × Int)} {t:Int} (h:RmL pre l) (k:RmL es m):RmL (pre ++ es.map (thE t)) (l ++ movI m pre.length):=by
 refine ⟨fun p hp => ?_,fun i hi => ?_,?_,?_⟩
 ·rcases List.mem_append.1 hp with hp | hp
  ·exact (h.pairs p hp).mono
  ·obtain ⟨q,hq,rfl⟩:=mov_mem hp
   obtain ⟨h0,h1,h2,h3,h4⟩:=k.pairs q hq
   have e1:(q.1 + (pre.length:Int)).toNat = q.1.toNat + pre.length:=toNat_add h0
   have e2:(q.2 + (pre.length:Int)).toNat = q.2.toNat + pre.length:=toNat_add (by omega)
   refine ⟨by simp only;omega,by simp only;omega,by simp only[List.length_append,List.length_map];omega,?_⟩
   simp only[e1,e2]
   rw[getD_lay (by omega),getD_lay (by omega)]
   exact ⟨rfl,h4⟩
 ·rw[inC_app]
  rw[List.length_append,List.length_map] at hi
  by_cases c:i < pre.length
  ·have hz:inC (movI m pre.length) i = 0:=inC_zero fun p hp => by
    obtain ⟨q,hq,rfl⟩:=mov_mem hp
    obtain ⟨h0,h1,_⟩:=k.pairs q hq
    simp only
    omega
   rw[hz,getD_l c]
   exact h.once i c
  ·have hz:inC l i = 0:=inC_zero fun p hp => by
    obtain ⟨h0,h1,h2,_⟩:=h.pairs p hp
    omega
   obtain ⟨j,rfl⟩:∃ j,i = j + pre.length:=⟨i - pre.length,by omega⟩
   rw[hz,inC_mov,getD_lay (by omega),Nat.zero_add]
   exact k.once j (by omega)
 ·refine List.pairwise_append.2 ⟨h.rise,mov_pw k.rise,fun p hp q hq => ?_⟩
  obtain ⟨h0,h1,h2,_⟩:=h.pairs p hp
  obtain ⟨q,hq',rfl⟩:=mov_mem hq
  obtain ⟨k0,_⟩:=k.pairs q hq'
  unfold lessP
  simp only
  omega
 ·have:=h.len
  have:=k.len
  simp only[List.length_append,List.length_map,movI]
  omega
structure SkInv (X:Gr) (t:Int):Prop where
 locs:X.locs = 2
 two:∃ rest,X.evs = [wE 0,wE 1] ++ rest∧∀ e∈rest,1≤e.th∧e.th≤t∧EvS e
 th:X.evs.Pairwise fun a b => a.th≤b.th
 rmw:RmL X.evs X.rmw
 data:DpL X.evs X.data
 ctrl:DpL X.evs X.ctrl
 ctrli:X.ctrli = []
 dl:X.data.length≤X.evs.length * X.evs.length
 cl:X.ctrl.length≤X.evs.length * X.evs.length
theorem sk0_inv:SkInv sk0 0:=
 ⟨rfl,⟨[],rfl,fun e he => absurd he (List.not_mem_nil)⟩,by simp[sk0,wE],⟨fun p hp => absurd hp (List.not_mem_nil),fun i hi => by
  have:i = 0∨i = 1:=by have:(sk0.evs.length) = 2:=rfl;omega
  rcases this with rfl | rfl<;>exact ⟨Nat.zero_le _,rfl⟩,List.Pairwise.nil,Nat.zero_le _⟩,⟨fun p hp => absurd hp (List.not_mem_nil),List.Pairwise.nil⟩,⟨fun p hp => absurd hp (List.not_mem_nil),List.Pairwise.nil⟩,rfl,Nat.zero_le _,Nat.zero_le _⟩
theorem sq_add {a b m k:Nat} (h:a≤m * m) (h2:b≤k * k):a + b≤(m + k) * (m + k):=by
 have:(m + k) * (m + k) = m * m + m * k + (k * m + k * k):=by rw[Nat.add_mul,Nat.mul_add,Nat.mul_add]
 omega
theorem SkInv.lay {X:Gr} {t:Int} {s:RS} (h:SkInv X t) (h0:0≤t) (k:RInv s):SkInv (layX X s (t + 1)) (t + 1):=by
 obtain ⟨rest,h2,h3⟩:=h.two
 refine ⟨h.locs,⟨rest ++ s.evs.map (thE (t + 1)),by rw[show (layX X s (t + 1)).evs = X.evs ++ s.evs.map (thE (t + 1)) from rfl,h2,List.append_assoc],fun e he => ?_⟩,?_,h.rmw.lay k.rmw,h.data.lay k.b.data,h.ctrl.lay k.b.ctrl,h.ctrli,?_,?_⟩
 ·rcases List.mem_append.1 he with he | he
  ·obtain ⟨a,b,c⟩:=h3 e he
   exact ⟨a,by omega,c⟩
  ·obtain ⟨e',he',rfl⟩:=List.mem_map.1 he
   exact ⟨by show 1≤t + 1;omega,Int.le_refl _,(k.b.ev e' he').2⟩
 ·refine List.pairwise_append.2 ⟨h.th,?_,fun a ha b hb => ?_⟩
  ·rw[List.pairwise_map]
   exact List.pairwise_iff_getElem.2 fun i j hi hj hij => Int.le_refl _
  ·obtain ⟨e',he',rfl⟩:=List.mem_map.1 hb
   show a.th≤t + 1
   rw[h2] at ha
   rcases List.mem_append.1 ha with ha | ha
   ·have:a = wE 0∨a = wE 1:=by simpa using ha
    rcases this with rfl | rfl<;>(show (0:Int)≤_;omega)
   ·have:=(h3 a ha).2.1;omega
 ·show (X.data ++ movI s.data X.evs.length).length≤(X.evs ++ s.evs.map (thE (t + 1))).length * (X.evs ++ s.evs.map (thE (t + 1))).length
  simp only[List.length_append,List.length_map,movI]
  exact sq_add h.dl k.b.dl
 ·show (X.ctrl ++ movI s.ctrl X.evs.length).length≤(X.evs ++ s.evs.map (thE (t + 1))).length * (X.evs ++ s.evs.map (thE (t + 1))).length
  simp only[List.length_append,List.length_map,movI]
  exact sq_add h.cl k.b.cl
theorem pw_rising {l:List (Int × Int)} (h:l.Pairwise lessP):Rising l:=by
 intro i hi
 rw[List.getD_eq_getElem?_getD,List.getD_eq_getElem?_getD,List.getElem?_eq_getElem (by omega),List.getElem?_eq_getElem hi]
 exact List.pairwise_iff_getElem.1 h i (i + 1) (by omega) hi (by omega)
theorem getD_mem {α:Type} {l:List α} {i:Nat} {d:α} (h:i < l.length):l.getD i d∈l:=by
 rw[List.getD_eq_getElem?_getD,List.getElem?_eq_getElem h]
 exact List.getElem_mem h
theorem SkInv.ev {X:Gr} {t:Int} (h:SkInv X t) (h4:t≤4) {i:Nat} (hi:i < X.evs.length):EvOk X.locs i (X.evs.getD (i - 1) ev0) (X.evs.getD i ev0):=by
 obtain ⟨rest,h2,h3⟩:=h.two
 rw[h.locs]
 refine ⟨fun hl => ?_,fun hl => ?_⟩
 ·have:i = 0∨i = 1:=by omega
  rw[h2]
  rcases this with rfl | rfl<;>exact ⟨rfl,rfl,rfl,rfl,rfl,rfl⟩
 ·obtain ⟨j,rfl⟩:∃ j,i = 2 + j:=⟨i - 2,by omega⟩
  have he:X.evs.getD (2 + j) ev0 = rest.getD j ev0:=by
   rw[h2];exact getD_r (es:=[wE 0,wE 1])
  have hj:j < rest.length:=by rw[h2] at hi;simp at hi;omega
  obtain ⟨a,b,c⟩:=h3 _ (getD_mem (d:=ev0) hj)
  have hp:(X.evs.getD (2 + j - 1) ev0).th≤(X.evs.getD (2 + j) ev0).th:=by
   rw[List.getD_eq_getElem?_getD,List.getD_eq_getElem?_getD,List.getElem?_eq_getElem (by omega),List.getElem?_eq_getElem hi]
   exact List.pairwise_iff_getElem.1 h.th (2 + j - 1) (2 + j) (by omega) hi (by omega)
  rw[he] at hp ⊢
  refine ⟨a,by omega,hp,?_⟩
  rcases c with ⟨c1,c2,c3⟩ | ⟨c1,c2,c3⟩ | c
  ·exact .inl ⟨c1,by omega,by omega,c3⟩
  ·exact .inr (.inl ⟨c1,by omega,by omega,c3⟩)
  ·exact .inr (.inr c)
theorem DpL.ok {X:Gr} {l} (h:DpL X.evs l):DepsOk X l:=⟨fun i hi => h.1 _ (getD_mem hi),pw_rising h.2⟩
theorem SkInv.ok {X:Gr} {t:Int} (h:SkInv X t) (h4:t≤4) (hn:X.evs.length≤14) (hr:X.rf.length = X.evs.length) (hrf:∀ i,i < X.evs.length→RfOk X i) (hc:X.co.length = 2) (hco:∀ i,i < 2→CoOk X i):FewG X∧GraphOk X:=by
 have hl2:2≤X.evs.length:=by obtain ⟨rest,h2,_⟩:=h.two;rw[h2];simp
 have hm:=h.rmw.len
 have hsq:X.evs.length * X.evs.length≤14 * 14:=Nat.mul_le_mul hn hn
 have hd:=h.dl
 have hcl:=h.cl
 refine ⟨⟨by omega,by omega,by omega,fun c hc' => ?_,by omega,by omega,by omega,by rw[h.ctrli];simp⟩,⟨by rw[h.locs];omega,by rw[h.locs];omega,by rw[h.locs];omega,by omega,hr,by rw[h.locs,hc];rfl,fun i hi => h.ev h4 hi,hrf,fun i hi => hco i (by omega),⟨fun j hj => ?_,fun i hi => h.rmw.once i hi,pw_rising h.rmw.rise⟩,h.data.ok,h.ctrl.ok,by rw[h.ctrli];exact ⟨fun i hi => absurd hi (Nat.not_lt_zero _),fun i hi => absurd hi (Nat.not_lt_zero _)⟩⟩⟩
 ·obtain ⟨i,hi,rfl⟩:=List.mem_iff_getElem.1 hc'
  have h1:=(hco i (by omega)).len
  rw[List.getD_eq_getElem?_getD,List.getElem?_eq_getElem hi] at h1
  simp only[Option.getD_some] at h1
  have h2:=cntW_le X i X.evs.length
  omega
 ·obtain ⟨a,b,c,d⟩:=h.rmw.pairs _ (getD_mem (d:=(0,0)) hj)
  exact ⟨a,by omega,b,d⟩
end Go.Ab
end
section
set_option linter.unusedVariables false
set_option linter.unusedSimpArgs false
namespace Go.Ab
variable {F:Funs}
def wdB (p:Int × Int):Bool:=
 if p.1 = 1 then decide (-2147483648≤p.2) && decide (p.2≤2147483647) else if p.1 = 2 then decide (0≤p.2) && decide (p.2 < 8) else if p.1 = 3 then decide (1≤p.2) && decide (p.2≤6) else false
def chkG:List (Int × Int)→Nat→Option Nat
 | [],d => some d
 | p :: l,d => if wdB p = true then (if p.1 = 3 then (if d < 2 then none else chkG l (d - 1)) else chkG l (d + 1)) else none
theorem chkG_cons (p l d):chkG (p :: l) d = if wdB p = true then (if p.1 = 3 then (if d < 2 then none else chkG l (d - 1)) else chkG l (d + 1)) else none:=by simp only[chkG]
theorem chkG_nil (d):chkG [] d = some d:=by simp only[chkG]
def chkX (ex:List (Int × Int)):Bool:=match chkG ex 0 with
 | some d => decide (d = 1) && decide (ex.length≤9)
 | none => false
theorem sp_word (h:F 125 = some A_xref02_word) (p:Int × Int):pureS F 125 [.agg [.i .i64 p.1,.i .i64 p.2]] = some (.b (wdB p)):=by
 refine pure_of h ?_
 unfold wdB
 by_cases c1:p.1 = 1
 ·by_cases c2:-2147483648≤p.2
  ·by_cases c3:p.2≤2147483647<;>simp (disch:=omega) only[A_xref02_word,wp,qa,qb,qc,c1,c2,c3,if_true,Int.reduceBEq]
  ·simp (disch:=omega) only[A_xref02_word,wp,qa,qb,qc,c1,c2,if_true,Int.reduceBEq]
 have c1':(p.1 == 1) = false:=by simpa using c1
 by_cases c4:p.1 = 2
 ·by_cases c2:0≤p.2
  ·by_cases c3:p.2 < 8<;>simp (disch:=omega) only[A_xref02_word,wp,qa,qb,qc,c4,c2,c3,if_true,if_false,Int.reduceBEq,Int.reduceEq]
  ·simp (disch:=omega) only[A_xref02_word,wp,qa,qb,qc,c4,c2,if_true,if_false,Int.reduceBEq,Int.reduceEq]
 have c4':(p.1 == 2) = false:=by simpa using c4
 by_cases c5:p.1 = 3
 ·by_cases c2:1≤p.2
  ·by_cases c3:p.2≤6<;>simp (disch:=omega) only[A_xref02_word,wp,qa,qb,qc,c5,c2,c3,if_true,if_false,Int.reduceBEq,Int.reduceEq]
  ·simp (disch:=omega) only[A_xref02_word,wp,qa,qb,qc,c5,c2,if_true,if_false,Int.reduceBEq,Int.reduceEq]
 have c5':(p.1 == 3) = false:=by simpa using c5
 simp (disch:=omega) only[A_xref02_word,wp,qa,qb,qc,c1,c4,c5,c1',c4',c5',if_false]
theorem tk_drop:∀ {l:List (Int × Int)} {k:Nat} (h:k < l.length),(tkC l).drop (k * 2) = .i .i64 (l.getD k (0,0)).1 :: .i .i64 (l.getD k (0,0)).2 :: tkC (l.drop (k + 1))
 | a :: l,0,_ => by simp[tkC]
 | a :: l,k + 1,h => by
   have:=tk_drop (l:=l) (k:=k) (by simpa using h)
   simp only[tkC,List.flatMap_cons,Nat.add_mul,Nat.one_mul] at this ⊢
   rw[Nat.add_comm,←List.drop_drop]
   simpa using this
theorem tk_ag {l:List (Int × Int)} {k:Nat} (h:k < l.length):part ((tkC l).drop (k * 2)) 0 (some 2) = some (.agg [.i .i64 (l.getD k (0,0)).1,.i .i64 (l.getD k (0,0)).2]):=by
 rw[tk_drop h];simp[part]
theorem tk_k {l:List (Int × Int)} {k:Nat} (h:k < l.length):part ((tkC l).drop (k * 2)) 0 none = some (.i .i64 (l.getD k (0,0)).1):=by
 rw[tk_drop h];rfl
theorem tk_v {l:List (Int × Int)} {k:Nat} (h:k < l.length):part (((tkC l).drop (k * 2)).drop 1) 0 none = some (.i .i64 (l.getD k (0,0)).2):=by
 rw[tk_drop h];rfl
theorem tk_l {l:List (Int × Int)} {k:Nat} (h:k < l.length):2≤((tkC l).drop (k * 2)).length:=by
 rw[tk_drop h];simp
theorem drop_cons {α:Type} {l:List α} {d:α} {k:Nat} (h:k < l.length):l.drop k = l.getD k d :: l.drop (k + 1):=by
 rw[List.drop_eq_getElem_cons h,List.getD_eq_getElem?_getD,List.getElem?_eq_getElem h];rfl
theorem sp_exCheck (h109:F 109 = some A_xref02_Check) (h125:F 125 = some A_xref02_word) (ex:List (Int × Int)) (hl:ex.length≤1000000):pureS F 109 [exV ex] = some (.b (chkX ex)):=by
 refine pure_of h109 ?_
 unfold exV
 simp (disch:=omega) only[A_xref02_Check,wp,qa,qb,qc]
 refine blk_cutR (fun e g => ∃ d:Nat,e 0 = .sl (tkC ex) ex.length .non∧e 3 = .i .i64 ((d:Nat):Int)∧chkG ex 0 = some d) ?_ ?_
 ·refine W_loop (fun q e g => ∃ k d:Nat,q = ex.length - k∧k≤ex.length∧d≤k∧e 0 = .sl (tkC ex) ex.length .non∧e 3 = .i .i64 ((d:Nat):Int)∧e 4 = .i .i64 ((k:Nat):Int)∧chkG ex 0 = chkG (ex.drop k) d) ex.length ?_ ?_
  ·refine ⟨0,0,rfl,Nat.zero_le _,Nat.le_refl _,?_⟩
   simp (disch:=omega) only[wp,qa,qb,qc]
   exact ⟨rfl,rfl,rfl⟩
  ·rintro q e g ⟨k,d,rfl,hk,hd,e0,e3,e4,hc⟩
   by_cases c1:k < ex.length
   ·have c1':((k:Nat):Int) < ((ex.length:Nat):Int):=by omega
    have ha:=tk_ag c1
    have hkd:=tk_k c1
    have hl2:=tk_l c1
    have hw:=succ_wrap (k:=k) (by omega)
    have hwd:=succ_wrap (k:=d) (by omega)
    have hsp:=sp_word h125 (ex.getD k (0,0))
    have hdc:=drop_cons (d:=((0,0):Int × Int)) c1
    rw[hdc,chkG_cons] at hc
    generalize ex.getD k (0,0) = p at ha hkd hsp hc
    cases c2:wdB p with
    | false =>
      rw[c2] at hsp hc
      simp (disch:=omega) only[wp,qa,qb,qc,e0,e3,e4,c1',ha,hsp,Nat.mul_one,frz_ag2]
      unfold chkX
      rw[hc]
      simp
    | true =>
      rw[c2] at hsp hc
      rw[if_pos rfl] at hc
      by_cases c3:p.1 = 3
      ·rw[if_pos c3] at hc
       have c3':(p.1 != 3) = false:=by simpa using c3
       by_cases c4:d < 2
       ·rw[if_pos c4] at hc
        have c4':((d:Nat):Int) < 2:=by omega
        simp (disch:=omega) only[wp,qa,qb,qc,e0,e3,e4,c1',ha,hsp,hkd,c3',c4',frz_ag2]
        unfold chkX
        rw[hc]
       ·rw[if_neg c4] at hc
        have c4':¬ ((d:Nat):Int) < 2:=by omega
        have hs:IntKind.i64.wrap (((d:Nat):Int) - 1) = ((d - 1:Nat):Int):=by rw[i64_wrap (by omega) (by omega)];omega
        simp (disch:=omega) only[wp,qa,qb,qc,e0,e3,e4,c1',ha,hsp,hkd,c3',c4',hs,hw,frz_ag2]
        exact ⟨ex.length - (k + 1),by omega,k + 1,d - 1,rfl,by omega,by omega,rfl,rfl,hc⟩
      ·rw[if_neg c3] at hc
       have c3':(p.1 != 3) = true:=by simpa using c3
       simp (disch:=omega) only[wp,qa,qb,qc,e0,e3,e4,c1',ha,hsp,hkd,c3',hw,hwd,frz_ag2]
       exact ⟨ex.length - (k + 1),by omega,k + 1,d + 1,rfl,by omega,by omega,rfl,rfl,hc⟩
   ·have c1':¬ ((k:Nat):Int) < ((ex.length:Nat):Int):=by omega
    obtain rfl:k = ex.length:=by omega
    rw[List.drop_length] at hc
    simp (disch:=omega) only[wp,qa,qb,qc,e0,e3,e4,c1']
    exact ⟨d,rfl,hc⟩
 ·rintro e g ⟨d,e0,e3,hc⟩
  unfold chkX
  rw[hc]
  by_cases c1:d = 1
  ·subst c1
   have c2:((((1:Nat):Int)) == 1) = true:=rfl
   by_cases c3:ex.length≤9
   ·have c3':((ex.length:Nat):Int)≤9:=by omega
    simp (disch:=omega) only[wp,qa,qb,qc,e0,e3,c2,c3,c3']
   ·have c3':¬ ((ex.length:Nat):Int)≤9:=by omega
    simp (disch:=omega) only[wp,qa,qb,qc,e0,e3,c2,c3,c3']
  ·have c2:(((d:Nat):Int) == 1) = false:=by simp;omega
   simp (disch:=omega) only[wp,qa,qb,qc,e0,e3,c1,c2]
def xorI (a b:Int):Int:=IntKind.i64.wrap ((BitVec.ofInt IntKind.i64.bits a ^^^ BitVec.ofInt IntKind.i64.bits b).toNat:Nat)
theorem b_xor (a b:Int):abin .xor (.i .i64 a) (.i .i64 b) = some (.i .i64 (xorI a b)):=by simp[abin,ibin,xorI]
def doX (o a b:Int):Int:=
 if o = 1 then IntKind.i64.wrap (a + b) else if o = 2 then IntKind.i64.wrap (a - b) else if o = 3 then IntKind.i64.wrap (a * b) else if o = 4 then xorI a b else
  if o = 5 then (if a = b then 1 else 0) else if o = 6 then (if a < b then 1 else 0) else 0
theorem sp_do (h:F 128 = some A_xref02_Do) (o a b:Int):pureS F 128 [.i .i64 o,.i .i64 a,.i .i64 b] = some (.i .i64 (doX o a b)):=by
 refine pure_of h ?_
 unfold doX
 by_cases c1:o = 1
 ·simp (disch:=omega) only[A_xref02_Do,wp,qa,qb,qc,c1,if_true,Int.reduceBEq]
 have c1':(o == 1) = false:=by simpa using c1
 by_cases c2:o = 2
 ·simp (disch:=omega) only[A_xref02_Do,wp,qa,qb,qc,c2,if_true,if_false,Int.reduceBEq,Int.reduceEq]
 have c2':(o == 2) = false:=by simpa using c2
 by_cases c3:o = 3
 ·simp (disch:=omega) only[A_xref02_Do,wp,qa,qb,qc,c3,if_true,if_false,Int.reduceBEq,Int.reduceEq]
 have c3':(o == 3) = false:=by simpa using c3
 by_cases c4:o = 4
 ·simp (disch:=omega) only[A_xref02_Do,wp,qa,qb,qc,c4,if_true,if_false,Int.reduceBEq,Int.reduceEq,b_xor]
 have c4':(o == 4) = false:=by simpa using c4
 by_cases c5:o = 5
 ·subst c5
  by_cases c:a = b
  ·have c':(a == b) = true:=by simpa using c
   simp (disch:=omega) only[A_xref02_Do,wp,qa,qb,qc,c,c',if_true,if_false,Int.reduceBEq,Int.reduceEq]
  ·have c':(a == b) = false:=by simpa using c
   simp (disch:=omega) only[A_xref02_Do,wp,qa,qb,qc,c,c',if_true,if_false,Int.reduceBEq,Int.reduceEq]
 have c5':(o == 5) = false:=by simpa using c5
 by_cases c6:o = 6
 ·subst c6
  by_cases c:a < b
  ·simp (disch:=omega) only[A_xref02_Do,wp,qa,qb,qc,c,if_true,if_false,Int.reduceBEq,Int.reduceEq]
  ·simp (disch:=omega) only[A_xref02_Do,wp,qa,qb,qc,c,if_true,if_false,Int.reduceBEq,Int.reduceEq]
 have c6':(o == 6) = false:=by simpa using c6
 simp (disch:=omega) only[A_xref02_Do,wp,qa,qb,qc,c1,c2,c3,c4,c5,c6,c1',c2',c3',c4',c5',c6',if_false]
end Go.Ab
end
section
set_option linter.unusedVariables false
set_option linter.unusedSimpArgs false
namespace Go.Ab
variable {F:Funs}
theorem oSlice {c:CS} {al:Nat→Bool} {lo id:Nat} {e:Env} {g:G} (esz x l h m):opE c al lo id (.slice esz x l h m) e g = vSlice esz (x.ev e) (evo e l) (evo e h) (evo e m) g:=rfl
theorem evoN (e:Env):evo e none = none:=rfl
theorem evoS (e:Env) (x:Opd):evo e (some x) = some (x.ev e):=rfl
theorem slTo {esz n k:Nat} {cs:List AV} {t:Tok} {g:G} (h:k≤n):vSlice esz (.sl cs n t) none (some (.i .i64 ((k:Nat):Int))) none g = some (.sl (cs.take (k * esz)) k (if t = .rig∧((k:Nat):Int) = ((n:Nat):Int) then .rig else .non),g):=by
 simp only[vSlice,bnd]
 rw[if_pos ⟨by omega,by omega,by omega⟩]
 simp
theorem slFrom {esz n k:Nat} {cs:List AV} {t:Tok} {g:G} (h:k≤n):vSlice esz (.sl cs n t) (some (.i .i64 ((k:Nat):Int))) none none g = some (.sl ((cs.drop (k * esz)).take ((n - k) * esz)) (n - k) (if t = .rig then .rig else .non),g):=by
 simp only[vSlice,bnd]
 rw[if_pos ⟨by omega,by omega,by omega⟩]
 simp only[Int.toNat_natCast,and_true]
theorem intsC_take (l:List Int) (k:Nat):(intsC l).take (k * 1) = intsC (l.take k):=by simp[intsC,List.map_take]
theorem intsC_drop (l:List Int) (k:Nat):(intsC l).drop (k * 1) = intsC (l.drop k):=by simp[intsC,List.map_drop]
theorem intsC_len (l:List Int):(intsC l).length = l.length:=by simp[intsC]
theorem intsC_all {l:List Int} {n:Nat} (h:l.length = n):(intsC l).take (n * 1) = intsC l:=by
 rw[Nat.mul_one,←h,←intsC_len l,List.take_length]
theorem rp_put (h132:F 132 = some A_xref05_Put) (l:List Int) (v:Int) (t:Tok) (hl:l.length≤100000):pureS F 132 [.sl (intsC l) l.length t,.i .i64 v] = some (.sl (intsC (putI l v)) (putI l v).length .non):=by
 refine pure_of h132 ?_
 simp (disch:=omega) only[A_xref05_Put,wp,qa,qb,qc]
 refine blk_cut (fun e g => ∃ k:Nat,k≤l.length∧e 0 = .sl (intsC l) l.length t∧e 1 = .i .i64 v∧e 5 = .i .i64 ((k:Nat):Int)∧(∀ j,j < k→l.getD j 0 < v)∧(k < l.length→¬ l.getD k 0 < v)) ?_ ?_
 ·refine W_loop (fun q e g => ∃ k:Nat,q = l.length - k∧k≤l.length∧e 0 = .sl (intsC l) l.length t∧e 1 = .i .i64 v∧e 5 = .i .i64 ((k:Nat):Int)∧(∀ j,j < k→l.getD j 0 < v)) l.length ?_ ?_
  ·refine ⟨0,rfl,Nat.zero_le _,?_⟩
   simp (disch:=omega) only[wp,qa,qb,qc]
   exact ⟨rfl,fun j hj => absurd hj (Nat.not_lt_zero j)⟩
  ·rintro q e g ⟨k,rfl,hk,e0,e1,e5,hb⟩
   by_cases c1:k < l.length
   ·have c1':((k:Nat):Int) < ((l.length:Nat):Int):=by omega
    have hip:=ints_part c1
    have hw:=succ_wrap (k:=k) (by omega)
    by_cases c2:l.getD k 0 < v
    ·have hb':∀ j,j < k + 1→l.getD j 0 < v:=fun j hj => by
      by_cases hjk:j = k
      ·rw[hjk];exact c2
      ·exact hb j (by omega)
     simp (disch:=omega) only[wp,qa,qb,qc,e0,e1,e5,c1',c2,hip,hw]
     exact ⟨l.length - (k + 1),by omega,k + 1,rfl,by omega,rfl,hb'⟩
    ·simp (disch:=omega) only[wp,qa,qb,qc,e0,e1,e5,c1',c2,hip,hw]
     exact ⟨k,hk,rfl,hb,fun _ => c2⟩
   ·have c1':¬ ((k:Nat):Int) < ((l.length:Nat):Int):=by omega
    simp (disch:=omega) only[wp,qa,qb,qc,e0,e1,e5,c1']
    exact ⟨k,hk,rfl,hb,fun h => absurd h c1⟩
 ·rintro e g ⟨k,hk,e0,e1,e5,hb,hn⟩
  have fin:(k < l.length→l.getD k 0≠v)→putI l v = l.take k ++ v :: l.drop k:=fun h => putI_eq hk hb fun h1 => by have:=hn h1;have:=h h1;omega
  have hlt:(intsC (l.take k)).length = k:=by rw[intsC_len,List.length_take];omega
  have hld:(intsC (l.drop k)).length = l.length - k:=by rw[intsC_len,List.length_drop]
  have hla:(intsC (l.drop k)).take ((l.length - k) * 1) = intsC (l.drop k):=intsC_all (by rw[List.length_drop])
  have hit:(intsC l).take (k * 1) = intsC (l.take k):=intsC_take l k
  have hid:(intsC l).drop (k * 1) = intsC (l.drop k):=intsC_drop l k
  have key:(l.take k ++ v :: l.drop k).length = l.length + 1:=by simp;omega
  by_cases c1:k < l.length
  ·have c1':((k:Nat):Int) < ((l.length:Nat):Int):=by omega
   have hip:=ints_part c1
   rw[hid] at hip
   cases c2:(l.getD k 0 == v) with
   | true =>
     have h1:=putI_has (v:=v) c1 hb (by simpa using c2)
     rw[h1]
     simp (disch:=omega) only[wp,qa,qb,qc,e0,e1,e5,c1',c2,hip,hid]
   | false =>
     have h1:=fin fun _ => by simpa using c2
     by_cases k0:k = 0
     ·subst k0
      simp (disch:=omega) only[wp,qa,qb,qc,e0,e1,e5,c1',c2,hip,oSlice,evoN,evoS,slTo,slFrom,hit,hid,hla,hlt,hld]
      rw[h1,key,show 1 + (l.length - 0) = l.length + 1 by omega]
      simp[intsC]
     ·simp (disch:=omega) only[wp,qa,qb,qc,e0,e1,e5,c1',c2,hip,oSlice,evoN,evoS,slTo,slFrom,hit,hid,hla,hlt,hld]
      rw[h1,key,show k + 1 + (l.length - k) = l.length + 1 by omega]
      simp[intsC]
  ·have c1':¬ ((k:Nat):Int) < ((l.length:Nat):Int):=by omega
   have h1:=fin fun h => absurd h c1
   by_cases k0:k = 0
   ·subst k0
    simp (disch:=omega) only[wp,qa,qb,qc,e0,e1,e5,c1',oSlice,evoN,evoS,slTo,slFrom,hit,hid,hla,hlt,hld]
    rw[h1,key,show 1 + (l.length - 0) = l.length + 1 by omega]
    simp[intsC]
   ·simp (disch:=omega) only[wp,qa,qb,qc,e0,e1,e5,c1',oSlice,evoN,evoS,slTo,slFrom,hit,hid,hla,hlt,hld]
    rw[h1,key,show k + 1 + (l.length - k) = l.length + 1 by omega]
    simp[intsC]
theorem putI_len:∀ {l:List Int} {v:Int},(putI l v).length≤l.length + 1
 | [],v => Nat.le_refl _
 | a :: l,v => by
   unfold putI
   split
   ·have:=putI_len (l:=l) (v:=v)
    simp only[List.length_cons]
    omega
   ·split
    ·exact Nat.le_succ _
    ·exact Nat.le_refl _
theorem bothI_len:∀ {b a:List Int},(bothI a b).length≤a.length + b.length
 | [],a => Nat.le_refl _
 | v :: b,a => by
   show (bothI (putI a v) b).length≤_
   have h1:=bothI_len (b:=b) (a:=putI a v)
   have h2:=putI_len (l:=a) (v:=v)
   simp only[List.length_cons]
   omega
theorem take_getD {l:List Int} {k:Nat} (h:k < l.length):l.take (k + 1) = l.take k ++ [l.getD k 0]:=by
 rw[List.take_add_one,List.getD_eq_getElem?_getD,List.getElem?_eq_getElem h]
 rfl
theorem bothI_take {a b:List Int} {k:Nat} (h:k < b.length):bothI a (b.take (k + 1)) = putI (bothI a (b.take k)) (b.getD k 0):=by
 unfold bothI
 rw[take_getD h,List.foldl_append]
 rfl
theorem rp_both (h129:F 129 = some A_xref05_Both) (h132:F 132 = some A_xref05_Put) (a b:List Int) (t u:Tok) (hl:a.length + b.length≤100000):∃ v,v = .non∧pureS F 129 [.sl (intsC a) a.length t,.sl (intsC b) b.length u] = some (.sl (intsC (bothI a b)) (bothI a b).length v):=by
 refine ⟨.non,rfl,pure_of h129 ?_⟩
 simp (disch:=omega) only[A_xref05_Both,wp,qa,qb,qc]
 refine W_loop (fun q e g => ∃ (k:Nat) (w:Tok),q = b.length - k∧k≤b.length∧e 0 = .sl (intsC (bothI a (b.take k))) (bothI a (b.take k)).length w∧e 1 = .sl (intsC b) b.length u∧e 5 = .i .i64 ((k:Nat):Int)) b.length ?_ ?_
 ·refine ⟨0,t,rfl,Nat.zero_le _,?_⟩
  simp (disch:=omega) only[wp,qa,qb,qc]
  exact ⟨rfl,rfl⟩
 ·rintro q e g ⟨k,w,rfl,hk,e0,e1,e5⟩
  by_cases c1:k < b.length
  ·have c1':((k:Nat):Int) < ((b.length:Nat):Int):=by omega
   have hip:=ints_part c1
   have hw:=succ_wrap (k:=k) (by omega)
   have h1:=bothI_len (a:=a) (b:=b.take k)
   rw[List.length_take] at h1
   have hp:=rp_put h132 (bothI a (b.take k)) (b.getD k 0) .non (by omega)
   rw[←bothI_take c1] at hp
   simp (disch:=omega) only[wp,qa,qb,qc,e0,e1,e5,c1',hip,hw,hp]
   exact ⟨b.length - (k + 1),by omega,k + 1,.non,rfl,by omega,rfl,rfl⟩
  ·have c1':¬ ((k:Nat):Int) < ((b.length:Nat):Int):=by omega
   obtain rfl:k = b.length:=by omega
   rw[List.take_length] at e0
   simp (disch:=omega) only[wp,qa,qb,qc,e0,e1,e5,c1']
theorem pairsC_take (l:List (Int × Int)) (k:Nat):(pairsC l).take (k * 2) = pairsC (l.take k):=by
 induction l generalizing k with
 | nil => simp[pairsC]
 | cons a l ih =>
   cases k with
   | zero => simp[pairsC]
   | succ k =>
     have:=ih k
     simp only[pairsC,List.flatMap_cons,List.take_succ_cons,Nat.add_mul,Nat.one_mul] at this ⊢
     rw[←this]
     rfl
theorem pairsC_drop (l:List (Int × Int)) (k:Nat):(pairsC l).drop (k * 2) = pairsC (l.drop k):=by
 induction l generalizing k with
 | nil => simp[pairsC]
 | cons a l ih =>
   cases k with
   | zero => simp[pairsC]
   | succ k =>
     have:=ih k
     simp only[pairsC,List.flatMap_cons,List.drop_succ_cons,Nat.add_mul,Nat.one_mul] at this ⊢
     rw[←this]
     rfl
theorem pairsC_all {l:List (Int × Int)} {n:Nat} (h:l.length = n):(pairsC l).take (n * 2) = pairsC l:=by
 rw[pairsC_take,←h,List.take_length]
theorem pairsI_take {l:List (Int × Int)} {rs:List Int} {b:Int} {k:Nat} (h:k < rs.length):pairsI l (rs.take (k + 1)) b = insP (pairsI l (rs.take k) b) (rs.getD k 0,b):=by
 unfold pairsI
 rw[take_getD h,List.foldl_append]
 rfl
theorem rp_pairs (h130:F 130 = some A_xref05_pairs) (l:List (Int × Int)) (rs:List Int) (b:Int) (t u:Tok) (hl:l.length + rs.length≤100000):∃ v,v = .non∧pureS F 130 [.sl (pairsC l) l.length t,.sl (intsC rs) rs.length u,.i .i64 b] = some (.sl (pairsC (pairsI l rs b)) (pairsI l rs b).length v):=by
 refine ⟨.non,rfl,pure_of h130 ?_⟩
 have s2:∀ b1 b2 c1 c2:AV,splice [b1,b2] 0 [c1,c2] = [c1,c2]:=fun _ _ _ _ => rfl
 simp (disch:=omega) only[A_xref05_pairs,wp,qa,qb,qc]
 refine W_loop (fun q e g => ∃ (k:Nat) (w:Tok),q = rs.length - k∧k≤rs.length∧e 0 = .sl (pairsC (pairsI l (rs.take k) b)) (pairsI l (rs.take k) b).length w∧e 1 = .sl (intsC rs) rs.length u∧e 2 = .i .i64 b∧e 7 = .i .i64 ((k:Nat):Int)) rs.length ?_ ?_
 ·refine ⟨0,t,rfl,Nat.zero_le _,?_⟩
  simp (disch:=omega) only[wp,qa,qb,qc]
  exact ⟨rfl,rfl⟩
 ·rintro q e g ⟨i,w,rfl,hi,e0,e1,e2,e7⟩
  by_cases c0:i < rs.length
  ·have c0':((i:Nat):Int) < ((rs.length:Nat):Int):=by omega
   have hir:=ints_part c0
   have hwi:=succ_wrap (k:=i) (by omega)
   have hnx:=pairsI_take (l:=l) (b:=b) c0
   have hml:(pairsI l (rs.take i) b).length≤100000:=by rw[pairsI_len,List.length_take];omega
   generalize rs.getD i 0 = r at hir hnx
   generalize pairsI l (rs.take i) b = m at e0 hnx hml
   simp (disch:=omega) only[wp,qa,qb,qc,gl,e0,e1,e2,e7,c0',hir,s2]
   refine blk_cut (fun e g => ∃ (k id:Nat),k≤m.length∧e 0 = .sl (pairsC m) m.length w∧e 1 = .sl (intsC rs) rs.length u∧e 2 = .i .i64 b∧e 7 = .i .i64 ((i:Nat):Int)∧e 8 = .mp id 0∧g.hp id = some (.cells [.i .i64 r,.i .i64 b] false)∧id < g.nx∧e 9 = .i .i64 ((k:Nat):Int)∧(∀ j,j < k→lessP (m.getD j (0,0)) (r,b))∧(k < m.length→¬ lessP (m.getD k (0,0)) (r,b))) ?_ ?_
   ·refine W_loop (fun q e g => ∃ (k id:Nat),q = m.length - k∧k≤m.length∧e 0 = .sl (pairsC m) m.length w∧e 1 = .sl (intsC rs) rs.length u∧e 2 = .i .i64 b∧e 7 = .i .i64 ((i:Nat):Int)∧e 8 = .mp id 0∧g.hp id = some (.cells [.i .i64 r,.i .i64 b] false)∧id < g.nx∧e 9 = .i .i64 ((k:Nat):Int)∧(∀ j,j < k→lessP (m.getD j (0,0)) (r,b))) m.length ?_ ?_
    ·refine ⟨0,g.nx + 4 + 6,by omega,Nat.zero_le _,?_⟩
     simp (disch:=omega) only[wp,qa,qb,qc,e0,e1,e2,e7]
     exact ⟨by first | omega | (dsimp only;omega),rfl,fun j hj => absurd hj (Nat.not_lt_zero j)⟩
    ·rintro q e g ⟨k,id,rfl,hk,e0,e1,e2,e7,e8,hid,hin,e9,hb⟩
     by_cases c1:k < m.length
     ·have c1':((k:Nat):Int) < ((m.length:Nat):Int):=by omega
      have ha:=pairs_a c1
      have hbb:=pairs_b c1
      have hw:=succ_wrap (k:=k) (by omega)
      have hdl:(List.drop (k * 2) (pairsC m)).length = m.length * 2 - k * 2:=by rw[List.length_drop,pairsC_len]
      have step:lessP (m.getD k (0,0)) (r,b)→∀ j,j < k + 1→lessP (m.getD j (0,0)) (r,b):=fun h j hj => by
       by_cases hjk:j = k
       ·rw[hjk];exact h
       ·exact hb j (by omega)
      have stop:¬ lessP (m.getD k (0,0)) (r,b)→k < m.length→¬ lessP (m.getD k (0,0)) (r,b):=fun h _ => h
      generalize hp:m.getD k (0,0) = p at ha hbb step stop
      by_cases c2:p.1 < r
      ·simp (disch:=omega) only[wp,qa,qb,qc,gl,e0,e1,e2,e7,e8,e9,hid,c1',ha,hbb,hdl,c2,hw]
       exact ⟨m.length - (k + 1),by omega,k + 1,id,rfl,by omega,rfl,hid,by first | omega | (dsimp only;omega),rfl,step (.inl c2)⟩
      ·cases c3:(p.1 == r) with
       | false =>
         simp (disch:=omega) only[wp,qa,qb,qc,gl,e0,e1,e2,e7,e8,e9,hid,c1',ha,hbb,hdl,c2,c3,hw]
         exact ⟨k,id,hk,rfl,hid,by first | omega | (dsimp only;omega),rfl,hb,fun _ => by rw[hp];exact fun h => by rcases h with h | ⟨h,_⟩<;>simp only at h<;>first | exact c2 h | (rw[h] at c3;simp at c3)⟩
       | true =>
         by_cases c4:p.2 < b
         ·simp (disch:=omega) only[wp,qa,qb,qc,gl,e0,e1,e2,e7,e8,e9,hid,c1',ha,hbb,hdl,c2,c3,c4,hw]
          exact ⟨m.length - (k + 1),by omega,k + 1,id,rfl,by omega,rfl,hid,by first | omega | (dsimp only;omega),rfl,step (.inr ⟨by simpa using c3,c4⟩)⟩
         ·simp (disch:=omega) only[wp,qa,qb,qc,gl,e0,e1,e2,e7,e8,e9,hid,c1',ha,hbb,hdl,c2,c3,c4,hw]
          exact ⟨k,id,hk,rfl,hid,by first | omega | (dsimp only;omega),rfl,hb,fun _ => by rw[hp];exact fun h => by rcases h with h | ⟨_,h⟩<;>simp only at h<;>first | exact c2 h | exact c4 h⟩
     ·have c1':¬ ((k:Nat):Int) < ((m.length:Nat):Int):=by omega
      simp (disch:=omega) only[wp,qa,qb,qc,gl,e0,e1,e2,e7,e8,e9,c1']
      exact ⟨k,id,hk,rfl,hid,by first | omega | (dsimp only;omega),rfl,hb,fun h => absurd h c1⟩
   ·rintro e g ⟨k,id,hk,e0,e1,e2,e7,e8,hid,hin,e9,hb,hn⟩
    have h1:=insP_eq hk hb hn
    rw[h1] at hnx
    have hlt:(pairsC (m.take k)).length = k * 2:=by rw[pairsC_len,List.length_take];omega
    have hld:(pairsC (m.drop k)).length = (m.length - k) * 2:=by rw[pairsC_len,List.length_drop]
    have hla:(pairsC (m.drop k)).take ((m.length - k) * 2) = pairsC (m.drop k):=pairsC_all (by rw[List.length_drop])
    have hit:(pairsC m).take (k * 2) = pairsC (m.take k):=pairsC_take m k
    have hidr:(pairsC m).drop (k * 2) = pairsC (m.drop k):=pairsC_drop m k
    have key:(m.take k ++ (r,b) :: m.drop k).length = m.length + 1:=by simp;omega
    by_cases k0:k = 0
    ·subst k0
     simp (disch:=omega) only[wp,qa,qb,qc,gl,e0,e1,e2,e7,e8,e9,hid,oSlice,evoN,evoS,slTo,slFrom,hit,hidr,hla,hlt,hld,s2,hwi]
     refine ⟨rs.length - (i + 1),by omega,i + 1,.own (g.nx + 10) 2,rfl,by omega,?_,rfl⟩
     rw[hnx,key,show 1 + (m.length - 0) = m.length + 1 by omega]
     simp[pairsC]
    ·simp (disch:=omega) only[wp,qa,qb,qc,gl,e0,e1,e2,e7,e8,e9,hid,oSlice,evoN,evoS,slTo,slFrom,hit,hidr,hla,hlt,hld,s2,hwi]
     refine ⟨rs.length - (i + 1),by omega,i + 1,.own (g.nx + 10) 2,rfl,by omega,?_,rfl⟩
     rw[hnx,key,show k + 1 + (m.length - k) = m.length + 1 by omega]
     simp[pairsC]
  ·have c0':¬ ((i:Nat):Int) < ((rs.length:Nat):Int):=by omega
   obtain rfl:i = rs.length:=by omega
   rw[List.take_length] at e0
   simp (disch:=omega) only[wp,qa,qb,qc,gl,e0,e1,e2,e7,c0']
end Go.Ab
end
section
set_option linter.unusedVariables false
set_option linter.unusedSimpArgs false
namespace Go.Ab
variable {F:Funs}
theorem o_appM {c:CS} {al:Nat→Bool} {lo id:Nat} {e:Env} {g:G} (esz b x y):opE c al lo id (.appM esz b x y) e g = vAppM al id esz b (x.ev e) (y.ev e) g:=rfl
def apmR (id esz b m ld:Nat) (ds:List AV) (g:G) (ok:Bool):Option (AV × G):=if 1≤m∧m * b≤2 ^ 46∧m≤2 ^ 62∧ld = m * esz∧ok then some (.ms id 0 m,⟨upd g.hp id (some (.cells ds false)),g.nx⟩) else none
theorem vAppM_rig {al:Nat→Bool} {id esz b m:Nat} {ds:List AV} {t:Tok} {g:G}:vAppM al id esz b (.sl [] 0 .rig) (.sl ds m t) g = apmR id esz b m ds.length ds g (ds.all one):=rfl
theorem apmR_ok {id esz b m ld:Nat} {ds:List AV} {g:G} (h:1≤m∧b≤1000∧m≤1000000∧ld = m * esz):apmR id esz b m ld ds g true = some (.ms id 0 m,⟨upd g.hp id (some (.cells ds false)),g.nx⟩):=by
 obtain ⟨h1,h2,h3,h4⟩:=h
 exact if_pos ⟨h1,Nat.le_trans (Nat.mul_le_mul h3 h2) (by omega),Nat.le_trans h3 (by omega),h4,rfl⟩
def apmS (id esz bytes b n m ld:Nat) (ds:List AV) (g:G) (ok:Bool):Option Blk→Option (AV × G)
 | some (.cells cs false) => if 1≤n∧1≤m∧(n + m) * bytes≤2 ^ 46∧n + m≤2 ^ 62∧cs.length = n * esz∧ld = m * esz∧ok then
         some (.ms id 0 (n + m),⟨upd (upd g.hp b (some (.tok false))) id (some (.cells (cs ++ ds) false)),g.nx⟩)
    else none
 | _ => none
theorem vAppM_S {al:Nat→Bool} {id esz bytes b n m:Nat} {ds:List AV} {t:Tok} {g:G}:vAppM al id esz bytes (.ms b 0 n) (.sl ds m t) g = apmS id esz bytes b n m ds.length ds g (ds.all one) (selB (al b) (g.hp b)):=by
 unfold vAppM vSrcM
 simp only[rd_S]
 cases selB (al b) (g.hp b) with
 | none => rfl
 | some bl =>
   cases bl with
   | cells cs ro => cases ro<;>rfl
   | map es => rfl
   | tok l => rfl
theorem apmS_ok {id esz bytes b n m ld:Nat} {cs ds:List AV} {g:G} (h:1≤n∧1≤m∧bytes≤1000∧n + m≤1000000∧cs.length = n * esz∧ld = m * esz):apmS id esz bytes b n m ld ds g true (some (.cells cs false)) = some (.ms id 0 (n + m),⟨upd (upd g.hp b (some (.tok false))) id (some (.cells (cs ++ ds) false)),g.nx⟩):=by
 obtain ⟨h1,h2,h3,h4,h5,h6⟩:=h
 have h7:(n + m) * bytes≤2 ^ 46:=Nat.le_trans (Nat.mul_le_mul h4 h3) (by omega)
 exact if_pos ⟨h1,h2,h7,Nat.le_trans h4 (by omega),h5,h6,rfl⟩
def apcS (id esz bytes b k e n m ld:Nat) (ds:List AV) (g:G) (ok:Bool):Option Blk→Option (AV × G)
 | some (.cells cs false) => if e = esz∧1≤n∧k≤n∧1≤m∧(k + m) * bytes≤2 ^ 46∧k + m≤2 ^ 62∧cs.length = n * esz∧ld = m * esz∧ok then
         some (.ms id 0 (k + m),⟨upd (upd g.hp b (some (.tok false))) id (some (.cells (cs.take (k * esz) ++ ds) false)),g.nx⟩)
    else none
 | _ => none
theorem vAppM_C {al:Nat→Bool} {id esz bytes b k e n m:Nat} {ds:List AV} {t:Tok} {g:G}:vAppM al id esz bytes (.mc b k e n) (.sl ds m t) g = apcS id esz bytes b k e n m ds.length ds g (ds.all one) (selB (al b) (g.hp b)):=by
 unfold vAppM vSrcM
 simp only[rd_S]
 cases selB (al b) (g.hp b) with
 | none => rfl
 | some bl =>
   cases bl with
   | cells cs ro => cases ro<;>rfl
   | map es => rfl
   | tok l => rfl
theorem apcS_ok {id esz bytes b k n m ld:Nat} {cs ds:List AV} {g:G} (h:1≤n∧k≤n∧1≤m∧bytes≤1000∧k + m≤1000000∧cs.length = n * esz∧ld = m * esz):apcS id esz bytes b k esz n m ld ds g true (some (.cells cs false)) = some (.ms id 0 (k + m),⟨upd (upd g.hp b (some (.tok false))) id (some (.cells (cs.take (k * esz) ++ ds) false)),g.nx⟩):=by
 obtain ⟨h1,h2,h3,h4,h5,h6,h8⟩:=h
 have h7:(k + m) * bytes≤2 ^ 46:=Nat.le_trans (Nat.mul_le_mul h5 h4) (by omega)
 exact if_pos ⟨rfl,h1,h2,h3,h7,Nat.le_trans h5 (by omega),h6,h8,rfl⟩
theorem slHiM {esz b n:Nat} {ki:IntKind} {z:Int} {g:G} (h1:1≤n) (h2:0≤z) (h3:z≤(n:Int)):vSlice esz (.ms b 0 n) none (some (.i ki z)) none g = some (.mc b z.toNat esz n,g):=if_pos ⟨rfl,h1,h2,h3⟩
def evE (regs:List Int):List (Int × Int)→List Int→List Int
 | [],st => st
 | p :: l,st => if p.1 = 1 then evE regs l (p.2 :: st) else if p.1 = 3 then evE regs l (doX p.2 (st.getD 1 0) (st.getD 0 0) :: st.drop 2)
   else evE regs l ((if p.2 < regs.length then regs.getD p.2.toNat 0 else 0) :: st)
theorem evE_cons (regs p l st):evE regs (p :: l) st = if p.1 = 1 then evE regs l (p.2 :: st) else if p.1 = 3 then evE regs l (doX p.2 (st.getD 1 0) (st.getD 0 0) :: st.drop 2)
  else evE regs l ((if p.2 < regs.length then regs.getD p.2.toNat 0 else 0) :: st):=by simp only[evE]
theorem evE_nil (regs st):evE regs [] st = st:=by simp only[evE]
def evX (ex:List (Int × Int)) (regs:List Int):Int:=if chkX ex = true then (evE regs ex []).headD 0 else 0
theorem chkX_inv {ex:List (Int × Int)} (h:chkX ex = true):chkG ex 0 = some 1∧ex.length≤9:=by
 unfold chkX at h
 split at h
 ·rename_i d hd
  simp only[Bool.and_eq_true,decide_eq_true_eq] at h
  exact ⟨by rw[hd,h.1],h.2⟩
 ·cases h
def StkAt (st:List Int) (v:AV) (g:G):Prop:=(st = []∧v = .sl [] 0 .rig)∨(st≠[]∧∃ id,v = .ms id 0 st.length∧g.hp id = some (.cells (intsC st.reverse) false)∧id < g.nx)
structure EvI (ex:List (Int × Int)) (regs:List Int) (k:Nat) (st:List Int) (e:Env) (g:G):Prop where
 hk:k≤ex.length
 hs:st.length≤k
 e0:e 0 = .sl (tkC ex) ex.length .non
 e1:e 1 = .sl (intsC regs) regs.length .non
 e5:StkAt st (e 5) g
 e6:e 6 = .i .i64 ((k:Nat):Int)
 hc:chkG (ex.drop k) st.length = some 1
 ev:evE regs (ex.drop k) st = evE regs ex []
theorem ints_p1 {l:List Int} {k:Nat} (h:k < l.length):part (intsC l) (k * 1) none = some (.i .i64 (l.getD k 0)):=by
 have:=ints_part h
 simpa [part] using this
theorem sp_eval (h115:F 115 = some A_xref02_Eval) (h109:F 109 = some A_xref02_Check) (h125:F 125 = some A_xref02_word) (h128:F 128 = some A_xref02_Do) (ex:List (Int × Int)) (regs:List Int) (hl:ex.length≤1000000) (hr:regs.length≤1000000):
  pureS F 115 [exV ex,.sl (intsC regs) regs.length .non] = some (.i .i64 (evX ex regs)):=by
 refine pure_of h115 ?_
 have hck:=sp_exCheck h109 h125 ex hl
 unfold exV at hck ⊢
 unfold evX
 cases c0:chkX ex with
 | false =>
   rw[c0] at hck
   simp (disch:=omega) only[A_xref02_Eval,wp,qa,qb,qc,hck,if_false]
 | true =>
   rw[c0] at hck
   obtain ⟨hc0,hl9⟩:=chkX_inv c0
   rw[if_pos rfl]
   simp (disch:=omega) only[A_xref02_Eval,wp,qa,qb,qc,hck]
   refine blk_cut (fun e g => ∃ (v:Int) (id:Nat),e 5 = .ms id 0 1∧g.hp id = some (.cells [.i .i64 v] false)∧id < g.nx∧v = (evE regs ex []).headD 0) ?_ ?_
   ·refine W_loop (fun q e g => ∃ (k:Nat) (st:List Int),q = ex.length - k∧EvI ex regs k st e g) ex.length ?_ ?_
    ·exact ⟨0,[],rfl,Nat.zero_le _,Nat.le_refl _,rfl,rfl,.inl ⟨rfl,rfl⟩,rfl,hc0,rfl⟩
    ·rintro q e g ⟨k,st,rfl,hk,hsl,e0,e1,e5,e6,hc,hev⟩
     by_cases c1:k < ex.length
     ·have c1':((k:Nat):Int) < ((ex.length:Nat):Int):=by omega
      have hkd:=tk_k c1
      have hvd:=tk_v c1
      have hl2:=tk_l c1
      have hw:=succ_wrap (k:=k) (by omega)
      have hdc:=drop_cons (d:=((0,0):Int × Int)) c1
      rw[hdc] at hc hev
      rw[chkG_cons] at hc
      rw[evE_cons] at hev
      generalize ex.getD k (0,0) = p at hkd hvd hc hev
      cases c2:wdB p with
      | false => rw[c2] at hc;simp at hc
      | true =>
        rw[c2] at hc
        rw[if_pos rfl] at hc
        have next:∀ (st':List Int) (e':Env) (g':G),chkG (ex.drop (k + 1)) st'.length = some 1→evE regs (ex.drop (k + 1)) st' = evE regs ex []→st'.length≤k + 1→e' 0 = .sl (tkC ex) ex.length .non→e' 1 = .sl (intsC regs) regs.length .non→StkAt st' (e' 5) g'→e' 6 = .i .i64 ((k + 1:Nat):Int) →
          ∃ m',m' < ex.length - k∧∃ (k:Nat) (st:List Int),m' = ex.length - k∧EvI ex regs k st e' g':=
         fun st' e' g' a1 a2 a3 a4 a5 a6 a7 => ⟨ex.length - (k + 1),by omega,k + 1,st',rfl,⟨by omega,a3,a4,a5,a6,a7,a1,a2⟩⟩
        by_cases c3:p.1 = 1
        ·have c3a:(p.1 == 1) = true:=by simpa using c3
         rw[if_neg (by omega)] at hc
         rw[if_pos c3] at hev
         rcases e5 with ⟨rfl,e5⟩ | ⟨hne,b,e5,hb,hlt⟩
         ·simp (disch:=omega) only[wp,qa,qb,qc,e0,e1,e5,e6,c1',hkd,hvd,c3a,hw,o_appM,vAppM_rig,apmR_ok]
          refine next [p.2] _ _ hc hev ?_ ?_ ?_ ?_ ?_
          ·simp
          ·exact e0
          ·exact e1
          ·refine .inr ⟨by simp,_,rfl,?_,?_⟩
           ·simp (disch:=omega) only[upd_same,upd_ne];rfl
           ·dsimp only;omega
          ·rfl
         ·have h1:1≤st.length:=by cases st with | nil => exact absurd rfl hne | cons _ _ => simp
          have hcl:(intsC st.reverse).length = st.length * 1:=by rw[intsC_len,List.length_reverse,Nat.mul_one]
          simp (disch:=omega) only[wp,qa,qb,qc,e0,e1,e5,e6,c1',hkd,hvd,c3a,hw,hb,o_appM,vAppM_S,apmS_ok]
          refine next (p.2 :: st) _ _ hc hev ?_ ?_ ?_ ?_ ?_
          ·simp;omega
          ·exact e0
          ·exact e1
          ·refine .inr ⟨by simp,_,rfl,?_,?_⟩
           ·simp (disch:=omega) only[upd_same,upd_ne];simp[intsC]
           ·dsimp only;omega
          ·rfl
        ·have c3a:(p.1 == 1) = false:=by simpa using c3
         rw[if_neg c3] at hev
         by_cases c4:p.1 = 3
         ·have c4a:(p.1 == 3) = true:=by simpa using c4
          rw[if_pos c4] at hc hev
          by_cases c5:st.length < 2
          ·rw[if_pos c5] at hc;cases hc
          ·rw[if_neg c5] at hc
           obtain ⟨y,x,r,rfl⟩:∃ y x r,st = y :: x :: r:=by
            match st,c5 with
            | [],h => exact absurd (by simp) h
            | [_],h => exact absurd (by simp) h
            | y :: x :: r,_ => exact ⟨y,x,r,rfl⟩
           rcases e5 with ⟨h,_⟩ | ⟨hne,b,e5,hb,hlt⟩
           ·cases h
           ·have hrev:(y :: x :: r).reverse = r.reverse ++ [x,y]:=by simp
            rw[hrev] at hb
            simp only[List.length_cons] at e5 hc hsl
            have hcl:(intsC (r.reverse ++ [x,y])).length = (r.length + 1 + 1) * 1:=by rw[intsC_len];simp
            have hpx:part (intsC (r.reverse ++ [x,y])) (r.length * 1) none = some (.i .i64 x):=by
             rw[ints_p1 (by simp),List.getD_eq_getElem?_getD,List.getElem?_append_right (by simp)];simp
            have hpy:part (intsC (r.reverse ++ [x,y])) ((r.length + 1) * 1) none = some (.i .i64 y):=by
             rw[ints_p1 (by simp),List.getD_eq_getElem?_getD,List.getElem?_append_right (by simp)];simp
            have hs2:IntKind.i64.wrap (((r.length + 1 + 1:Nat):Int) - 2) = ((r.length:Nat):Int):=by rw[i64_wrap (by omega) (by omega)];omega
            have hs1:IntKind.i64.wrap (((r.length + 1 + 1:Nat):Int) - 1) = ((r.length + 1:Nat):Int):=by rw[i64_wrap (by omega) (by omega)];omega
            have hdo:=sp_do h128 p.2 x y
            simp (disch:=omega) only[wp,qa,qb,qc,e0,e1,e5,e6,c1',hkd,hvd,c3a,c4a,hw,hb,hs1,hs2,hpx,hpy,hdo,oSlice,evoN,evoS,slHiM,o_appM,vAppM_C,apcS_ok]
            refine next (doX p.2 x y :: r) _ _ hc hev ?_ ?_ ?_ ?_ ?_
            ·simp;omega
            ·exact e0
            ·exact e1
            ·refine .inr ⟨by simp,_,rfl,?_,?_⟩
             ·simp (disch:=omega) only[upd_same,upd_ne]
              rw[show (intsC (r.reverse ++ [x,y])).take (r.length * 1) = intsC r.reverse by rw[intsC_take,List.take_append_of_le_length (by simp),List.take_of_length_le (by simp)]]
              simp[intsC]
             ·dsimp only;omega
            ·rfl
         ·have c4a:(p.1 == 3) = false:=by simpa using c4
          rw[if_neg c4] at hc hev
          have hv0:0≤p.2∧p.2 < 8:=by
           unfold wdB at c2
           rw[if_neg c3,if_neg c4] at c2
           split at c2
           ·simpa using c2
           ·cases c2
          by_cases c6:p.2 < (regs.length:Int)
          ·rw[if_pos c6] at hev
           have hpr:=ints_part (l:=regs) (k:=p.2.toNat) (by omega)
           rcases e5 with ⟨rfl,e5⟩ | ⟨hne,b,e5,hb,hlt⟩
           ·simp (disch:=omega) only[wp,qa,qb,qc,e0,e1,e5,e6,c1',hkd,hvd,c3a,c4a,c6,hpr,hw,o_appM,vAppM_rig,apmR_ok]
            refine next [regs.getD p.2.toNat 0] _ _ hc hev ?_ ?_ ?_ ?_ ?_
            ·simp
            ·exact e0
            ·exact e1
            ·refine .inr ⟨by simp,_,rfl,?_,?_⟩
             ·simp (disch:=omega) only[upd_same,upd_ne];rfl
             ·dsimp only;omega
            ·rfl
           ·have h1:1≤st.length:=by cases st with | nil => exact absurd rfl hne | cons _ _ => simp
            have hcl:(intsC st.reverse).length = st.length * 1:=by rw[intsC_len,List.length_reverse,Nat.mul_one]
            simp (disch:=omega) only[wp,qa,qb,qc,e0,e1,e5,e6,c1',hkd,hvd,c3a,c4a,c6,hpr,hw,hb,o_appM,vAppM_S,apmS_ok]
            refine next (regs.getD p.2.toNat 0 :: st) _ _ hc hev ?_ ?_ ?_ ?_ ?_
            ·simp;omega
            ·exact e0
            ·exact e1
            ·refine .inr ⟨by simp,_,rfl,?_,?_⟩
             ·simp (disch:=omega) only[upd_same,upd_ne];simp[intsC]
             ·dsimp only;omega
            ·rfl
          ·rw[if_neg c6] at hev
           rcases e5 with ⟨rfl,e5⟩ | ⟨hne,b,e5,hb,hlt⟩
           ·simp (disch:=omega) only[wp,qa,qb,qc,e0,e1,e5,e6,c1',hkd,hvd,c3a,c4a,c6,hw,o_appM,vAppM_rig,apmR_ok]
            refine next [0] _ _ hc hev ?_ ?_ ?_ ?_ ?_
            ·simp
            ·exact e0
            ·exact e1
            ·refine .inr ⟨by simp,_,rfl,?_,?_⟩
             ·simp (disch:=omega) only[upd_same,upd_ne];rfl
             ·dsimp only;omega
            ·rfl
           ·have h1:1≤st.length:=by cases st with | nil => exact absurd rfl hne | cons _ _ => simp
            have hcl:(intsC st.reverse).length = st.length * 1:=by rw[intsC_len,List.length_reverse,Nat.mul_one]
            simp (disch:=omega) only[wp,qa,qb,qc,e0,e1,e5,e6,c1',hkd,hvd,c3a,c4a,c6,hw,hb,o_appM,vAppM_S,apmS_ok]
            refine next (0 :: st) _ _ hc hev ?_ ?_ ?_ ?_ ?_
            ·simp;omega
            ·exact e0
            ·exact e1
            ·refine .inr ⟨by simp,_,rfl,?_,?_⟩
             ·simp (disch:=omega) only[upd_same,upd_ne];simp[intsC]
             ·dsimp only;omega
            ·rfl
     ·have c1':¬ ((k:Nat):Int) < ((ex.length:Nat):Int):=by omega
      obtain rfl:k = ex.length:=by omega
      rw[List.drop_length] at hc hev
      rw[chkG_nil] at hc
      rw[evE_nil] at hev
      have hs1:st.length = 1:=Option.some.inj hc
      obtain ⟨v,rfl⟩:∃ v,st = [v]:=List.length_eq_one_iff.1 hs1
      rcases e5 with ⟨h,_⟩ | ⟨hne,b,e5,hb,hlt⟩
      ·cases h
      ·simp (disch:=omega) only[wp,qa,qb,qc,e0,e1,e5,e6,c1']
       exact ⟨v,b,rfl,hb,by omega,by rw[←hev];rfl⟩
   ·rintro e g ⟨v,id,e5,hid,hlt,rfl⟩
    simp (disch:=omega) only[wp,qa,qb,qc,e5,hid]
end Go.Ab
end
section
set_option linter.unusedVariables false
set_option linter.unusedSimpArgs false
namespace Go.Ab
variable {F:Funs}
structure TkS where
 t0:Tok
 t1:Tok
 td:Tok
 tc:Tok
 ti:Tok
 tr:Tok
 tn:Tok
 tt:Tok
 fs:List Tok
def frC (frm:List (List Int)) (ts:List Tok):List AV:=(List.range 8).map fun r => .sl (intsC (frm.getD r [])) (frm.getD r []).length (ts.getD r .non)
theorem frC_len (frm ts):(frC frm ts).length = 8:=by simp[frC]
theorem frC_at {frm ts} {r:Nat} (h:r < 8):(frC frm ts)[r]? = some (.sl (intsC (frm.getD r [])) (frm.getD r []).length (ts.getD r .non)):=by
 unfold frC
 rw[List.getElem?_map,List.getElem?_range h]
 rfl
theorem frC_set {frm:List (List Int)} {ts:List Tok} {r:Nat} {l:List Int} {t:Tok} (h:r < 8) (hf:frm.length = 8) (ht:ts.length = 8):(frC frm ts).set r (.sl (intsC l) l.length t) = frC (frm.set r l) (ts.set r t):=by
 refine List.ext_getElem? fun i => ?_
 by_cases hi:i < 8
 ·rw[frC_at hi,List.getElem?_set]
  by_cases hr:r = i
  ·subst hr
   rw[if_pos rfl,if_pos (by rw[frC_len];exact h)]
   simp[hf,ht,h]
  ·rw[if_neg hr,frC_at hi]
   simp[hr]
 ·rw[List.getElem?_eq_none (by rw[List.length_set,frC_len];omega),List.getElem?_eq_none (by rw[frC_len];omega)]
def stT (s:RS) (T:TkS):List AV:=frC s.frm T.fs ++ [.sl (intsC s.now) s.now.length T.tn,.sl [] 0 T.tt,.b s.short]
def stC (s:RS) (R:Nat) (reads:List Int) (T:TkS):List AV:=
 .sl (evsC s.evs) s.evs.length T.t0 :: .sl (pairsC s.rmw) s.rmw.length T.t1 :: .sl (pairsC s.data) s.data.length T.td :: .sl (pairsC s.ctrl) s.ctrl.length T.tc :: .sl [] 0 T.ti :: .i .i64 (s.used:Int) :: .ms R 0 8 :: .sl (intsC reads) reads.length T.tr :: stT s T
theorem stT_len (s T):(stT s T).length = 11:=by simp[stT,frC_len]
theorem stT_now (s T):(stT s T)[8]? = some (.sl (intsC s.now) s.now.length T.tn):=by
 unfold stT;rw[List.getElem?_append_right (by rw[frC_len];omega),frC_len];rfl
theorem stT_set (s T):(stT s T)[9]? = some (.sl [] 0 T.tt):=by
 unfold stT;rw[List.getElem?_append_right (by rw[frC_len];omega),frC_len];rfl
theorem stT_short (s T):(stT s T)[10]? = some (.b s.short):=by
 unfold stT;rw[List.getElem?_append_right (by rw[frC_len];omega),frC_len];rfl
theorem stT_frm (s T) {r:Nat} (h:r < 8):(stT s T)[r]? = some (.sl (intsC (s.frm.getD r [])) (s.frm.getD r []).length (T.fs.getD r .non)):=by
 unfold stT;rw[List.getElem?_append_left (by rw[frC_len];omega),frC_at h]
theorem p16 (a0 a1 a2 a3 a4 a5 a6 a7:AV) (l:List AV):part (a0 :: a1 :: a2 :: a3 :: a4 :: a5 :: a6 :: a7 :: l) 16 none = l[8]?:=rfl
theorem p17 (a0 a1 a2 a3 a4 a5 a6 a7:AV) (l:List AV):part (a0 :: a1 :: a2 :: a3 :: a4 :: a5 :: a6 :: a7 :: l) 17 none = l[9]?:=rfl
theorem p18 (a0 a1 a2 a3 a4 a5 a6 a7:AV) (l:List AV):part (a0 :: a1 :: a2 :: a3 :: a4 :: a5 :: a6 :: a7 :: l) 18 none = l[10]?:=rfl
structure SOk (s:RS) (R S:Nat) (reads:List Int) (T:TkS) (g:G):Prop where
 st:g.hp S = some (.cells (stC s R reads T) false)
 rg:g.hp R = some (.cells (intsC s.regs) false)
 l0:Live g 6 T.t0
 l1:Live g 2 T.t1
 ne:∀ i,T.t0≠.own i 6∨T.t1≠.own i 2
 sx:S < g.nx
 rx:R < g.nx
 sr:S≠R
 fs:T.fs.length = 8
 f8:s.frm.length = 8
 r8:s.regs.length = 8
structure Frm (S R:Nat) (g g':G):Prop where
 nx:g.nx≤g'.nx
 cells:∀ b cs ro,b≠S→b≠R→b < g.nx→g.hp b = some (.cells cs ro)→g'.hp b = some (.cells cs ro)
structure SBd (s:RS):Prop where
 evs:s.evs.length≤100
 rmw:s.rmw.length≤100
 data:s.data.length≤10000
 ctrl:s.ctrl.length≤10000
 now:s.now.length≤100
theorem stC_ev (s:RS) (e:Ev) (dl:List Int) (R:Nat) (reads:List Int) (T:TkS) (t:Tok):stC (evR s e dl) R reads { T with t0:=t,td:=.non,tc:=.non,ti:=.non } =
  .sl (evsC s.evs ++ [.i .i64 e.th,.i .i64 e.kd,.i .i64 e.md,.i .i64 e.lc,.i .i64 e.vl,.b e.ex]) (s.evs.length + 1) t :: .sl (pairsC s.rmw) s.rmw.length T.t1 :: .sl (pairsC (pairsI s.data dl s.evs.length)) (pairsI s.data dl s.evs.length).length .non :: .sl (pairsC (pairsI s.ctrl s.now s.evs.length)) (pairsI s.ctrl s.now s.evs.length).length .non :: .sl [] 0 .non :: .i .i64 (s.used:Int) :: .ms R 0 8 :: .sl (intsC reads) reads.length T.tr :: stT s T:=by
 unfold stC evR stT
 simp[evsC,evC]
theorem rp_event (h117:F 117 = some A_xref05_S_Event) (h130:F 130 = some A_xref05_pairs) {s:RS} {R S:Nat} {reads:List Int} {T:TkS} {g:G} (k:SOk s R S reads T g) (hb:SBd s) (e:Ev) (dl:List Int) (td:Tok) (hd:dl.length≤100):
  ∃ v g',callS F 117 [.mp S 0,.agg (evC e),.sl (intsC dl) dl.length td] g = some (v,g')∧v = .i .i64 (s.evs.length:Int)∧∃ T',SOk (evR s e dl) R S reads T' g'∧Frm S R g g':=by
 obtain ⟨st,rg,l0,l1,ne,sx,rx,sr,fs,f8,r8⟩:=k
 obtain ⟨b1,b2,b3,b4,b5⟩:=hb
 refine raw_of (P:=fun v g' => v = .i .i64 (s.evs.length:Int)∧∃ T',SOk (evR s e dl) R S reads T' g'∧Frm S R g g') h117 ?_
 obtain ⟨_,rfl,hp1⟩:=rp_pairs h130 s.data dl s.evs.length .non .non (by omega)
 obtain ⟨_,rfl,hp2⟩:=rp_pairs h130 s.ctrl s.now s.evs.length .non .non (by omega)
 have hp3:pureS F 130 [.sl [] 0 .non,.sl [] 0 .non,.i .i64 (s.evs.length:Int)] = some (.sl [] 0 .non):=by
  obtain ⟨_,rfl,h⟩:=rp_pairs h130 [] [] s.evs.length .non .non (by simp)
  exact h
 have hel:(evsC s.evs).length = s.evs.length * 6:=evsC_len _
 have s6:∀ b1 b2 b3 b4 b5 b6 c1 c2 c3 c4 c5 c6:AV,splice [b1,b2,b3,b4,b5,b6] 0 [c1,c2,c3,c4,c5,c6] = [c1,c2,c3,c4,c5,c6]:=fun _ _ _ _ _ _ _ _ _ _ _ _ => rfl
 have l5:∀ x:AV,List.replicate 5 x = [x,x,x,x,x]:=fun _ => rfl
 have hl:=stT_len s T
 have hn:=stT_now s T
 have hs:=stT_set s T
 unfold stC at st
 have p6:∀ a b c d e f:AV,part [a,b,c,d,e,f] 0 (some 6) = some (.agg [a,b,c,d,e,f]):=fun _ _ _ _ _ _ => rfl
 have hev:evC e = [.i .i64 e.th,.i .i64 e.kd,.i .i64 e.md,.i .i64 e.lc,.i .i64 e.vl,.b e.ex]:=rfl
 rcases l0 with h0 | ⟨τ,h0,hτ,lτ⟩
 ·rw[h0] at st
  simp (disch:=omega) only[A_xref05_S_Event,wp,qa,qb,qc,gl,st,hev,p6,p16,p17,hn,hs,hl,l5,s6,hel,hp1,hp2,hp3,List.length_set]
  refine ⟨_,rfl,rfl,{ T with t0:=.own (g.nx + 2 + 7 + 8) 6,td:=.non,tc:=.non,ti:=.non },⟨?_,?_,.inr ⟨_,rfl,?_,by first | omega | (dsimp only;omega)⟩,?_,fun i => ?_,by first | omega | (dsimp only;omega),by first | omega | (dsimp only;omega),sr,fs,f8,r8⟩,⟨by first | omega | (dsimp only;omega),fun b cs ro h1 h2 h3 h4 => ?_⟩⟩
  ·rw[stC_ev]
   simp (disch:=omega) only[upd_same]
  ·simp (disch:=omega) only[upd_ne,rg]
   rfl
  ·simp (disch:=omega) only[upd_same,upd_ne]
  ·rcases l1 with h1 | ⟨τ1,h1,hτ1,lτ1⟩
   ·exact .inl h1
   ·have n1:τ1≠S:=fun h => by rw[h,st] at hτ1;cases hτ1
    skip
    exact .inr ⟨τ1,h1,by simp (disch:=omega) only[upd_ne,hτ1],by first | omega | (dsimp only;omega)⟩
  ·by_cases hi:i = g.nx + 2 + 7 + 8
   ·refine .inr fun h => ?_
    rcases l1 with h1 | ⟨τ1,h1,hτ1,lτ1⟩
    ·rw[show (_:TkS).t1 = T.t1 from rfl,h1] at h;cases h
    ·rw[show (_:TkS).t1 = T.t1 from rfl,h1] at h;injection h with h;omega
   ·exact .inl fun h => by injection h with h;omega
  ·simp (disch:=omega) only[upd_ne,h4]
 ·rw[h0] at st
  have m1:τ≠S:=fun h => by rw[h,st] at hτ;cases hτ
  have m2:τ≠R:=fun h => by rw[h,rg] at hτ;cases hτ
  simp (disch:=omega) only[A_xref05_S_Event,wp,qa,qb,qc,gl,st,hτ,hev,p6,p16,p17,hn,hs,hl,l5,s6,hel,hp1,hp2,hp3,List.length_set]
  refine ⟨_,rfl,rfl,{ T with t0:=.own (g.nx + 2 + 7 + 8) 6,td:=.non,tc:=.non,ti:=.non },⟨?_,?_,.inr ⟨_,rfl,?_,by first | omega | (dsimp only;omega)⟩,?_,fun i => ?_,by first | omega | (dsimp only;omega),by first | omega | (dsimp only;omega),sr,fs,f8,r8⟩,⟨by first | omega | (dsimp only;omega),fun b cs ro h1 h2 h3 h4 => ?_⟩⟩
  ·rw[stC_ev]
   simp (disch:=omega) only[upd_same]
  ·simp (disch:=omega) only[upd_ne,rg]
   rfl
  ·simp (disch:=omega) only[upd_same,upd_ne]
  ·rcases l1 with h1 | ⟨τ1,h1,hτ1,lτ1⟩
   ·exact .inl h1
   ·have n1:τ1≠S:=fun h => by rw[h,st] at hτ1;cases hτ1
    have n2:τ1≠τ:=fun h => by rcases ne τ with h2 | h2<;>first | exact h2 h0 | exact h2 (by rw[h1,h])
    exact .inr ⟨τ1,h1,by simp (disch:=omega) only[upd_ne,hτ1],by first | omega | (dsimp only;omega)⟩
  ·by_cases hi:i = g.nx + 2 + 7 + 8
   ·refine .inr fun h => ?_
    rcases l1 with h1 | ⟨τ1,h1,hτ1,lτ1⟩
    ·rw[show (_:TkS).t1 = T.t1 from rfl,h1] at h;cases h
    ·rw[show (_:TkS).t1 = T.t1 from rfl,h1] at h;injection h with h;omega
   ·exact .inl fun h => by injection h with h;omega
  ·have n3:b≠τ:=fun h => by rw[h,hτ] at h4;cases h4
   simp (disch:=omega) only[upd_ne,h4]
end Go.Ab
end
section
set_option linter.unusedVariables false
set_option linter.unusedSimpArgs false
namespace Go.Ab
variable {F:Funs}
theorem set8 (a0 a1 a2 a3 a4 a5 a6 a7:AV) (l:List AV) (r:Nat) (v:AV):(a0 :: a1 :: a2 :: a3 :: a4 :: a5 :: a6 :: a7 :: l).set (8 + r * 1) v = a0 :: a1 :: a2 :: a3 :: a4 :: a5 :: a6 :: a7 :: l.set r v:=by
 rw[show 8 + r * 1 = r + 8 by omega]
 rfl
theorem pt6 (a0 a1 a2 a3 a4 a5 a6:AV) (l:List AV):part (a0 :: a1 :: a2 :: a3 :: a4 :: a5 :: a6 :: l) 6 none = some a6:=rfl
theorem pt7 (a0 a1 a2 a3 a4 a5 a6 a7:AV) (l:List AV):part (a0 :: a1 :: a2 :: a3 :: a4 :: a5 :: a6 :: a7 :: l) 7 none = some a7:=rfl
theorem part8 (a0 a1 a2 a3 a4 a5 a6 a7:AV) (l:List AV) (r:Nat):part (a0 :: a1 :: a2 :: a3 :: a4 :: a5 :: a6 :: a7 :: l) (8 + r * 1) none = l[r]?:=by
 rw[show 8 + r * 1 = r + 8 by omega]
 rfl
theorem stT_putF (s:RS) (T:TkS) {r:Nat} {l:List Int} {t:Tok} (h:r < 8) (hf:s.frm.length = 8) (ht:T.fs.length = 8):(stT s T).set r (.sl (intsC l) l.length t) = stT { s with frm:=s.frm.set r l } { T with fs:=T.fs.set r t }:=by
 unfold stT
 rw[List.set_append_left _ _ (by rw[frC_len];exact h),frC_set h hf ht]
theorem stT_putS (s:RS) (T:TkS) (b:Bool):(stT s T).set 10 (.b b) = stT { s with short:=b } T:=by
 unfold stT
 rw[List.set_append_right _ _ (by rw[frC_len];omega),frC_len]
 rfl
theorem stT_putN (s:RS) (T:TkS) (l:List Int) (t:Tok):(stT s T).set 8 (.sl (intsC l) l.length t) = stT { s with now:=l } { T with tn:=t }:=by
 unfold stT
 rw[List.set_append_right _ _ (by rw[frC_len];omega),frC_len]
 rfl
theorem intsC_set (l:List Int) (r:Nat) (v:Int):(intsC l).set (r * 1) (.i .i64 v) = intsC (l.set r v):=by
 rw[Nat.mul_one];unfold intsC;rw[List.map_set]
theorem SOk.put {s s1:RS} {R S:Nat} {reads:List Int} {T T1:TkS} {g:G} (k:SOk s R S reads T g) (hr:s1.regs = s.regs) (hf:s1.frm.length = 8) (h0:T1.t0 = T.t0) (h1:T1.t1 = T.t1) (hfs:T1.fs.length = 8) {hp':Nat→Option Blk} {m:Nat} (hS:hp' S = some (.cells (stC s1 R reads T1) false)) (ho:∀ i,i < g.nx→i≠S→hp' i = g.hp i) (hm:g.nx≤m):SOk s1 R S reads T1 ⟨hp',m⟩:=by
 obtain ⟨st,rg,l0,l1,ne,sx,rx,sr,fs,f8,r8⟩:=k
 refine ⟨hS,by show hp' R = _;rw[ho R rx (fun h => sr h.symm),hr];exact rg,?_,?_,by rw[h0,h1];exact ne,Nat.lt_of_lt_of_le sx hm,Nat.lt_of_lt_of_le rx hm,sr,hfs,hf,by rw[hr];exact r8⟩
 ·rw[h0]
  rcases l0 with h | ⟨τ,h,hτ,lτ⟩
  ·exact .inl h
  ·exact .inr ⟨τ,h,by show hp' τ = _;rw[ho τ lτ fun h => by rw[h,st] at hτ;cases hτ];exact hτ,Nat.lt_of_lt_of_le lτ hm⟩
 ·rw[h1]
  rcases l1 with h | ⟨τ,h,hτ,lτ⟩
  ·exact .inl h
  ·exact .inr ⟨τ,h,by show hp' τ = _;rw[ho τ lτ fun h => by rw[h,st] at hτ;cases hτ];exact hτ,Nat.lt_of_lt_of_le lτ hm⟩
theorem SOk.old {s:RS} {R S:Nat} {reads:List Int} {T:TkS} {g:G} (k:SOk s R S reads T g) {hp':Nat→Option Blk} {m:Nat} (ho:∀ i,i < g.nx→hp' i = g.hp i) (hm:g.nx≤m):SOk s R S reads T ⟨hp',m⟩:=
 k.put rfl k.f8 rfl rfl k.fs (by rw[ho S k.sx];exact k.st) (fun i hi _ => ho i hi) hm
theorem SOk.putR {s s1:RS} {R S:Nat} {reads:List Int} {T T1:TkS} {g:G} (k:SOk s R S reads T g) (hr8:s1.regs.length = 8) (hf:s1.frm.length = 8) (h0:T1.t0 = T.t0) (h1:T1.t1 = T.t1) (hfs:T1.fs.length = 8) {hp':Nat→Option Blk} {m:Nat} (hS:hp' S = some (.cells (stC s1 R reads T1) false)) (hR:hp' R = some (.cells (intsC s1.regs) false)) (ho:∀ i,i < g.nx→i≠S→i≠R→hp' i = g.hp i) (hm:g.nx≤m):SOk s1 R S reads T1 ⟨hp',m⟩:=by
 obtain ⟨st,rg,l0,l1,ne,sx,rx,sr,fs,f8,r8⟩:=k
 refine ⟨hS,hR,?_,?_,by rw[h0,h1];exact ne,Nat.lt_of_lt_of_le sx hm,Nat.lt_of_lt_of_le rx hm,sr,hfs,hf,hr8⟩
 ·rw[h0]
  rcases l0 with h | ⟨τ,h,hτ,lτ⟩
  ·exact .inl h
  ·exact .inr ⟨τ,h,by show hp' τ = _;rw[ho τ lτ (fun h => by rw[h,st] at hτ;cases hτ) (fun h => by rw[h,rg] at hτ;cases hτ)];exact hτ,Nat.lt_of_lt_of_le lτ hm⟩
 ·rw[h1]
  rcases l1 with h | ⟨τ,h,hτ,lτ⟩
  ·exact .inl h
  ·exact .inr ⟨τ,h,by show hp' τ = _;rw[ho τ lτ (fun h => by rw[h,st] at hτ;cases hτ) (fun h => by rw[h,rg] at hτ;cases hτ)];exact hτ,Nat.lt_of_lt_of_le lτ hm⟩
theorem Frm.trans {S R:Nat} {g g1 g2:G} (h:Frm S R g g1) (k:Frm S R g1 g2):Frm S R g g2:=
 ⟨Nat.le_trans h.nx k.nx,fun b cs ro h1 h2 h3 h4 => k.cells b cs ro h1 h2 (Nat.lt_of_lt_of_le h3 h.nx) (h.cells b cs ro h1 h2 h3 h4)⟩
theorem Frm.of {S R:Nat} {g:G} {hp':Nat→Option Blk} {m:Nat} (hm:g.nx≤m) (ho:∀ i,i < g.nx→i≠S→i≠R→hp' i = g.hp i):Frm S R g ⟨hp',m⟩:=
 ⟨hm,fun b cs ro h1 h2 h3 h4 => by show hp' b = _;rw[ho b h3 h1 h2];exact h4⟩
theorem rp_read (h113:F 113 = some A_xref05_S_Read) (h117:F 117 = some A_xref05_S_Event) (h130:F 130 = some A_xref05_pairs) {s:RS} {R S:Nat} {reads:List Int} {T:TkS} {g:G} (k:SOk s R S reads T g) (hb:SBd s) (hu:s.used≤1000) (loc mode:Int) (ex:Bool) {reg:Nat} (hreg:reg < 8):
  ∃ v g',callS F 113 [.mp S 0,.i .i64 loc,.i .i64 mode,.b ex,.i .i64 ((reg:Nat):Int)] g = some (v,g')∧v = .b (!decide (reads.length≤s.used))∧∃ T',SOk (rdR s reads loc mode ex reg) R S reads T' g'∧Frm S R g g':=by
 have k0:=k
 obtain ⟨st,rg,l0,l1,ne,sx,rx,sr,fs,f8,r8⟩:=k
 refine raw_of (P:=fun v g' => v = .b (!decide (reads.length≤s.used))∧∃ T',SOk (rdR s reads loc mode ex reg) R S reads T' g'∧Frm S R g g') h113 ?_
 have hl:=stT_len s T
 have hn:=stT_now s T
 have hs:=stT_set s T
 have l5:∀ x:AV,List.replicate 5 x = [x,x,x,x,x]:=fun _ => rfl
 unfold stC at st
 by_cases c1:reads.length≤s.used
 ·have c1':((reads.length:Nat):Int)≤((s.used:Nat):Int):=by omega
  simp (disch:=omega) only[A_xref05_S_Read,wp,qa,qb,qc,gl,st,c1',hl,pt6,pt7,p16,p17,set8,part8,hn,hs,List.length_set]
  refine ⟨_,rfl,by rw[decide_eq_true c1];rfl,T,?_,?_⟩
  ·rw[stT_putS]
   unfold rdR
   rw[if_pos c1]
   refine SOk.put (s1:={ s with short:=true }) (T1:=T) k0 rfl f8 rfl rfl fs ?_ (fun i hi h1 => ?_) ?_
   ·simp (disch:=omega) only[upd_same];rfl
   ·simp (disch:=omega) only[upd_ne]
   ·omega
  ·refine Frm.of ?_ fun i hi h1 h2 => ?_
   ·omega
   ·simp (disch:=omega) only[upd_ne]
 ·have c1':¬ ((reads.length:Nat):Int)≤((s.used:Nat):Int):=by omega
  have hip:=ints_part (l:=reads) (k:=s.used) (by omega)
  have hwu:=succ_wrap (k:=s.used) (by omega)
  have hrd:rdR s reads loc mode ex reg = { evR { s with used:=s.used + 1 } ⟨0,1,mode,loc,reads.getD s.used 0,ex⟩ [] with regs:=(evR { s with used:=s.used + 1 } ⟨0,1,mode,loc,reads.getD s.used 0,ex⟩ []).regs.set reg (reads.getD s.used 0),frm:=(evR { s with used:=s.used + 1 } ⟨0,1,mode,loc,reads.getD s.used 0,ex⟩ []).frm.set reg [(s.evs.length:Int)] }:=by
   unfold rdR
   rw[if_neg c1]
  generalize reads.getD s.used 0 = val at hip hrd
  simp (disch:=omega) only[A_xref05_S_Read,wp,qa,qb,qc,gl,st,c1',hl,pt6,pt7,p16,p17,set8,part8,hn,hs,hip,hwu,l5,List.length_set]
  have k1:SOk { s with used:=s.used + 1 } R S reads T ⟨upd g.hp S (some (.cells (stC { s with used:=s.used + 1 } R reads T) false)),g.nx + 1 + 11 + 12 + 10 + 8⟩:=
   SOk.put (s1:={ s with used:=s.used + 1 }) (T1:=T) k0 rfl f8 rfl rfl fs (upd_same ..) (fun i hi h1 => upd_ne _ _ h1) (by omega)
  refine bindO_call (P:=fun v g' => v = .i .i64 (s.evs.length:Int)∧∃ T',SOk (evR { s with used:=s.used + 1 } ⟨0,1,mode,loc,val,ex⟩ []) R S reads T' g'∧Frm S R _ g') (rp_event h117 h130 k1 ⟨hb.evs,hb.rmw,hb.data,hb.ctrl,hb.now⟩ ⟨0,1,mode,loc,val,ex⟩ [] .rig (Nat.zero_le _)) ?_
  rintro v g2 ⟨rfl,T2,k2,fr⟩
  generalize evR { s with used:=s.used + 1 } ⟨0,1,mode,loc,val,ex⟩ [] = s1 at k2 hrd
  have st2:=k2.st
  have rg2:=k2.rg
  have sx2:=k2.sx
  have rx2:=k2.rx
  have hl2:=stT_len s1 T2
  have hrl:(intsC s1.regs).length = 8:=by rw[intsC_len];exact k2.r8
  unfold stC at st2
  simp (disch:=omega) only[wp,qa,qb,qc,gl,st2,rg2,hl2,hrl,pt6,pt7,p16,p17,set8,part8,intsC_set,List.length_set]
  refine ⟨_,rfl,by rw[decide_eq_false c1];rfl,{ T2 with fs:=T2.fs.set reg .rig },?_,?_⟩
  ·rw[hrd]
   have hset:=stT_putF s1 T2 (l:=[(s.evs.length:Int)]) (t:=.rig) hreg k2.f8 k2.fs
   rw[show AV.sl [AV.i .i64 (s.evs.length:Int)] 1 .rig = .sl (intsC [(s.evs.length:Int)]) [(s.evs.length:Int)].length .rig from rfl,hset]
   refine SOk.putR (s1:={ s1 with regs:=s1.regs.set reg val,frm:=s1.frm.set reg [(s.evs.length:Int)] }) (T1:={ T2 with fs:=T2.fs.set reg .rig }) k2 ?_ ?_ rfl rfl ?_ ?_ ?_ (fun i hi h1 h2 => ?_) ?_
   ·show (s1.regs.set reg val).length = 8
    rw[List.length_set];exact k2.r8
   ·show (s1.frm.set reg _).length = 8
    rw[List.length_set];exact k2.f8
   ·show (T2.fs.set reg _).length = 8
    rw[List.length_set];exact k2.fs
   ·simp (disch:=omega) only[upd_same];rfl
   ·have:=k2.sr
    simp (disch:=omega) only[upd_same,upd_ne]
   ·simp (disch:=omega) only[upd_ne]
   ·omega
  ·refine (Frm.of (S:=S) (R:=R) (g:=g) (m:=g.nx + 1 + 11 + 12 + 10 + 8) ?_ fun i hi h1 h2 => ?_).trans (fr.trans (Frm.of ?_ fun i hi h1 h2 => ?_))
   ·omega
   ·exact upd_ne _ _ h1
   ·omega
   ·simp (disch:=omega) only[upd_ne]
end Go.Ab
end
section
set_option linter.unusedVariables false
set_option linter.unusedSimpArgs false
namespace Go.Ab
variable {F:Funs}
theorem rp_write (h114:F 114 = some A_xref05_S_Write) (h117:F 117 = some A_xref05_S_Event) (h130:F 130 = some A_xref05_pairs) {s:RS} {R S:Nat} {reads:List Int} {T:TkS} {g:G} (k:SOk s R S reads T g) (hb:SBd s) (loc mode:Int) (ex:Bool) (val:Int) (dl:List Int) (td:Tok) (hd:dl.length≤100):
  ∃ v g',callS F 114 [.mp S 0,.i .i64 loc,.i .i64 mode,.b ex,.i .i64 val,.sl (intsC dl) dl.length td] g = some (v,g')∧∃ T',SOk (wrR s loc mode ex val dl) R S reads T' g'∧Frm S R g g':=by
 refine raw_of (P:=fun v g' => ∃ T',SOk (wrR s loc mode ex val dl) R S reads T' g'∧Frm S R g g') h114 ?_
 have l5:∀ x:AV,List.replicate 5 x = [x,x,x,x,x]:=fun _ => rfl
 have s2:∀ b1 b2 c1 c2:AV,splice [b1,b2] 0 [c1,c2] = [c1,c2]:=fun _ _ _ _ => rfl
 simp (disch:=omega) only[A_xref05_S_Write,wp,qa,qb,qc,gl,l5]
 have k1:SOk s R S reads T ⟨g.hp,g.nx + 9⟩:=k.old (fun i hi => rfl) (by omega)
 refine bindO_call (P:=fun v g' => v = .i .i64 (s.evs.length:Int)∧∃ T',SOk (evR s ⟨0,2,mode,loc,val,ex⟩ dl) R S reads T' g'∧Frm S R _ g') (rp_event h117 h130 k1 hb ⟨0,2,mode,loc,val,ex⟩ dl td hd) ?_
 rintro v g2 ⟨rfl,T2,k2,fr⟩
 have fr0:Frm S R g g2:=(Frm.of (S:=S) (R:=R) (g:=g) (m:=g.nx + 9) (by omega) fun i hi h1 h2 => rfl).trans fr
 have hwr:wrR s loc mode ex val dl = if ex then { evR s ⟨0,2,mode,loc,val,ex⟩ dl with rmw:=(evR s ⟨0,2,mode,loc,val,ex⟩ dl).rmw ++ [((s.evs.length:Int) - 1,(s.evs.length:Int))] } else evR s ⟨0,2,mode,loc,val,ex⟩ dl:=rfl
 have hrm:(evR s ⟨0,2,mode,loc,val,ex⟩ dl).rmw.length≤100:=hb.rmw
 generalize evR s ⟨0,2,mode,loc,val,ex⟩ dl = s1 at k2 hwr hrm
 have sx2:=k2.sx
 have rx2:=k2.rx
 cases ex with
 | false =>
   simp (disch:=omega) only[wp,qa,qb,qc,gl]
   refine ⟨_,rfl,T2,?_,?_⟩
   ·rw[hwr]
    exact k2.old (fun i hi => rfl) (by omega)
   ·exact fr0.trans (Frm.of (by omega) fun i hi h1 h2 => rfl)
 | true =>
   have st2:=k2.st
   have hpl:(pairsC s1.rmw).length = s1.rmw.length * 2:=pairsC_len _
   have hw:IntKind.i64.wrap ((s.evs.length:Int) - 1) = (s.evs.length:Int) - 1:=i64_wrap (by omega) (by have:=hb.evs;omega)
   unfold stC at st2
   rcases k2.l1 with h1 | ⟨τ,h1,hτ,lτ⟩
   ·rw[h1] at st2
    simp (disch:=omega) only[wp,qa,qb,qc,gl,st2,hpl,hw,s2,List.length_set]
    refine ⟨_,rfl,{ T2 with t1:=.own (g2.nx + 1 + 11) 2 },?_,?_⟩
    ·rw[hwr,if_pos rfl]
     have sr2:=k2.sr
     refine ⟨?_,?_,?_,.inr ⟨_,rfl,?_,?_⟩,fun i => ?_,?_,?_,sr2,k2.fs,k2.f8,k2.r8⟩
     ·simp (disch:=omega) only[upd_same]
      unfold stC stT
      simp[pairsC]
     ·simp (disch:=omega) only[upd_ne,k2.rg]
     ·rcases k2.l0 with h0 | ⟨τ1,h0,hτ1,lτ1⟩
      ·exact .inl h0
      ·have n1:τ1≠S:=fun h => by rw[h,st2] at hτ1;cases hτ1
       skip
       exact .inr ⟨τ1,h0,by simp (disch:=omega) only[upd_ne,hτ1],by dsimp only;omega⟩
     ·simp (disch:=omega) only[upd_same,upd_ne]
     ·dsimp only;omega
     ·by_cases hi:i = g2.nx + 1 + 11
      ·refine .inl fun h => ?_
       rcases k2.l0 with h0 | ⟨τ1,h0,hτ1,lτ1⟩
       ·rw[show (_:TkS).t0 = T2.t0 from rfl,h0] at h;cases h
       ·rw[show (_:TkS).t0 = T2.t0 from rfl,h0] at h;injection h with h;omega
      ·exact .inr fun h => by injection h with h;omega
     ·dsimp only;omega
     ·dsimp only;omega
    ·refine fr0.trans ⟨by dsimp only;omega,fun b cs ro h1 h2 h3 h4 => ?_⟩
     ·simp (disch:=omega) only[upd_ne,h4]
   ·rw[h1] at st2
    have m1:τ≠S:=fun h => by rw[h,st2] at hτ;cases hτ
    simp (disch:=omega) only[wp,qa,qb,qc,gl,st2,hτ,hpl,hw,s2,List.length_set]
    refine ⟨_,rfl,{ T2 with t1:=.own (g2.nx + 1 + 11) 2 },?_,?_⟩
    ·rw[hwr,if_pos rfl]
     have sr2:=k2.sr
     have m2:τ≠R:=fun h => by rw[h,k2.rg] at hτ;cases hτ
     refine ⟨?_,?_,?_,.inr ⟨_,rfl,?_,?_⟩,fun i => ?_,?_,?_,sr2,k2.fs,k2.f8,k2.r8⟩
     ·simp (disch:=omega) only[upd_same]
      unfold stC stT
      simp[pairsC]
     ·simp (disch:=omega) only[upd_ne,k2.rg]
     ·rcases k2.l0 with h0 | ⟨τ1,h0,hτ1,lτ1⟩
      ·exact .inl h0
      ·have n1:τ1≠S:=fun h => by rw[h,st2] at hτ1;cases hτ1
       have n2:τ1≠τ:=fun h => by rcases k2.ne τ with h3 | h3<;>first | exact h3 (by rw[h0,h]) | exact h3 h1
       exact .inr ⟨τ1,h0,by simp (disch:=omega) only[upd_ne,hτ1],by dsimp only;omega⟩
     ·simp (disch:=omega) only[upd_same,upd_ne]
     ·dsimp only;omega
     ·by_cases hi:i = g2.nx + 1 + 11
      ·refine .inl fun h => ?_
       rcases k2.l0 with h0 | ⟨τ1,h0,hτ1,lτ1⟩
       ·rw[show (_:TkS).t0 = T2.t0 from rfl,h0] at h;cases h
       ·rw[show (_:TkS).t0 = T2.t0 from rfl,h0] at h;injection h with h;omega
      ·exact .inr fun h => by injection h with h;omega
     ·dsimp only;omega
     ·dsimp only;omega
    ·refine fr0.trans ⟨by dsimp only;omega,fun b cs ro h1 h2 h3 h4 => ?_⟩
     ·have n3:b≠τ:=fun h => by rw[h,hτ] at h4;cases h4
      simp (disch:=omega) only[upd_ne,h4]
end Go.Ab
end
section
set_option linter.unusedVariables false
set_option linter.unusedSimpArgs false
namespace Go.Ab
variable {F:Funs}
def natC (l:List Nat):List AV:=l.map fun (r:Nat) => .i .i64 ((r:Nat):Int)
def ofL (s:RS) (rs:List Nat):List Int:=rs.foldl (fun l r => bothI l (s.frm.getD r [])) []
theorem ofL_take {s:RS} {rs:List Nat} {k:Nat} (h:k < rs.length):ofL s (rs.take (k + 1)) = bothI (ofL s (rs.take k)) (s.frm.getD (rs.getD k 0) []):=by
 have ht:rs.take (k + 1) = rs.take k ++ [rs.getD k 0]:=by
  rw[List.take_add_one,List.getD_eq_getElem?_getD,List.getElem?_eq_getElem h]
  rfl
 unfold ofL
 rw[ht,List.foldl_append]
 rfl
theorem ofL_len {s:RS} (hf:∀ r,(s.frm.getD r []).length≤100) (rs:List Nat):∀ k,k≤rs.length→(ofL s (rs.take k)).length≤100 * k
 | 0,_ => Nat.zero_le _
 | k + 1,h => by
   rw[ofL_take (by omega)]
   have h1:=bothI_len (a:=ofL s (rs.take k)) (b:=s.frm.getD (rs.getD k 0) [])
   have h2:=ofL_len hf rs k (by omega)
   have h3:=hf (rs.getD k 0)
   omega
theorem nat_part {l:List Nat} {k:Nat} (h:k < l.length):part ((natC l).drop (k * 1)) 0 none = some (.i .i64 ((l.getD k 0:Nat):Int)):=by
 simp only[part,Nat.mul_one,natC]
 rw[List.getElem?_drop,Nat.add_zero,List.getElem?_map,List.getD_eq_getElem?_getD,List.getElem?_eq_getElem h]
 rfl
theorem rp_of (h116:F 116 = some A_xref05_S_Of) (h129:F 129 = some A_xref05_Both) (h132:F 132 = some A_xref05_Put) {s:RS} {R S:Nat} {reads:List Int} {T:TkS} {g:G} (k:SOk s R S reads T g) (hf:∀ r,(s.frm.getD r []).length≤100) {ex:List (Int × Int)} {rs:List Nat} (hrs:pureS F 126 [exV ex] = some (.sl (natC rs) rs.length .non)) (h8:∀ r∈rs,r < 8) (hl8:rs.length≤8):
  ∃ v g',callS F 116 [.mp S 0,exV ex] g = some (v,g')∧(∃ t,v = .sl (intsC (ofL s rs)) (ofL s rs).length t)∧g'.hp = g.hp∧g.nx≤g'.nx:=by
 refine raw_of (P:=fun v g' => (∃ t,v = .sl (intsC (ofL s rs)) (ofL s rs).length t)∧g'.hp = g.hp∧g.nx≤g'.nx) h116 ?_
 obtain ⟨st,rg,l0,l1,ne,sx,rx,sr,fs,f8,r8⟩:=k
 have hl:=stT_len s T
 unfold stC at st
 unfold exV at hrs ⊢
 simp (disch:=omega) only[A_xref05_S_Of,wp,qa,qb,qc,gl,hrs]
 refine W_loop (fun q e g1 => ∃ (i:Nat) (w:Tok),q = rs.length - i∧i≤rs.length∧e 0 = .mp S 0∧e 5 = .sl (intsC (ofL s (rs.take i))) (ofL s (rs.take i)).length w∧e 6 = .sl (natC rs) rs.length .non∧e 7 = .i .i64 ((i:Nat):Int)∧g1.hp = g.hp∧g.nx≤g1.nx) rs.length ?_ ?_
 ·refine ⟨0,.rig,rfl,Nat.zero_le _,?_⟩
  simp (disch:=omega) only[wp,qa,qb,qc]
  exact ⟨rfl,rfl,by omega⟩
 ·rintro q e g1 ⟨i,w,rfl,hi,e0,e5,e6,e7,hh,hx⟩
  rw[←hh] at st
  by_cases c1:i < rs.length
  ·have c1':((i:Nat):Int) < ((rs.length:Nat):Int):=by omega
   have hip:=nat_part c1
   have hw:=succ_wrap (k:=i) (by omega)
   have hr8:rs.getD i 0 < 8:=h8 _ (by rw[List.getD_eq_getElem?_getD,List.getElem?_eq_getElem c1];exact List.getElem_mem c1)
   have hfa:=stT_frm s T hr8
   have hlen:=ofL_len hf rs i hi
   have hfr:=hf (rs.getD i 0)
   obtain ⟨_,rfl,hbo⟩:=rp_both h129 h132 (ofL s (rs.take i)) (s.frm.getD (rs.getD i 0) []) .non .non (by omega)
   rw[←ofL_take c1] at hbo
   generalize rs.getD i 0 = r at hip hr8 hfa hfr hbo
   simp (disch:=omega) only[wp,qa,qb,qc,gl,e0,e5,e6,e7,c1',hip,hw,st,part8,hfa,hl,hbo,List.length_set]
   exact ⟨rs.length - (i + 1),by omega,i + 1,.non,rfl,by omega,rfl,rfl,hh,by omega⟩
  ·have c1':¬ ((i:Nat):Int) < ((rs.length:Nat):Int):=by omega
   obtain rfl:i = rs.length:=by omega
   rw[List.take_length] at e5
   simp (disch:=omega) only[wp,qa,qb,qc,gl,e0,e5,e6,e7,c1']
   exact ⟨_,rfl,⟨w,rfl⟩,hh,by omega⟩
theorem ints_pt {l:List Int} {k:Nat} (h:k < l.length):part (intsC l) (k * 1) none = some (.i .i64 (l.getD k 0)):=by
 simp only[part,Nat.mul_one,intsC]
 rw[List.getElem?_map,List.getD_eq_getElem?_getD,List.getElem?_eq_getElem h]
 rfl
theorem rdR_bd {s:RS} {reads:List Int} {loc md:Int} {ex:Bool} {reg:Nat} (hb:SBd s) (h1:s.evs.length + 1≤100) (h2:s.ctrl.length + 100≤10000):SBd (rdR s reads loc md ex reg):=by
 unfold rdR
 split
 ·exact ⟨hb.evs,hb.rmw,hb.data,hb.ctrl,hb.now⟩
 ·refine ⟨by show (s.evs ++ [_]).length≤100;simpa using h1,hb.rmw,hb.data,?_,hb.now⟩
  show (pairsI s.ctrl s.now _).length≤10000
  rw[pairsI_len]
  have:=hb.now
  omega
theorem rdR_frm {s:RS} {reads:List Int} {loc md:Int} {ex:Bool} {reg:Nat} {m:Nat} (hm:1≤m) (hf:∀ r,(s.frm.getD r []).length≤m) (r:Nat):((rdR s reads loc md ex reg).frm.getD r []).length≤m:=by
 unfold rdR
 split
 ·exact hf r
 ·show ((s.frm.set reg [_]).getD r []).length≤m
  rw[List.getD_eq_getElem?_getD,List.getElem?_set]
  split
  ·split
   ·simpa using hm
   ·simp
  ·have:=hf r
   rwa [List.getD_eq_getElem?_getD] at this
structure RunF (F:Funs):Prop where
 event:F 117 = some A_xref05_S_Event
 read:F 113 = some A_xref05_S_Read
 write:F 114 = some A_xref05_S_Write
 of_:F 116 = some A_xref05_S_Of
 faa:F 118 = some A_xref05_S_faa
 move:F 119 = some A_xref05_S_Move
 skip:F 120 = some A_xref05_S_Skip
 start:F 112 = some A_xref05_Start
 do_:F 104 = some A_xref05_Do
 both:F 129 = some A_xref05_Both
 pairs:F 130 = some A_xref05_pairs
 put:F 132 = some A_xref05_Put
structure ExW (F:Funs) (ex:List (Int × Int)) (regs:List Int) (rs:List Nat) (val:Int):Prop where
 reck:pureS F 115 [exV ex,.sl (intsC regs) 8 .non] = some (.i .i64 val)
 regs:pureS F 126 [exV ex] = some (.sl (natC rs) rs.length .non)
 lt:∀ r∈rs,r < 8
 len:rs.length≤8
theorem ints_flat (l:List Int):(intsC l).all flat = true:=by
 unfold intsC
 rw[List.all_map]
 exact List.all_eq_true.2 fun x _ => rfl
theorem rp_move (A:RunF F) {s:RS} {R S:Nat} {reads:List Int} {T:TkS} {g:G} (k:SOk s R S reads T g) (hf:∀ r,(s.frm.getD r []).length≤100) {ex:List (Int × Int)} {rs:List Nat} {val:Int} (X:ExW F ex s.regs rs val) {reg:Nat} (hreg:reg < 8):
  ∃ v g',callS F 119 [.mp S 0,.i .i64 ((reg:Nat):Int),exV ex] g = some (v,g')∧∃ T',SOk { s with regs:=s.regs.set reg val,frm:=s.frm.set reg (ofL s rs) } R S reads T' g'∧Frm S R g g':=by
 refine raw_of (P:=fun v g' => ∃ T',SOk { s with regs:=s.regs.set reg val,frm:=s.frm.set reg (ofL s rs) } R S reads T' g'∧Frm S R g g') A.move ?_
 simp (disch:=omega) only[A_xref05_S_Move,wp,qa,qb,qc,gl]
 refine bindO_see (P:=fun v g' => (∃ t,v = .sl (intsC (ofL s rs)) (ofL s rs).length t)∧g'.hp = g.hp∧g.nx + 4≤g'.nx) (rp_of A.of_ A.both A.put (k.old (m:=g.nx + 4) (fun i hi => rfl) (by omega)) hf X.regs X.lt X.len) (fun v g' h => fun i b hb => by rw[h.2.1];exact hb) ?_
 rintro v g2 ⟨⟨w,rfl⟩,hh,hx⟩
 have k2:SOk s R S reads T g2:=k.old (hp':=g2.hp) (m:=g2.nx) (fun i hi => by rw[hh]) (by omega)
 have st2:=k2.st
 have rg2:=k2.rg
 have sx2:=k2.sx
 have rx2:=k2.rx
 have sr2:=k2.sr
 have hl2:=stT_len s T
 have hrl:(intsC s.regs).length = 8:=by rw[intsC_len];exact k2.r8
 have hev:=X.reck
 have hr8:=k.r8
 have hrt:(intsC s.regs).take (8 * 1) = intsC s.regs:=intsC_all k.r8
 unfold exV at hev ⊢
 unfold stC at st2
 simp (disch:=omega) only[wp,qa,qb,qc,gl,st2,rg2,hl2,hrl,hrt,hev,ints_flat,pt6,pt7,p16,p17,set8,part8,intsC_set,List.length_set]
 refine ⟨_,rfl,{ T with fs:=T.fs.set reg w },?_,?_⟩
 ·rw[stT_putF s T hreg k.f8 k.fs]
  refine SOk.putR (s1:={ s with regs:=s.regs.set reg val,frm:=s.frm.set reg (ofL s rs) }) (T1:={ T with fs:=T.fs.set reg w }) k2 ?_ ?_ rfl rfl ?_ ?_ ?_ (fun i hi h1 h2 => ?_) ?_
  ·show (s.regs.set reg val).length = 8
   rw[List.length_set];exact hr8
  ·show (s.frm.set reg _).length = 8
   rw[List.length_set];exact k.f8
  ·show (T.fs.set reg _).length = 8
   rw[List.length_set];exact k.fs
  ·simp (disch:=omega) only[upd_same];rfl
  ·simp (disch:=omega) only[upd_same,upd_ne]
  ·simp (disch:=omega) only[upd_ne]
  ·omega
 ·refine Frm.of ?_ fun i hi h1 h2 => ?_
  ·omega
  ·simp (disch:=omega) only[upd_ne]
   rw[hh]
theorem rp_skip (A:RunF F) {s:RS} {R S:Nat} {reads:List Int} {T:TkS} {g:G} (k:SOk s R S reads T g) (hb:SBd s) (hf:∀ r,(s.frm.getD r []).length≤100) {ex:List (Int × Int)} {rs:List Nat} {val:Int} (X:ExW F ex s.regs rs val) (n:Int):
  ∃ v g',callS F 120 [.mp S 0,.i .i64 n,exV ex] g = some (v,g')∧v = .i .i64 (if val = 0 then 0 else n)∧∃ T',SOk { s with now:=bothI s.now (ofL s rs) } R S reads T' g'∧Frm S R g g':=by
 refine raw_of (P:=fun v g' => v = .i .i64 (if val = 0 then 0 else n)∧∃ T',SOk { s with now:=bothI s.now (ofL s rs) } R S reads T' g'∧Frm S R g g') A.skip ?_
 have st0:=k.st
 have sx:=k.sx
 have hl:=stT_len s T
 have hn:=stT_now s T
 unfold stC at st0
 have hol:=ofL_len hf rs rs.length (Nat.le_refl _)
 rw[List.take_length] at hol
 have h8:=X.len
 have hnw:=hb.now
 obtain ⟨_,rfl,hbo⟩:=rp_both A.both A.put s.now (ofL s rs) .non .non (by omega)
 simp (disch:=omega) only[A_xref05_S_Skip,wp,qa,qb,qc,gl,st0,p16,p17,hl,hn,List.length_set]
 refine bindO_see (P:=fun v g' => (∃ t,v = .sl (intsC (ofL s rs)) (ofL s rs).length t)∧g'.hp = g.hp∧g.nx + 13≤g'.nx) (rp_of A.of_ A.both A.put (k.old (m:=g.nx + 13) (fun i hi => rfl) (by omega)) hf X.regs X.lt X.len) (fun v g' h => fun i b hb => by rw[h.2.1];exact hb) ?_
 rintro v g2 ⟨⟨w,rfl⟩,hh,hx⟩
 have k2:SOk s R S reads T g2:=k.old (hp':=g2.hp) (m:=g2.nx) (fun i hi => by rw[hh]) (by omega)
 have st2:=k2.st
 have rg2:=k2.rg
 have sx2:=k2.sx
 have rx2:=k2.rx
 have sr2:=k2.sr
 have hrl:(intsC s.regs).length = 8:=by rw[intsC_len];exact k2.r8
 have hev:=X.reck
 have hrt:(intsC s.regs).take (8 * 1) = intsC s.regs:=intsC_all k.r8
 unfold exV at hev ⊢
 unfold stC at st2
 by_cases c:val = 0
 ·rw[if_pos c]
  have c':(val != 0) = false:=by simp[c]
  simp (disch:=omega) only[wp,qa,qb,qc,gl,st2,rg2,hl,hn,hrl,hrt,hev,ints_flat,hbo,c',pt6,pt7,p16,p17,set8,part8,intsC_set,List.length_set]
  refine ⟨_,rfl,rfl,{ T with tn:=.non },?_,?_⟩
  ·rw[stT_putN]
   refine SOk.put (s1:={ s with now:=bothI s.now (ofL s rs) }) (T1:={ T with tn:=.non }) k2 rfl k.f8 rfl rfl k.fs ?_ (fun i hi h1 => ?_) ?_
   ·simp (disch:=omega) only[upd_same];rfl
   ·simp (disch:=omega) only[upd_ne]
   ·omega
  ·refine Frm.of ?_ fun i hi h1 h2 => ?_
   ·omega
   ·simp (disch:=omega) only[upd_ne]
    rw[hh]
 ·rw[if_neg c]
  have c':(val != 0) = true:=by simpa using c
  simp (disch:=omega) only[wp,qa,qb,qc,gl,st2,rg2,hl,hn,hrl,hrt,hev,ints_flat,hbo,c',pt6,pt7,p16,p17,set8,part8,intsC_set,List.length_set]
  refine ⟨_,rfl,rfl,{ T with tn:=.non },?_,?_⟩
  ·rw[stT_putN]
   refine SOk.put (s1:={ s with now:=bothI s.now (ofL s rs) }) (T1:={ T with tn:=.non }) k2 rfl k.f8 rfl rfl k.fs ?_ (fun i hi h1 => ?_) ?_
   ·simp (disch:=omega) only[upd_same];rfl
   ·simp (disch:=omega) only[upd_ne]
   ·omega
  ·refine Frm.of ?_ fun i hi h1 h2 => ?_
   ·omega
   ·simp (disch:=omega) only[upd_ne]
    rw[hh]
theorem rp_faa (A:RunF F)  {s:RS} {R S:Nat} {reads:List Int} {T:TkS} {g:G} (k:SOk s R S reads T g) (hb:SBd s) (hb1:s.evs.length + 1≤100) (hb2:s.ctrl.length + 100≤10000) (hu:s.used≤1000) (hf5:∀ r,(s.frm.getD r []).length≤50) {ex:List (Int × Int)} {rs:List Nat} {val:Int} (ho:(ofL s rs).length≤50) (X:ExW F ex s.regs rs val) (kd md md2 loc n:Int) {reg:Nat} (hreg:reg < 8):
  ∃ v g',callS F 118 [.mp S 0,.agg [.i .i64 kd,.i .i64 md,.i .i64 md2,.i .i64 ((reg:Nat):Int),.i .i64 loc,exV ex,.i .i64 n]] g = some (v,g')∧∃ T',SOk (faR s reads loc md md2 reg (ofL s rs) val) R S reads T' g'∧Frm S R g g':=by
 refine raw_of (P:=fun v g' => ∃ T',SOk (faR s reads loc md md2 reg (ofL s rs) val) R S reads T' g'∧Frm S R g g') A.faa ?_
 have hf:∀ r,(s.frm.getD r []).length≤100:=fun r => Nat.le_trans (hf5 r) (by omega)
 unfold exV
 simp (disch:=omega) only[A_xref05_S_faa,wp,qa,qb,qc,gl]
 generalize hC:[AV.i .i64 kd,AV.i .i64 md,AV.i .i64 md2,AV.i .i64 ((reg:Nat):Int),AV.i .i64 loc,AV.sl (tkC ex) ex.length .non,AV.i .i64 n] = C
 have c1:part C 1 none = some (.i .i64 md):=by rw[←hC];rfl
 have c2:part C 2 none = some (.i .i64 md2):=by rw[←hC];rfl
 have c3:part C 3 none = some (.i .i64 ((reg:Nat):Int)):=by rw[←hC];rfl
 have c4:part C 4 none = some (.i .i64 loc):=by rw[←hC];rfl
 have c5:part C 5 none = some (.sl (tkC ex) ex.length .non):=by rw[←hC];rfl
 have cl:C.length = 7:=by rw[←hC];rfl
 have kx:SOk s R S reads T ⟨upd g.hp g.nx (some (.cells C false)),g.nx + 1 + 5⟩:=k.old (fun i hi => upd_ne _ _ (by omega)) (by omega)
 refine bindO_see (P:=fun v g' => (∃ t,v = .sl (intsC (ofL s rs)) (ofL s rs).length t)∧g'.hp = upd g.hp g.nx (some (.cells C false))∧g.nx + 1 + 5≤g'.nx) (rp_of A.of_ A.both A.put kx hf X.regs X.lt X.len) (fun v g' h => fun i b hb => by rw[h.2.1];exact hb) ?_
 rintro v g2 ⟨⟨w,rfl⟩,hh,hx⟩
 have k2:SOk s R S reads T g2:=kx.old (hp':=g2.hp) (m:=g2.nx) (fun i hi => by rw[hh]) hx
 have hbx:g2.hp g.nx = some (.cells C false):=by rw[hh];exact upd_same ..
 have fr2:Frm S R g g2:=Frm.of (by omega) fun i hi h1 h2 => by rw[hh];exact upd_ne _ _ (by omega)
 have gx:g.nx < g2.nx:=by omega
 have sx:=k.sx
 have rx:=k.rx
 have st2:=k2.st
 have rg2:=k2.rg
 have sx2:=k2.sx
 have rx2:=k2.rx
 have sr2:=k2.sr
 have hrl:(intsC s.regs).length = 8:=by rw[intsC_len];exact k2.r8
 have hev:=X.reck
 have hrt:(intsC s.regs).take (8 * 1) = intsC s.regs:=intsC_all k.r8
 unfold exV at hev
 unfold stC at st2
 simp (disch:=omega) only[wp,qa,qb,qc,gl,hbx,c1,c3,c4,c5,cl,st2,rg2,hrl,hrt,hev,ints_flat,pt6,pt7,List.length_set]
 refine bindO_call (P:=fun v g' => v = .b (!decide (reads.length≤s.used))∧∃ T',SOk (rdR s reads loc md true reg) R S reads T' g'∧Frm S R _ g') (rp_read A.read A.event A.pairs (k2.old (hp':=g2.hp) (m:=g2.nx + 9 + 8) (fun i hi => rfl) (by omega)) hb hu loc md true hreg) ?_
 rintro v g3 ⟨rfl,T3,k3,fr3⟩
 have fr03:Frm S R g g3:=fr2.trans ((Frm.of (hp':=g2.hp) (m:=g2.nx + 9 + 8) (by omega) fun i hi h1 h2 => rfl).trans fr3)
 have hbx3:g3.hp g.nx = some (.cells C false):=fr3.cells g.nx C false (by omega) (by omega) (by dsimp only;omega) hbx
 have gx3:g.nx < g3.nx:=by have:=fr3.nx;dsimp only at this;omega
 have hfa:faR s reads loc md md2 reg (ofL s rs) val = if reads.length≤s.used then rdR s reads loc md true reg else wrR (rdR s reads loc md true reg) loc md2 true (IntKind.i64.wrap ((rdR s reads loc md true reg).regs.getD reg 0 + val)) (bothI (ofL s rs) ((rdR s reads loc md true reg).frm.getD reg [])):=rfl
 by_cases cu:reads.length≤s.used
 ·rw[decide_eq_true cu]
  rw[if_pos cu] at hfa
  simp (disch:=omega) only[wp,qa,qb,qc,gl,Bool.not_true]
  exact ⟨_,rfl,T3,by rw[hfa];exact k3,fr03⟩
 ·rw[decide_eq_false cu]
  rw[if_neg cu] at hfa
  have hb3:SBd (rdR s reads loc md true reg):=rdR_bd hb hb1 hb2
  have hf3:((rdR s reads loc md true reg).frm.getD reg []).length≤50:=rdR_frm (by omega) hf5 reg
  generalize rdR s reads loc md true reg = s1 at k3 hfa hb3 hf3
  have st3:=k3.st
  have rg3:=k3.rg
  have sx3:=k3.sx
  have rx3:=k3.rx
  have hl3:=stT_len s1 T3
  have hrl3:(intsC s1.regs).length = 8:=by rw[intsC_len];exact k3.r8
  have hrp:=ints_pt (l:=s1.regs) (k:=reg) (by rw[k3.r8];exact hreg)
  have hfp:=stT_frm s1 T3 hreg
  obtain ⟨_,rfl,hbo⟩:=rp_both A.both A.put (ofL s rs) (s1.frm.getD reg []) .non .non (by omega)
  unfold stC at st3
  simp (disch:=omega) only[wp,qa,qb,qc,gl,Bool.not_false,hbx3,c1,c2,c3,c4,c5,cl,st3,rg3,hl3,hrl3,hrp,hfp,hbo,part8,pt6,pt7,List.length_set]
  have hbl:=bothI_len (a:=ofL s rs) (b:=s1.frm.getD reg [])
  refine bindO_call (P:=fun v g' => ∃ T',SOk (wrR s1 loc md2 true (IntKind.i64.wrap (s1.regs.getD reg 0 + val)) (bothI (ofL s rs) (s1.frm.getD reg []))) R S reads T' g'∧Frm S R _ g') (rp_write A.write A.event A.pairs (k3.old (hp':=g3.hp) (m:=g3.nx + 26) (fun i hi => rfl) (by omega)) hb3 loc md2 true _ (bothI (ofL s rs) (s1.frm.getD reg [])) .non (by omega)) ?_
  rintro v g4 ⟨T4,k4,fr4⟩
  simp (disch:=omega) only[wp,qa,qb,qc,gl]
  exact ⟨_,rfl,T4,by rw[hfa];exact k4,fr03.trans ((Frm.of (hp':=g3.hp) (m:=g3.nx + 26) (by omega) fun i hi h1 h2 => rfl).trans fr4)⟩
end Go.Ab
end
section
set_option linter.unusedVariables false
set_option linter.unusedSimpArgs false
namespace Go.Ab
variable {F:Funs}
theorem rp_start (A:RunF F) (g:G) (reads:List Int) (tr:Tok):
  ∃ v g',callS F 112 [.sl (intsC reads) reads.length tr] g = some (v,g')∧∃ R S T,v = .mp S 0∧SOk rs0 R S reads T g'∧g.nx≤S∧g.nx≤R∧(∀ i,i < g.nx→g'.hp i = g.hp i)∧g.nx≤g'.nx:=by
 refine raw_of (P:=fun v g' => ∃ R S T,v = .mp S 0∧SOk rs0 R S reads T g'∧g.nx≤S∧g.nx≤R∧(∀ i,i < g.nx→g'.hp i = g.hp i)∧g.nx≤g'.nx) A.start ?_
 have l5:∀ x:AV,List.replicate 5 x = [x,x,x,x,x]:=fun _ => rfl
 have l12:∀ x:AV,List.replicate 12 x = [x,x,x,x,x,x,x,x,x,x,x,x]:=fun _ => rfl
 have hmk:∀ (id:Nat) (g:G),vMksl id [.i .i64 0] 1 8 (.i .i64 8) (.i .i64 8) g = some (.ms id 0 8,⟨upd g.hp id (some (.cells (intsC (List.replicate 8 0)) false)),g.nx⟩):=fun id g => vMksl_ms (n:=8) (by omega) (by omega) (by omega) rfl
 simp (disch:=omega) only[A_xref05_Start,wp,qa,qb,qc,gl,l5,l12,o_mksl,hmk,List.length_set]
 refine ⟨_,rfl,g.nx + 1 + 4 + 1,g.nx + 1 + 2,⟨.rig,.rig,.rig,.rig,.rig,tr,.rig,.rig,List.replicate 8 .rig⟩,rfl,⟨?_,?_,.inl rfl,.inl rfl,fun i => .inl (fun h => by cases h),?_,?_,?_,rfl,rfl,rfl⟩,?_,?_,fun i hi => ?_,?_⟩
 ·simp (disch:=omega) only[upd_same]
  rfl
 ·simp (disch:=omega) only[upd_same,upd_ne]
  rfl
 ·dsimp only;omega
 ·dsimp only;omega
 ·omega
 ·omega
 ·omega
 ·simp (disch:=omega) only[upd_ne]
 ·first | omega | (dsimp only;omega)
theorem p07 (a0 a1 a2 a3 a4 a5 a6:AV) (l:List AV):part (a0 :: a1 :: a2 :: a3 :: a4 :: a5 :: a6 :: l) 0 (some 7) = some (.agg [a0,a1,a2,a3,a4,a5,a6]):=by
 have h:0 + 7≤(a0 :: a1 :: a2 :: a3 :: a4 :: a5 :: a6 :: l).length:=by simp only[List.length_cons];omega
 simp only[part,if_pos h]
 rfl
theorem res_c7 {n m b:Nat} {e:Env} {g:G} {cs:List AV} {ro:Bool} {v:AV} {a:Option Nat} (h:e n = .mp b 0) (h2:g.hp b = some (.cells cs ro)) (h3:part cs 0 a = some v):resE [.cell n a,.t m] e g = some (.tup [v,e m]):=by
 simp only[resE,resAll,resOne,h,h2,h3]
theorem retC7 {n m b:Nat} {e:Env} {g:G} {cs:List AV} {ro:Bool} {v V w:AV} {a:Option Nat} (h:e n = .mp b 0) (h2:g.hp b = some (.cells cs ro)) (h3:part cs 0 a = some v) (h5:e m = w) (h4:frz g.hp depth (.tup [v,w]) = some V):(match resE [.cell n a,.t m] e g with | some v0 => frz g.hp depth v0 | none => none) = some V:=by
 rw[res_c7 h h2 h3,h5]
 exact h4
theorem frzL_ints (hp:Nat→Option Blk) (k:Nat):∀ l:List Int,frzL hp (k + 1) (intsC l) = some (intsC l)
 | [] => by simp[intsC,frzL]
 | x :: l => by
   have:=frzL_ints hp k l
   simp only[intsC,List.map_cons,frzL,frz] at this ⊢
   rw[this]
def zR:List AV:=[.sl [] 0 .rig,.sl [] 0 .rig,.sl [] 0 .rig,.sl [] 0 .rig,.sl [] 0 .rig,.i .i64 0,.sl [] 0 .rig]
def roC (s:RS):List AV:=if s.short then [.sl [] 0 .non,.sl [] 0 .non,.sl [] 0 .non,.sl [] 0 .non,.sl [] 0 .non,.i .i64 0,.sl [] 0 .non] else
 [.sl (evsC s.evs) s.evs.length .non,.sl (pairsC s.rmw) s.rmw.length .non,.sl (pairsC s.data) s.data.length .non,.sl (pairsC s.ctrl) s.ctrl.length .non,.sl [] 0 .non,.i .i64 (s.used:Int),.sl (intsC s.regs) 8 .non]
def VOk (F:Funs) (V:List (Int × Int)→List Int→Int):Prop:=∀ ex regs,ExOk ex→regs.length = 8→ExW F ex regs (exR ex) (V ex regs)
structure DoI (F:Funs) (V:List (Int × Int)→List Int→Int) (th:List Ins) (reads:List Int) (R S k:Nat) (s:RS) (T:TkS) (e:Env) (g:G):Prop where
 hk:k≤th.length
 e0:e 0 = .sl (insLC th) th.length .non
 e4:e 4 = .mp 0 0
 e6:e 6 = .mp S 0
 e7:e 7 = .i .i64 ((k:Nat):Int)
 h0:g.hp 0 = some (.cells zR false)
 ok:SOk s R S reads T g
 s0:0 < S
 r0:0 < R
 inv:RInv s
 run:runR V reads th (th.length - k) k s = doR V th reads
 used:s.used≤k
 evs:s.evs.length≤2 * k
theorem DoI.mv {V:List (Int × Int)→List Int→Int} {th:List Ins} {reads:List Int} {R S k:Nat} {s:RS} {T:TkS} {e e':Env} {g:G} {m:Nat} (I:DoI F V th reads R S k s T e g) (h0:e' 0 = e 0) (h4:e' 4 = e 4) (h6:e' 6 = e 6) (h7:e' 7 = e 7) (hm:g.nx≤m):DoI F V th reads R S k s T e' ⟨g.hp,m⟩:=
 ⟨I.hk,h0.trans I.e0,h4.trans I.e4,h6.trans I.e6,h7.trans I.e7,I.h0,I.ok.old (fun i hi => rfl) hm,I.s0,I.r0,I.inv,I.run,I.used,I.evs⟩
theorem rp_do (A:RunF F) {V:List (Int × Int)→List Int→Int} (hV:VOk F V) {th:List Ins} (hth:ThK th) (reads:List Int) (tr:Tok) (hr:reads.length≤1000):
  pureS F 104 [.sl (insLC th) th.length .non,.sl (intsC reads) reads.length tr] = some (.tup [.agg (roC (doR V th reads)),.b (!(doR V th reads).short)]):=by
 refine pure_of A.do_ ?_
 have l5:∀ x:AV,List.replicate 5 x = [x,x,x,x,x]:=fun _ => rfl
 have s7:∀ b1 b2 b3 b4 b5 b6 b7 c1 c2 c3 c4 c5 c6 c7:AV,splice [b1,b2,b3,b4,b5,b6,b7] 0 [c1,c2,c3,c4,c5,c6,c7] = [c1,c2,c3,c4,c5,c6,c7]:=fun _ _ _ _ _ _ _ _ _ _ _ _ _ _ => rfl
 simp (disch:=omega) only[A_xref05_Do,wp,qa,qb,qc,gl,l5]
 refine bindO_call (P:=fun v g' => ∃ R S T,v = .mp S 0∧SOk rs0 R S reads T g'∧1≤S∧1≤R∧(∀ i,i < 1→g'.hp i = some (.cells zR false))∧1≤g'.nx) ?_ ?_
 ·obtain ⟨v,g',h1,R,S,T,h2,h3,h4,h5,h6,h7⟩:=rp_start A ⟨upd (fun _ => none) 0 (some (.cells zR false)),5⟩ reads tr
  exact ⟨v,g',h1,R,S,T,h2,h3,by dsimp only at h4;omega,by dsimp only at h5;omega,fun i hi => by
   obtain rfl:i = 0:=by omega
   rw[h6 0 (by dsimp only;omega)]
   rfl,by dsimp only at h7;omega⟩
 ·rintro v g1 ⟨R,S,T,rfl,k0,hS,hR,hz,hx⟩
  simp (disch:=omega) only[wp,qa,qb,qc,gl]
  refine blk_cut (fun e g => ∃ (k:Nat) (s:RS) (T:TkS),DoI F V th reads R S k s T e g∧(s.short = true∨k = th.length)) ?_ ?_
  ·refine W_loop (fun q e g => ∃ (k:Nat) (s:RS) (T:TkS),q = th.length - k∧DoI F V th reads R S k s T e g) th.length ?_ ?_
   ·refine ⟨0,rs0,T,rfl,⟨Nat.zero_le _,?_,?_,?_,?_,?_,?_,hS,hR,rs0_inv,rfl,Nat.zero_le _,Nat.zero_le _⟩⟩
    ·rfl
    ·rfl
    ·rfl
    ·rfl
    ·exact hz 0 (by omega)
    ·exact k0.old (fun i hi => rfl) (by omega)
   ·rintro q e g ⟨k,s,T,rfl,I⟩
    have hle:=hth.len
    have st:=I.ok.st
    have sx:=I.ok.sx
    have rx:=I.ok.rx
    have hz0:=I.h0
    have sS:=I.s0
    have sR:=I.r0
    have e0:=I.e0
    have e4:=I.e4
    have e6:=I.e6
    have e7:=I.e7
    have hl:=stT_len s T
    have hsh:=stT_short s T
    have rgv:=I.ok.rg
    have hrl:(intsC s.regs).length = 8:=by rw[intsC_len];exact I.ok.r8
    have hrt:(intsC s.regs).take (8 * 1) = intsC s.regs:=intsC_all I.ok.r8
    unfold stC at st
    by_cases c1:k < th.length
    ·have c1':((k:Nat):Int) < ((th.length:Nat):Int):=by omega
     cases c2:s.short with
     | true =>
       rw[c2] at hsh
       simp (disch:=omega) only[wp,qa,qb,qc,gl,e0,e6,e7,c1',st,p18,hl,hsh]
       exact ⟨k,s,T,I.mv rfl rfl rfl rfl (by omega),.inl c2⟩
     | false =>
       rw[c2] at hsh
       have hia:=ins_at c1
       have hx:=hth.ins k c1
       have hwk:=succ_wrap (k:=k) (by omega)
       have hev:=I.evs
       have hsq:s.evs.length * s.evs.length≤24 * 24:=Nat.mul_le_mul (by omega) (by omega)
       have hrm:=I.inv.rmw.len
       have hdl:=I.inv.b.dl
       have hcl:=I.inv.b.cl
       have hnw:=I.inv.b.now.len
       have hbd:SBd s:=⟨by omega,by omega,by omega,by omega,by omega⟩
       have hfr:∀ r,(s.frm.getD r []).length≤50:=fun r => by have:=(I.inv.b.at r).len;omega
       have hfr2:∀ r,(s.frm.getD r []).length≤100:=fun r => by have:=hfr r;omega
       have hof:∀ ex,(ofL s (exR ex)).length≤50:=fun ex => by have:=(I.inv.b.of ex).len;unfold ofR at this;unfold ofL;omega
       have hus:=I.used
       have hrn:=I.run
       rw[show th.length - k = (th.length - (k + 1)) + 1 by omega] at hrn
       unfold runR at hrn
       rw[if_pos ⟨c1,c2⟩] at hrn
       have hin:=fun x => (I.inv.st (V:=V) (reads:=reads) (x:=x) (left:=((th.length - 1 - k:Nat):Int)))
       have hsu:=stR_used V reads s (th.getD k fence0)
       have hse:=stR_evs V reads s (th.getD k fence0)
       have hin':=hin _ hx
       generalize th.getD k fence0 = x at hia hx hrn hsu hse hin'
       have fin:∀ (e':Env) (g':G) (T':TkS) (k':Nat),k' = k + skR V s x + 1→k'≤th.length→e' 0 = .sl (insLC th) th.length .non→e' 4 = .mp 0 0→e' 6 = .mp S 0→e' 7 = .i .i64 ((k':Nat):Int)→g'.hp 0 = some (.cells zR false)→SOk (stR V reads s x) R S reads T' g'→∃ m',m' < th.length - k∧∃ (k:Nat) (s:RS) (T:TkS),m' = th.length - k∧DoI F V th reads R S k s T e' g':=by
        intro e' g' T' k' hk' hkl a0 a4 a6 a7 ah ak
        refine ⟨th.length - k',by omega,k',stR V reads s x,T',rfl,⟨hkl,a0,a4,a6,a7,ah,ak,I.s0,I.r0,hin',?_,by omega,by omega⟩⟩
        rw[←hrn,hk']
        exact runR_fuel _ _ _ _ (by omega) (by omega)
       have hval:True:=trivial
       cases hx with
       | ld md rg lc h1 h2 h3 =>
         obtain ⟨r,rfl⟩:∃ r:Nat,rg = (r:Int):=⟨rg.toNat,by omega⟩
         simp (disch:=omega) only[wp,qa,qb,qc,gl,insC,exV,e0,e6,e7,c1',st,p18,hl,hsh,hia,l5,s7,part_ag7,rgv,hrl,hrt,ints_flat,hval,pt6,hwk,Int.reduceBEq]
         refine bindO_call (P:=fun v g' => v = .b (!decide (reads.length≤s.used))∧∃ T',SOk (rdR s reads lc md false r) R S reads T' g'∧Frm S R _ g') (rp_read A.read A.event A.pairs (I.ok.old (fun i hi => by simp (disch:=omega) only[upd_ne]) (by omega)) hbd (by omega) lc md false (by omega)) ?_
         rintro v g2 ⟨rfl,T2,k2,fr⟩
         have h02:g2.hp 0 = some (.cells zR false):=fr.cells 0 zR false (by omega) (by omega) (by dsimp only;omega) (by simp (disch:=omega) only[upd_ne,hz0])
         simp (disch:=omega) only[wp,qa,qb,qc,gl,e0,e4,e6,e7,hwk]
         exact fin _ _ T2 (k + 1) (by simp[skR]) (by omega) e0 e4 e6 rfl h02 (by unfold stR;rw[if_pos rfl];exact k2.old (fun i hi => rfl) (by omega))
       | st md lc ex h1 h3 he =>
         have hval:=(hV ex s.regs he I.ok.r8).reck
         unfold exV at hval
         simp (disch:=omega) only[wp,qa,qb,qc,gl,insC,exV,e0,e6,e7,c1',st,p18,hl,hsh,hia,l5,s7,part_ag7,rgv,hrl,hrt,ints_flat,hval,pt6,hwk,Int.reduceBEq]
         have X:=hV ex s.regs he I.ok.r8
         refine bindO_see (P:=fun v g' => (∃ t,v = .sl (intsC (ofL s (exR ex))) (ofL s (exR ex)).length t)∧g'.hp = _∧_≤g'.nx) (rp_of A.of_ A.both A.put (I.ok.old (fun i hi => by simp (disch:=omega) only[upd_ne]) (by omega)) hfr2 X.regs X.lt X.len) (fun v g' h => fun i b hb => by rw[h.2.1];exact hb) ?_
         rintro v g2 ⟨⟨w,rfl⟩,hh,hx2⟩
         dsimp only at hh hx2
         have k2:SOk s R S reads T g2:=I.ok.old (hp':=g2.hp) (m:=g2.nx) (fun i hi => by rw[hh];simp (disch:=omega) only[upd_ne]) (by omega)
         have hz2:g2.hp 0 = some (.cells zR false):=by rw[hh];have:=I.ok.sx;simp (disch:=omega) only[upd_ne,hz0]
         have hx0:0 < g2.nx:=by omega
         simp (disch:=omega) only[wp,qa,qb,qc,gl]
         refine bindO_call (P:=fun v g' => ∃ T',SOk (wrR s lc md false (V ex s.regs) (ofL s (exR ex))) R S reads T' g'∧Frm S R _ g') (rp_write A.write A.event A.pairs (k2.old (fun i hi => rfl) (by omega)) hbd lc md false _ (ofL s (exR ex)) w (by have:=hof ex;omega)) ?_
         rintro v g3 ⟨T3,k3,fr⟩
         have h02:g3.hp 0 = some (.cells zR false):=fr.cells 0 zR false (by omega) (by omega) (by dsimp only;omega) hz2
         simp (disch:=omega) only[wp,qa,qb,qc,gl,e0,e4,e6,e7,hwk]
         exact fin _ _ T3 (k + 1) (by simp[skR]) (by omega) e0 e4 e6 rfl h02 (by unfold stR;rw[if_neg (by simp),if_pos rfl];exact k3.old (fun i hi => rfl) (by omega))
       | fe md h1 =>
         simp (disch:=omega) only[wp,qa,qb,qc,gl,insC,exV,e0,e6,e7,c1',st,p18,hl,hsh,hia,l5,s7,part_ag7,rgv,hrl,hrt,ints_flat,hval,pt6,hwk,Int.reduceBEq]
         refine bindO_call (P:=fun v g' => v = .i .i64 (s.evs.length:Int)∧∃ T',SOk (evR s ⟨0,3,md,0,0,false⟩ []) R S reads T' g'∧Frm S R _ g') (rp_event A.event A.pairs (I.ok.old (fun i hi => by simp (disch:=omega) only[upd_ne]) (by omega)) hbd ⟨0,3,md,0,0,false⟩ [] .rig (Nat.zero_le _)) ?_
         rintro v g2 ⟨rfl,T2,k2,fr⟩
         have h02:g2.hp 0 = some (.cells zR false):=fr.cells 0 zR false (by omega) (by omega) (by dsimp only;omega) (by simp (disch:=omega) only[upd_ne,hz0])
         simp (disch:=omega) only[wp,qa,qb,qc,gl,e0,e4,e6,e7,hwk]
         exact fin _ _ T2 (k + 1) (by simp[skR]) (by omega) e0 e4 e6 rfl h02 (by unfold stR;rw[if_neg (by simp),if_neg (by simp),if_pos rfl];exact k2.old (fun i hi => rfl) (by omega))
       | fa md md2 rg lc c h1 h4 h2 h3 h5 =>
         obtain ⟨r,rfl⟩:∃ r:Nat,rg = (r:Int):=⟨rg.toNat,by omega⟩
         simp (disch:=omega) only[wp,qa,qb,qc,gl,insC,exV,e0,e6,e7,c1',st,p18,hl,hsh,hia,l5,s7,part_ag7,rgv,hrl,hrt,ints_flat,hval,pt6,hwk,Int.reduceBEq]
         refine bindO_call (P:=fun v g' => ∃ T',SOk (faR s reads lc md md2 r (ofL s (exR [(1,c)])) (V [(1,c)] s.regs)) R S reads T' g'∧Frm S R _ g') (rp_faa A (I.ok.old (fun i hi => by simp (disch:=omega) only[upd_ne]) (by omega)) hbd (by omega) (by omega) (by omega) hfr (hof _) (hV [(1,c)] s.regs ⟨0,c,0,by omega,by omega,by omega,by omega,by omega,by omega,rfl⟩ I.ok.r8) 4 md md2 lc 0 (by omega)) ?_
         rintro v g2 ⟨T2,k2,fr⟩
         have h02:g2.hp 0 = some (.cells zR false):=fr.cells 0 zR false (by omega) (by omega) (by dsimp only;omega) (by simp (disch:=omega) only[upd_ne,hz0])
         simp (disch:=omega) only[wp,qa,qb,qc,gl,e0,e4,e6,e7,hwk]
         exact fin _ _ T2 (k + 1) (by simp[skR]) (by omega) e0 e4 e6 rfl h02 (by unfold stR;rw[if_neg (by simp),if_neg (by simp),if_neg (by simp),if_pos rfl];exact k2.old (fun i hi => rfl) (by omega))
       | se rg ex h2 he =>
         obtain ⟨r,rfl⟩:∃ r:Nat,rg = (r:Int):=⟨rg.toNat,by omega⟩
         simp (disch:=omega) only[wp,qa,qb,qc,gl,insC,exV,e0,e6,e7,c1',st,p18,hl,hsh,hia,l5,s7,part_ag7,rgv,hrl,hrt,ints_flat,hval,pt6,hwk,Int.reduceBEq]
         refine bindO_call (P:=fun v g' => ∃ T',SOk { s with regs:=s.regs.set r (V ex s.regs),frm:=s.frm.set r (ofL s (exR ex)) } R S reads T' g'∧Frm S R _ g') (rp_move A (I.ok.old (fun i hi => by simp (disch:=omega) only[upd_ne]) (by omega)) hfr2 (hV ex s.regs he I.ok.r8) (by omega)) ?_
         rintro v g2 ⟨T2,k2,fr⟩
         have h02:g2.hp 0 = some (.cells zR false):=fr.cells 0 zR false (by omega) (by omega) (by dsimp only;omega) (by simp (disch:=omega) only[upd_ne,hz0])
         simp (disch:=omega) only[wp,qa,qb,qc,gl,e0,e4,e6,e7,hwk]
         exact fin _ _ T2 (k + 1) (by simp[skR]) (by omega) e0 e4 e6 rfl h02 (by unfold stR;rw[if_neg (by simp),if_neg (by simp),if_neg (by simp),if_neg (by simp),if_pos rfl];exact k2.old (fun i hi => rfl) (by omega))
       | sk ex n he h0 h1 =>
         simp (disch:=omega) only[wp,qa,qb,qc,gl,insC,exV,e0,e6,e7,c1',st,p18,hl,hsh,hia,l5,s7,part_ag7,rgv,hrl,hrt,ints_flat,hval,pt6,hwk,Int.reduceBEq]
         refine bindO_call (P:=fun v g' => v = .i .i64 (if V ex s.regs = 0 then 0 else n)∧∃ T',SOk { s with now:=bothI s.now (ofL s (exR ex)) } R S reads T' g'∧Frm S R _ g') (rp_skip A (I.ok.old (fun i hi => by simp (disch:=omega) only[upd_ne]) (by omega)) hbd hfr2 (hV ex s.regs he I.ok.r8) n) ?_
         rintro v g2 ⟨rfl,T2,k2,fr⟩
         have h02:g2.hp 0 = some (.cells zR false):=fr.cells 0 zR false (by omega) (by omega) (by dsimp only;omega) (by simp (disch:=omega) only[upd_ne,hz0])
         obtain ⟨m,hm,hsk,hml⟩:∃ m:Nat,(if V ex s.regs = 0 then 0 else n) = (m:Int)∧skR V s ⟨6,0,0,0,0,ex,n⟩ = m∧m≤th.length - 1 - k:=by
          by_cases c:V ex s.regs = 0
          ·exact ⟨0,by rw[if_pos c];rfl,by simp[skR,c],Nat.zero_le _⟩
          ·exact ⟨n.toNat,by rw[if_neg c];omega,by simp[skR,c],by omega⟩
         rw[hm]
         have hw1:IntKind.i64.wrap ((k:Int) + (m:Int)) = ((k + m:Nat):Int):=by rw[i64_wrap (by omega) (by omega)];omega
         have hw2:=succ_wrap (k:=k + m) (by omega)
         simp (disch:=omega) only[wp,qa,qb,qc,gl,e0,e4,e6,e7,hw1,hw2]
         exact fin _ _ T2 (k + m + 1) (by rw[hsk]) (by omega) e0 e4 e6 rfl h02 (by unfold stR;rw[if_neg (by simp),if_neg (by simp),if_neg (by simp),if_neg (by simp),if_neg (by simp)];exact k2.old (fun i hi => rfl) (by omega))
    ·have c1':¬ ((k:Nat):Int) < ((th.length:Nat):Int):=by omega
     simp (disch:=omega) only[wp,qa,qb,qc,gl,e0,e6,e7,c1']
     exact ⟨k,s,T,I.mv rfl rfl rfl rfl (by omega),.inr (by have:=I.hk;omega)⟩
  ·rintro e g ⟨k,s,T,I,hend⟩
   have hdo:s = doR V th reads:=by
    rcases hend with h | h
    ·rw[←I.run,runR_end h]
    ·rw[←I.run,h,Nat.sub_self];rfl
   rw[←hdo]
   have st:=I.ok.st
   have sx:=I.ok.sx
   have e4:=I.e4
   have e6:=I.e6
   have hz0:=I.h0
   have sS:=I.s0
   have sR:=I.r0
   have hx0:0 < g.nx:=by omega
   have hl:=stT_len s T
   have hsh:=stT_short s T
   have rgv:=I.ok.rg
   have rx:=I.ok.rx
   unfold stC at st
   unfold zR at hz0
   cases c2:s.short with
   | true =>
     rw[c2] at hsh
     simp (disch:=omega) only[wp,qa,qb,qc,gl,e4,e6,st,p18,hl,hsh,hz0,l5,s7]
     refine retC7 (b:=0) (ro:=false) (w:=.b false) e4 rfl (p07 ..) rfl ?_
     show frz _ (8 + 1) _ = _
     simp only[frz,frzL,roC,c2,if_true,Option.map_some]
   | false =>
     rw[c2] at hsh
     simp (disch:=omega) only[wp,qa,qb,qc,gl,e4,e6,st,p18,hl,hsh,hz0,l5,s7,p07]
     refine retC7 (b:=0) (ro:=false) (w:=.b true) e4 rfl (p07 ..) rfl ?_
     show frz _ (8 + 1) _ = _
     have hrl:(upd g.hp 0 (some (.cells [AV.sl (evsC s.evs) s.evs.length T.t0,AV.sl (pairsC s.rmw) s.rmw.length T.t1,AV.sl (pairsC s.data) s.data.length T.td,AV.sl (pairsC s.ctrl) s.ctrl.length T.tc,AV.sl [] 0 T.ti,AV.i .i64 (s.used:Int),AV.ms R 0 8] false))) R = some (.cells (intsC s.regs) false):=by rw[upd_ne _ _ (by omega)];exact rgv
     simp only[frz,frzL,roC,c2,hrl,List.drop_zero,frzL_ints,if_false,Option.map_some,Bool.false_eq_true]
end Go.Ab
end
section
set_option linter.unusedVariables false
set_option linter.unusedSimpArgs false
namespace Go.Ab
variable {F:Funs}
def rgS (l:List Int) (p:Int × Int):List Int:=if p.1 = 2 then putI l p.2 else l
def regsX (ex:List (Int × Int)):List Int:=ex.foldl rgS []
theorem foldl_take {α β:Type} {f:β→α→β} {b:β} {l:List α} {d:α} {k:Nat} (h:k < l.length):(l.take (k + 1)).foldl f b = f ((l.take k).foldl f b) (l.getD k d):=by
 rw[List.take_add_one,List.getElem?_eq_getElem h,List.getD_eq_getElem?_getD,List.getElem?_eq_getElem h,List.foldl_append];rfl
theorem slEq {cs ds:List AV} {n m:Nat} {t:Tok} (h:cs = ds) (h2:n = m):∃ w,AV.sl cs n t = AV.sl ds m w:=⟨t,by rw[h,h2]⟩
structure RgI (ex:List (Int × Int)) (i:Nat) (w:Tok) (e:Env):Prop where
 hi:i≤ex.length
 e0:e 0 = .sl (tkC ex) ex.length .non
 e3:e 3 = .sl (intsC ((ex.take i).foldl rgS [])) ((ex.take i).foldl rgS []).length w
 e4:e 4 = .i .i64 ((i:Nat):Int)
structure RgJ (ex:List (Int × Int)) (l:List Int) (v:Int) (i k:Nat) (w:Tok) (e:Env):Prop where
 hk:k≤l.length
 e0:e 0 = .sl (tkC ex) ex.length .non
 e3:e 3 = .sl (intsC l) l.length w
 e4:e 4 = .i .i64 ((i:Nat):Int)
 e5:e 5 = .i .i64 ((k:Nat):Int)
 hb:∀ j,j < k→l.getD j 0 < v
theorem regsX_len (ex:List (Int × Int)):∀ k,k≤ex.length→((ex.take k).foldl rgS []).length≤k
 | 0,_ => Nat.le_refl _
 | k + 1,h => by
   rw[foldl_take (d:=(0,0)) (by omega)]
   have ih:=regsX_len ex k (by omega)
   have h1:=putI_len (l:=(ex.take k).foldl rgS []) (v:=(ex.getD k (0,0)).2)
   generalize (ex.take k).foldl rgS [] = l at ih h1 ⊢
   unfold rgS
   split<;>omega
theorem sp_regs (h126:F 126 = some A_xref02_Regs) (ex:List (Int × Int)) (hl:ex.length≤100000):pureS F 126 [exV ex] = some (.sl (intsC (regsX ex)) (regsX ex).length .non):=by
 refine pure_of h126 ?_
 unfold exV
 simp (disch:=omega) only[A_xref02_Regs,wp,qa,qb,qc]
 refine blk_cut (fun e g => ∃ w,e 3 = .sl (intsC (regsX ex)) (regsX ex).length w) ?_ ?_
 ·refine W_loop (fun q e g => ∃ (i:Nat) (w:Tok),q = ex.length - i∧RgI ex i w e) ex.length ?_ ?_
  ·exact ⟨0,.rig,rfl,Nat.zero_le _,rfl,rfl,rfl⟩
  ·rintro q e g ⟨i,w,rfl,hi,e0,e3,e4⟩
   by_cases c0:i < ex.length
   ·have c0':((i:Nat):Int) < ((ex.length:Nat):Int):=by omega
    have hkd:=tk_k c0
    have hvd:=tk_v c0
    have hl2:=tk_l c0
    have hwi:=succ_wrap (k:=i) (by omega)
    have hll:=regsX_len ex i hi
    have hnx:=foldl_take (f:=rgS) (b:=[]) (d:=((0,0):Int × Int)) c0
    generalize ex.getD i (0,0) = p at hkd hvd hnx
    generalize (ex.take i).foldl rgS [] = l at e3 hll hnx
    have next:∀ (e':Env) (g':G),e' 0 = .sl (tkC ex) ex.length .non→(∃ w',e' 3 = .sl (intsC (rgS l p)) (rgS l p).length w')→e' 4 = .i .i64 ((i + 1:Nat):Int) →
      ∃ m',m' < ex.length - i∧∃ (i:Nat) (w:Tok),m' = ex.length - i∧RgI ex i w e':=
     fun e' g' a1 ⟨w',a2⟩ a3 => ⟨ex.length - (i + 1),by omega,i + 1,w',rfl,⟨by omega,a1,by rw[hnx];exact a2,a3⟩⟩
    by_cases c1:p.1 = 2
    ·have c1a:(p.1 != 2) = false:=by simpa using c1
     have hrg:rgS l p = putI l p.2:=if_pos c1
     rw[hrg] at next
     generalize p.2 = v at hvd next
     simp (disch:=omega) only[wp,qa,qb,qc,e0,e3,e4,c0',hkd,c1a]
     refine blk_cut (fun e g => ∃ k:Nat,RgJ ex l v i k w e∧(k < l.length→¬ l.getD k 0 < v)) ?_ ?_
     ·refine W_loop (fun q e g => ∃ k:Nat,q = l.length - k∧RgJ ex l v i k w e) l.length ?_ ?_
      ·exact ⟨0,rfl,Nat.zero_le _,e0,e3,e4,rfl,fun j hj => absurd hj (Nat.not_lt_zero j)⟩
      ·rintro q e g ⟨k,rfl,hk,e0,e3,e4,e5,hb⟩
       by_cases c2:k < l.length
       ·have c2':((k:Nat):Int) < ((l.length:Nat):Int):=by omega
        have hip:=ints_part c2
        have hw:=succ_wrap (k:=k) (by omega)
        by_cases c3:l.getD k 0 < v
        ·have hb':∀ j,j < k + 1→l.getD j 0 < v:=fun j hj => by
          by_cases hjk:j = k
          ·rw[hjk];exact c3
          ·exact hb j (by omega)
         simp (disch:=omega) only[wp,qa,qb,qc,e0,e3,e4,e5,c0',c2',hip,hvd,c3,hw]
         exact ⟨l.length - (k + 1),by omega,k + 1,rfl,⟨by omega,e0,e3,e4,rfl,hb'⟩⟩
        ·simp (disch:=omega) only[wp,qa,qb,qc,e0,e3,e4,e5,c0',c2',hip,hvd,c3]
         exact ⟨k,⟨hk,e0,e3,e4,e5,hb⟩,fun _ => c3⟩
       ·have c2':¬ ((k:Nat):Int) < ((l.length:Nat):Int):=by omega
        simp (disch:=omega) only[wp,qa,qb,qc,e0,e3,e4,e5,c2']
        exact ⟨k,⟨hk,e0,e3,e4,e5,hb⟩,fun h => absurd h c2⟩
     ·rintro e g ⟨k,⟨hk,e0,e3,e4,e5,hb⟩,hn⟩
      have fin:(k < l.length→l.getD k 0≠v)→putI l v = l.take k ++ v :: l.drop k:=fun h => putI_eq hk hb fun h1 => by have:=hn h1;have:=h h1;omega
      have hlt:(intsC (l.take k)).length = k:=by rw[intsC_len,List.length_take];omega
      have hld:(intsC (l.drop k)).length = l.length - k:=by rw[intsC_len,List.length_drop]
      have hla:(intsC (l.drop k)).take ((l.length - k) * 1) = intsC (l.drop k):=intsC_all (by rw[List.length_drop])
      have hit:(intsC l).take (k * 1) = intsC (l.take k):=intsC_take l k
      have hid:(intsC l).drop (k * 1) = intsC (l.drop k):=intsC_drop l k
      have key:(l.take k ++ v :: l.drop k).length = l.length + 1:=by simp;omega
      by_cases c2:k < l.length
      ·have c2':((k:Nat):Int) < ((l.length:Nat):Int):=by omega
       have hip:=ints_part c2
       rw[hid] at hip
       cases c3:(l.getD k 0 == v) with
       | true =>
         have h1:=putI_has (v:=v) c2 hb (by simpa using c3)
         rw[h1] at next
         simp (disch:=omega) only[wp,qa,qb,qc,e0,e3,e4,e5,c0',c2',hip,hid,hvd,c3,hwi]
         refine next _ g ?_ ?_ ?_
         ·exact e0
         ·exact ⟨w,e3⟩
         ·rfl
       | false =>
         have h1:=fin fun _ => by simpa using c3
         rw[h1] at next
         by_cases k0:k = 0
         ·subst k0
          simp (disch:=omega) only[wp,qa,qb,qc,e0,e3,e4,e5,c0',c2',hip,hvd,c3,hwi,oSlice,evoN,evoS,slTo,slFrom,hit,hid,hla,hlt,hld]
          refine next _ g ?_ ?_ ?_
          ·exact e0
          ·exact slEq (by simp[intsC]) (by rw[key];omega)
          ·rfl
         ·simp (disch:=omega) only[wp,qa,qb,qc,e0,e3,e4,e5,c0',c2',hip,hvd,c3,hwi,oSlice,evoN,evoS,slTo,slFrom,hit,hid,hla,hlt,hld]
          refine next _ g ?_ ?_ ?_
          ·exact e0
          ·exact slEq (by simp[intsC]) (by rw[key];omega)
          ·rfl
      ·have c2':¬ ((k:Nat):Int) < ((l.length:Nat):Int):=by omega
       have h1:=fin fun h => absurd h c2
       rw[h1] at next
       by_cases k0:k = 0
       ·subst k0
        simp (disch:=omega) only[wp,qa,qb,qc,e0,e3,e4,e5,c0',c2',hvd,hwi,oSlice,evoN,evoS,slTo,slFrom,hit,hid,hla,hlt,hld]
        refine next _ g ?_ ?_ ?_
        ·exact e0
        ·exact slEq (by simp[intsC]) (by rw[key];omega)
        ·rfl
       ·simp (disch:=omega) only[wp,qa,qb,qc,e0,e3,e4,e5,c0',c2',hvd,hwi,oSlice,evoN,evoS,slTo,slFrom,hit,hid,hla,hlt,hld]
        refine next _ g ?_ ?_ ?_
        ·exact e0
        ·exact slEq (by simp[intsC]) (by rw[key];omega)
        ·rfl
    ·have c1a:(p.1 != 2) = true:=by simpa using c1
     have hrg:rgS l p = l:=if_neg c1
     rw[hrg] at next
     simp (disch:=omega) only[wp,qa,qb,qc,e0,e3,e4,c0',hkd,c1a,hwi]
     refine next _ g ?_ ?_ ?_
     ·exact e0
     ·exact ⟨w,e3⟩
     ·rfl
   ·have c0':¬ ((i:Nat):Int) < ((ex.length:Nat):Int):=by omega
    obtain rfl:i = ex.length:=by omega
    rw[List.take_length] at e3
    simp (disch:=omega) only[wp,qa,qb,qc,e0,e3,e4,c0']
    exact ⟨w,rfl⟩
 ·rintro e g ⟨w,e3⟩
  simp (disch:=omega) only[wp,qa,qb,qc,e3]
theorem exOk_regs {ex:List (Int × Int)} (h:ExOk ex):intsC (regsX ex) = natC (exR ex)∧(regsX ex).length = (exR ex).length∧(∀ r∈exR ex,r < 8)∧(exR ex).length≤8∧ex.length≤3:=by
 obtain ⟨a,b,m,a0,a3,b0,b3,m0,m3,rfl⟩:=h
 have ha:(a.toNat:Int) = a:=Int.toNat_of_nonneg a0
 unfold exM
 split
 ·simp[regsX,rgS,exR,intsC,natC]
 split
 ·simp[regsX,rgS,exR,intsC,natC,putI,ha];omega
 split
 ·simp[regsX,rgS,exR,intsC,natC,putI,ha];omega
 split
 ·simp[regsX,rgS,exR,intsC,natC,putI,ha];omega
 split
 ·simp[regsX,rgS,exR,intsC,natC,putI,ha];omega
 ·simp[regsX,rgS,exR,intsC,natC]
structure ExF (F:Funs):Prop where
 check:F 109 = some A_xref02_Check
 word:F 125 = some A_xref02_word
 eval:F 115 = some A_xref02_Eval
 do_:F 128 = some A_xref02_Do
 regs:F 126 = some A_xref02_Regs
theorem vok (E:ExF F):VOk F evX:=by
 intro ex regs hex h8
 obtain ⟨r1,r2,r3,r4,r5⟩:=exOk_regs hex
 refine ⟨?_,?_,r3,r4⟩
 ·have:=sp_eval E.eval E.check E.word E.do_ ex regs (by omega) (by omega)
  rw[h8] at this
  exact this
 ·have:=sp_regs E.regs ex (by omega)
  rw[r1,r2] at this
  exact this
end Go.Ab
end
section
set_option linter.unusedVariables false
set_option linter.unusedSimpArgs false
namespace Go.Ab
variable {F:Funs}
theorem o_ldQ {c:CS} {al:Nat→Bool} {lo id:Nat} {e:Env} {g:G} (agg x t):opE c al lo id (.ldQ agg x t) e g = vLdQ al agg (x.ev e) (e t) g:=rfl
theorem vLdQ_S {al:Nat→Bool} {agg:Option Nat} {b off o:Nat} {g:G}:vLdQ al agg (.mp b off) (.mp b o) g = ldS agg off g (selB (al b) (g.hp b)):=by
 have h:(ids1 (.mp b o)).contains b = true:=by simp[ids1]
 simp only[vLdQ,h,if_true,rd_S]
 cases selB (al b) (g.hp b) with
 | none => rfl
 | some bl => cases bl<;>rfl
theorem o_stN {c:CS} {al:Nat→Bool} {lo id:Nat} {e:Env} {g:G} (n a x ts):opE c al lo id (.stN n a x ts) e g = vStN al n (a.ev e) (x.ev e) (ts.map e) g:=rfl
theorem vStN_1 {al:Nat→Bool} {n b off q o:Nat} {x:AV} {g:G} (h:b≠q):vStN al n (.mp b off) x [.mp q o] g = vSt al n (.mp b off) x g:=if_pos (by simp[ids1,h])
theorem sp_exSelf (h127:F 127 = some A_xref02_Same) (ex:List (Int × Int)) (hl:ex.length≤1000000):pureS F 127 [exV ex,exV ex] = some (.b true):=by
 refine pure_of h127 ?_
 unfold exV
 have c0:(((ex.length:Nat):Int) != ((ex.length:Nat):Int)) = false:=by simp
 simp (disch:=omega) only[A_xref02_Same,wp,qa,qb,qc,c0]
 refine blk_cut (fun e g => True) ?_ ?_
 ·refine W_loop (fun q e g => ∃ k:Nat,q = ex.length - k∧k≤ex.length∧e 0 = .sl (tkC ex) ex.length .non∧e 1 = .sl (tkC ex) ex.length .non∧e 5 = .i .i64 ((k:Nat):Int)) ex.length ?_ ?_
  ·refine ⟨0,rfl,Nat.zero_le _,?_⟩
   simp (disch:=omega) only[wp,qa,qb,qc]
   trivial
  ·rintro q e g ⟨k,rfl,hk,e0,e1,e5⟩
   by_cases c1:k < ex.length
   ·have c1':((k:Nat):Int) < ((ex.length:Nat):Int):=by omega
    have hkd:=tk_k c1
    have hvd:=tk_v c1
    have hl2:=tk_l c1
    have hw:=succ_wrap (k:=k) (by omega)
    have c2:((ex.getD k (0,0)).1 != (ex.getD k (0,0)).1) = false:=by simp
    have c3:((ex.getD k (0,0)).2 != (ex.getD k (0,0)).2) = false:=by simp
    simp (disch:=omega) only[wp,qa,qb,qc,e0,e1,e5,c1',hkd,hvd,c2,c3,hw]
    exact ⟨ex.length - (k + 1),by omega,k + 1,rfl,by omega,rfl⟩
   ·have c1':¬ ((k:Nat):Int) < ((ex.length:Nat):Int):=by omega
    simp (disch:=omega) only[wp,qa,qb,qc,e0,e1,e5,c1']
 ·rintro e g -
  simp (disch:=omega) only[wp,qa,qb,qc]
theorem i7_0 (a0 a1 a2 a3 a4 a5 a6:AV):part [a0,a1,a2,a3,a4,a5,a6] 0 (some 7) = some (.agg [a0,a1,a2,a3,a4,a5,a6]):=rfl
theorem i7_6 (a0 a1 a2 a3 a4 a5 a6:AV):part [a0,a1,a2,a3,a4,a5,a6] 6 none = some a6:=rfl
theorem sp7 (b0 b1 b2 b3 b4 b5 b6 c0 c1 c2 c3 c4 c5 c6:AV):splice [b0,b1,b2,b3,b4,b5,b6] 0 [c0,c1,c2,c3,c4,c5,c6] = [c0,c1,c2,c3,c4,c5,c6]:=rfl
theorem z7:List.replicate 5 (AV.i .i64 0) ++ [.sl [] 0 .rig,.i .i64 0] = [.i .i64 0,.i .i64 0,.i .i64 0,.i .i64 0,.i .i64 0,.sl [] 0 .rig,.i .i64 0]:=rfl
theorem sp_insSelf (h111:F 111 = some A_xref03_SameInstr) (h127:F 127 = some A_xref02_Same) (x:Ins) (hl:x.ex.length≤1000000):pureS F 111 [.agg (insC x),.agg (insC x)] = some (.b true):=by
 refine pure_of h111 ?_
 have hs:=sp_exSelf h127 x.ex hl
 unfold exV at hs
 unfold insC exV
 simp (disch:=omega) only[A_xref03_SameInstr,wp,qa,qb,qc,gl,i7_6,hs]
theorem exM_chk {a b m:Int} (h0:0≤a) (h1:a < 3) (h2:0≤b) (h3:b < 3):chkX (exM a b m) = true∧(exM a b m).length≤3:=by
 have hr:wdB (2,a) = true:=by unfold wdB;simp;omega
 have hc:wdB (1,b) = true:=by unfold wdB;simp;omega
 have w4:wdB (3,4) = true:=rfl
 have w5:wdB (3,5) = true:=rfl
 have w6:wdB (3,6) = true:=rfl
 have w3:wdB (3,3) = true:=rfl
 have w1:wdB (1,1) = true:=rfl
 unfold exM
 split
 ·exact ⟨by unfold chkX;simp[chkG,hc],by simp⟩
 split
 ·exact ⟨by unfold chkX;simp[chkG,hr],by simp⟩
 split
 ·exact ⟨by unfold chkX;simp[chkG,hr,w4],by simp⟩
 split
 ·exact ⟨by unfold chkX;simp[chkG,hr,hc,w5],by simp⟩
 split
 ·exact ⟨by unfold chkX;simp[chkG,hr,hc,w6],by simp⟩
 ·exact ⟨by unfold chkX;simp[chkG,hc,w1,w3],by simp⟩
theorem ExOk.chk {ex:List (Int × Int)} (h:ExOk ex):chkX ex = true∧ex.length≤3:=by
 obtain ⟨a,b,m,a0,a3,b0,b3,m0,m3,rfl⟩:=h
 exact exM_chk a0 a3 b0 b3
structure ChF (F:Funs):Prop where
 ex:ExF F
 same:F 127 = some A_xref02_Same
 sins:F 111 = some A_xref03_SameInstr
 ins:F 98 = some A_xref04_Instr
 uses:F 110 = some A_xref04_Uses
 events:F 99 = some A_xref04_Events
 paths:F 100 = some A_xref04_Paths
 chk:F 87 = some A_xref04_Check
theorem sp_uses0 (A:ChF F) {ex:List (Int × Int)} {r:Int} (h:regsX ex = []) (hl:ex.length≤1000):pureS F 110 [exV ex,.i .i64 r] = some (.b false):=by
 refine pure_of A.uses ?_
 have hr:=sp_regs A.ex.regs ex (by omega)
 rw[h] at hr
 unfold exV at hr ⊢
 have c1:¬ (0:Int) < ((0:Nat):Int):=by omega
 simp (disch:=omega) only[A_xref04_Uses,wp,qa,qb,qc,hr,intsC,List.map_nil]
 refine blk_cut (fun e g => True) ?_ ?_
 ·refine W_loop (fun q e g => e 5 = .sl [] 0 .non∧e 6 = .i .i64 0) 0 ?_ ?_
  ·simp (disch:=omega) only[wp,qa,qb,qc]
  ·rintro q e g ⟨e5,e6⟩
   simp (disch:=omega) only[wp,qa,qb,qc,e5,e6,c1]
 ·rintro e g -
  simp (disch:=omega) only[wp,qa,qb,qc]
theorem sp_uses1 (A:ChF F) {c r:Int}:pureS F 110 [exV [(1,c)],.i .i64 r] = some (.b false):=sp_uses0 A rfl (by simp)
theorem sp4_ld (A:ChF F) {left md rg lc:Int} (h1:md = 0∨md = 1) (h2:rg = 0∨rg = 1∨rg = 2) (h3:lc = 0∨lc = 1):pureS F 98 [.agg (insC ⟨1,md,0,rg,lc,[],0⟩),.i .i64 2,.i .i64 left] = some (.b true):=by
 refine pure_of A.ins ?_
 have hck:=sp_exCheck A.ex.check A.ex.word [] (by simp)
 have hself:=sp_insSelf A.sins A.same ⟨1,md,0,rg,lc,[],0⟩ (by simp)
 rw[show chkX [] = false from rfl] at hck
 unfold insC exV at hself
 unfold exV at hck
 simp only[tkC,List.flatMap_nil,List.length_nil] at hck hself
 have a1:0≤rg:=by omega
 have a2:rg < 8:=by omega
 have a3:0≤lc:=by omega
 have a4:lc < 2:=by omega
 unfold insC exV
 simp only[tkC,List.flatMap_nil,List.length_nil]
 rcases h1 with rfl | rfl<;>simp (disch:=omega) only[A_xref04_Instr,wp,qa,qb,qc,gl,i7_6,i7_0,sp7,z7,frz_ag7,hck,hself,a1,a2,a3,a4,o_ldQ,vLdQ_S,o_stN,vStN_1,Int.reduceBEq,allow_lt]
theorem sp4_st (A:ChF F) {left md lc:Int} {ex:List (Int × Int)} (h1:md = 0∨md = 2) (h3:lc = 0∨lc = 1) (he:ExOk ex):pureS F 98 [.agg (insC ⟨2,md,0,0,lc,ex,0⟩),.i .i64 2,.i .i64 left] = some (.b true):=by
 refine pure_of A.ins ?_
 obtain ⟨hx,hl⟩:=he.chk
 have hck:=sp_exCheck A.ex.check A.ex.word ex (by omega)
 have hself:=sp_insSelf A.sins A.same ⟨2,md,0,0,lc,ex,0⟩ (by dsimp only;omega)
 rw[hx] at hck
 unfold insC exV at hself
 unfold exV at hck
 have a3:0≤lc:=by omega
 have a4:lc < 2:=by omega
 have z0:(0:Int)≤0:=by omega
 have z8:(0:Int) < 8:=by omega
 unfold insC exV
 rcases h1 with rfl | rfl<;>simp (disch:=omega) only[A_xref04_Instr,wp,qa,qb,qc,gl,i7_6,i7_0,sp7,z7,frz_ag7,hck,hself,a3,a4,z0,z8,o_ldQ,vLdQ_S,o_stN,vStN_1,Int.reduceBEq,allow_lt]
theorem sp4_fe (A:ChF F) {left md:Int} (h1:md = 1∨md = 2∨md = 3∨md = 4):pureS F 98 [.agg (insC ⟨3,md,0,0,0,[],0⟩),.i .i64 2,.i .i64 left] = some (.b true):=by
 refine pure_of A.ins ?_
 have hck:=sp_exCheck A.ex.check A.ex.word [] (by simp)
 have hself:=sp_insSelf A.sins A.same ⟨3,md,0,0,0,[],0⟩ (by simp)
 rw[show chkX [] = false from rfl] at hck
 unfold insC exV at hself
 unfold exV at hck
 simp only[tkC,List.flatMap_nil,List.length_nil] at hck hself
 have a1:1≤md:=by omega
 have a2:md≤4:=by omega
 have z0:(0:Int)≤0:=by omega
 have z8:(0:Int) < 8:=by omega
 have z2:(0:Int) < 2:=by omega
 unfold insC exV
 simp only[tkC,List.flatMap_nil,List.length_nil]
 simp (disch:=omega) only[A_xref04_Instr,wp,qa,qb,qc,gl,i7_6,i7_0,sp7,z7,frz_ag7,hck,hself,a1,a2,z0,z8,z2,o_ldQ,vLdQ_S,o_stN,vStN_1,Int.reduceBEq,allow_lt]
theorem sp4_fa (A:ChF F) {left md md2 rg lc c:Int} (h1:md = 0∨md = 1) (h4:md2 = 0∨md2 = 2) (h2:rg = 0∨rg = 1∨rg = 2) (h3:lc = 0∨lc = 1) (h5:c = 0∨c = 1):pureS F 98 [.agg (insC ⟨4,md,md2,rg,lc,[(1,c)],0⟩),.i .i64 2,.i .i64 left] = some (.b true):=by
 refine pure_of A.ins ?_
 have hck:=sp_exCheck A.ex.check A.ex.word [(1,c)] (by simp)
 have hself:=sp_insSelf A.sins A.same ⟨4,md,md2,rg,lc,[(1,c)],0⟩ (by simp)
 have hus:=sp_uses1 A (c:=c) (r:=rg)
 rw[show chkX [(1,c)] = true by rcases h5 with rfl | rfl<;>rfl] at hck
 unfold insC exV at hself
 unfold exV at hck hus
 have a1:0≤rg:=by omega
 have a2:rg < 8:=by omega
 have a3:0≤lc:=by omega
 have a4:lc < 2:=by omega
 have a5:(([(1,c)]:List (Int × Int)).length:Int)≤7:=by simp
 unfold insC exV
 generalize ([(1,c)]:List (Int × Int)) = ex at hck hself hus a5
 rcases h1 with rfl | rfl<;>rcases h4 with rfl | rfl<;>simp (disch:=omega) only[A_xref04_Instr,wp,qa,qb,qc,gl,i7_6,i7_0,sp7,z7,frz_ag7,hck,hself,hus,a1,a2,a3,a4,a5,o_ldQ,vLdQ_S,o_stN,vStN_1,Int.reduceBEq,allow_lt]
theorem sp4_se (A:ChF F) {left rg:Int} {ex:List (Int × Int)} (h2:rg = 0∨rg = 1∨rg = 2) (he:ExOk ex):pureS F 98 [.agg (insC ⟨5,0,0,rg,0,ex,0⟩),.i .i64 2,.i .i64 left] = some (.b true):=by
 refine pure_of A.ins ?_
 obtain ⟨hx,hl⟩:=he.chk
 have hck:=sp_exCheck A.ex.check A.ex.word ex (by omega)
 have hself:=sp_insSelf A.sins A.same ⟨5,0,0,rg,0,ex,0⟩ (by dsimp only;omega)
 rw[hx] at hck
 unfold insC exV at hself
 unfold exV at hck
 have a1:0≤rg:=by omega
 have a2:rg < 8:=by omega
 have z0:(0:Int)≤0:=by omega
 have z2:(0:Int) < 2:=by omega
 unfold insC exV
 simp (disch:=omega) only[A_xref04_Instr,wp,qa,qb,qc,gl,i7_6,i7_0,sp7,z7,frz_ag7,hck,hself,a1,a2,z0,z2,o_ldQ,vLdQ_S,o_stN,vStN_1,Int.reduceBEq,allow_lt]
theorem sp4_sk (A:ChF F) {left n:Int} {ex:List (Int × Int)} (he:ExOk ex) (h0:0≤n) (h1:n≤left):pureS F 98 [.agg (insC ⟨6,0,0,0,0,ex,n⟩),.i .i64 2,.i .i64 left] = some (.b true):=by
 refine pure_of A.ins ?_
 obtain ⟨hx,hl⟩:=he.chk
 have hck:=sp_exCheck A.ex.check A.ex.word ex (by omega)
 have hself:=sp_insSelf A.sins A.same ⟨6,0,0,0,0,ex,n⟩ (by dsimp only;omega)
 rw[hx] at hck
 unfold insC exV at hself
 unfold exV at hck
 have z0:(0:Int)≤0:=by omega
 have z8:(0:Int) < 8:=by omega
 have z2:(0:Int) < 2:=by omega
 unfold insC exV
 simp (disch:=omega) only[A_xref04_Instr,wp,qa,qb,qc,gl,i7_6,i7_0,sp7,z7,frz_ag7,hck,hself,h0,h1,z0,z8,z2,o_ldQ,vLdQ_S,o_stN,vStN_1,Int.reduceBEq,allow_lt]
theorem sp4_instr (A:ChF F) {left:Int} {x:Ins} (h:InsK left x):pureS F 98 [.agg (insC x),.i .i64 2,.i .i64 left] = some (.b true):=by
 cases h with
 | ld md rg lc h1 h2 h3 => exact sp4_ld A h1 h2 h3
 | st md lc ex h1 h3 he => exact sp4_st A h1 h3 he
 | fe md h1 => exact sp4_fe A h1
 | fa md md2 rg lc c h1 h4 h2 h3 h5 => exact sp4_fa A h1 h4 h2 h3 h5
 | se rg ex h2 he => exact sp4_se A h2 he
 | sk ex n he h0 h1 => exact sp4_sk A he h0 h1
end Go.Ab
end
section
set_option linter.unusedVariables false
set_option linter.unusedSimpArgs false
namespace Go.Ab
variable {F:Funs}
theorem ins_kd {l:List Ins} {k:Nat} (h:k < l.length):part ((insLC l).drop (k * 7)) 0 none = some (.i .i64 (l.getD k fence0).kd):=by
 rw[insLC_drop h];rfl
theorem ins_ln {l:List Ins} {k:Nat} (h:k < l.length):7≤((insLC l).drop (k * 7)).length:=by
 rw[insLC_drop h,List.length_append,insC_len];omega
structure EtI (th:List Ins) (k n:Nat) (e:Env):Prop where
 hk:k≤th.length
 hn:n≤2 * k
 e0:e 0 = .sl (insLC th) th.length .non
 e3:e 3 = .i .i64 ((n:Nat):Int)
 e4:e 4 = .i .i64 ((k:Nat):Int)
theorem sp4_events (A:ChF F) (th:List Ins) (hl:th.length≤1000000):∃ n:Nat,n≤2 * th.length∧pureS F 99 [.sl (insLC th) th.length .non] = some (.i .i64 ((n:Nat):Int)):=by
 have key:∃ v,pureS F 99 [.sl (insLC th) th.length .non] = some v∧∃ n:Nat,n≤2 * th.length∧v = .i .i64 ((n:Nat):Int):=by
  refine pureV_of A.events ?_
  simp (disch:=omega) only[A_xref04_Events,wp,qa,qb,qc]
  refine blk_cut (fun e g => ∃ n:Nat,n≤2 * th.length∧e 3 = .i .i64 ((n:Nat):Int)) ?_ ?_
  ·refine W_loop (fun q e g => ∃ k n:Nat,q = th.length - k∧EtI th k n e) th.length ?_ ?_
   ·exact ⟨0,0,rfl,Nat.zero_le _,Nat.le_refl _,rfl,rfl,rfl⟩
   ·rintro q e g ⟨k,n,rfl,hk,hn,e0,e3,e4⟩
    by_cases c1:k < th.length
    ·have c1':((k:Nat):Int) < ((th.length:Nat):Int):=by omega
     have hkd:=ins_kd c1
     have hln:=ins_ln c1
     have hw:=succ_wrap (k:=k) (by omega)
     have hw1:=succ_wrap (k:=n) (by omega)
     have hw2:IntKind.i64.wrap (((n:Nat):Int) + 2) = ((n + 2:Nat):Int):=by rw[i64_wrap (by omega) (by omega)];omega
     generalize (th.getD k fence0).kd = kd at hkd
     have next:∀ (m:Nat) (e':Env),n≤m→m≤n + 2→e' 0 = .sl (insLC th) th.length .non→e' 3 = .i .i64 ((m:Nat):Int)→e' 4 = .i .i64 ((k + 1:Nat):Int)→∃ m',m' < th.length - k∧∃ k n:Nat,m' = th.length - k∧EtI th k n e':=
      fun m e' b1 b2 a1 a2 a3 => ⟨th.length - (k + 1),by omega,k + 1,m,rfl,by omega,by omega,a1,a2,a3⟩
     cases k1:(kd == 1) with
     | true =>
       simp (disch:=omega) only[wp,qa,qb,qc,e0,e3,e4,c1',hkd,k1,hw,hw1]
       exact next (n + 1) _ (by omega) (by omega) e0 rfl rfl
     | false =>
       cases k2:(kd == 2) with
       | true =>
         simp (disch:=omega) only[wp,qa,qb,qc,e0,e3,e4,c1',hkd,k1,k2,hw,hw1]
         exact next (n + 1) _ (by omega) (by omega) e0 rfl rfl
       | false =>
         cases k3:(kd == 3) with
         | true =>
           simp (disch:=omega) only[wp,qa,qb,qc,e0,e3,e4,c1',hkd,k1,k2,k3,hw,hw1]
           exact next (n + 1) _ (by omega) (by omega) e0 rfl rfl
         | false =>
           cases k4:(kd == 4) with
           | true =>
             simp (disch:=omega) only[wp,qa,qb,qc,e0,e3,e4,c1',hkd,k1,k2,k3,k4,hw,hw2]
             exact next (n + 2) _ (by omega) (by omega) e0 rfl rfl
           | false =>
             simp (disch:=omega) only[wp,qa,qb,qc,e0,e3,e4,c1',hkd,k1,k2,k3,k4,hw]
             exact next n _ (by omega) (by omega) e0 e3 rfl
    ·have c1':¬ ((k:Nat):Int) < ((th.length:Nat):Int):=by omega
     simp (disch:=omega) only[wp,qa,qb,qc,e0,e3,e4,c1']
     exact ⟨n,by omega,rfl⟩
  ·rintro e g ⟨n,hn,e3⟩
   simp (disch:=omega) only[wp,qa,qb,qc,e3]
   refine ⟨.i .i64 ((n:Nat):Int),?_,n,hn,rfl⟩
   simp (disch:=omega) only[wp,qa,qb,qc]
 obtain ⟨v,h1,n,h2,rfl⟩:=key
 exact ⟨n,h2,h1⟩
structure PtI (th:List Ins) (k:Nat) (e:Env):Prop where
 hk:k≤th.length
 e0:e 0 = .sl (insLC th) th.length .non
 e3:e 3 = .i .i64 ((2 ^ skips (th.take k):Nat):Int)
 e4:e 4 = .i .i64 ((k:Nat):Int)
theorem sp4_paths (A:ChF F) (th:List Ins) (hl:th.length≤1000000) (hs:skips th≤2):pureS F 100 [.sl (insLC th) th.length .non] = some (.i .i64 ((2 ^ skips th:Nat):Int)):=by
 refine pure_of A.paths ?_
 simp (disch:=omega) only[A_xref04_Paths,wp,qa,qb,qc]
 refine blk_cut (fun e g => e 3 = .i .i64 ((2 ^ skips th:Nat):Int)) ?_ ?_
 ·refine W_loop (fun q e g => ∃ k:Nat,q = th.length - k∧PtI th k e) th.length ?_ ?_
  ·exact ⟨0,rfl,Nat.zero_le _,rfl,rfl,rfl⟩
  ·rintro q e g ⟨k,rfl,hk,e0,e3,e4⟩
   by_cases c1:k < th.length
   ·have c1':((k:Nat):Int) < ((th.length:Nat):Int):=by omega
    have hkd:=ins_kd c1
    have hln:=ins_ln c1
    have hw:=succ_wrap (k:=k) (by omega)
    have hst:=skips_take c1
    have hsl:=skips_le th (k + 1)
    generalize (th.getD k fence0).kd = kd at hkd hst
    generalize skips (th.take k) = s at e3 hst
    cases k6:(kd == 6) with
    | true =>
      rw[if_pos (by simpa using k6)] at hst
      have hs2:s≤1:=by omega
      have hw2:IntKind.i64.wrap (2 * ((2 ^ s:Nat):Int)) = ((2 ^ (s + 1):Nat):Int):=by
       have:s = 0∨s = 1:=by omega
       rcases this with rfl | rfl<;>rfl
      have hlt:¬ ((1000000:Int) < ((2 ^ (s + 1):Nat):Int)):=by
       have:s = 0∨s = 1:=by omega
       rcases this with rfl | rfl<;>decide
      simp (disch:=omega) only[wp,qa,qb,qc,e0,e3,e4,c1',hkd,k6,hw,hw2,hlt,if_false]
      exact ⟨th.length - (k + 1),by omega,k + 1,rfl,by omega,e0,by rw[hst];rfl,rfl⟩
    | false =>
      rw[if_neg (by simpa using k6)] at hst
      simp (disch:=omega) only[wp,qa,qb,qc,e0,e3,e4,c1',hkd,k6,hw]
      exact ⟨th.length - (k + 1),by omega,k + 1,rfl,by omega,e0,by rw[hst];exact e3,rfl⟩
   ·have c1':¬ ((k:Nat):Int) < ((th.length:Nat):Int):=by omega
    obtain rfl:k = th.length:=by omega
    rw[List.take_length] at e3
    simp (disch:=omega) only[wp,qa,qb,qc,e0,e3,e4,c1']
 ·rintro e g e3
  simp (disch:=omega) only[wp,qa,qb,qc,e3]
structure PgK (ths:List (List Ins)) (L:Nat):Prop where
 one:1≤ths.length
 four:ths.length≤4
 len:∀ i,i < ths.length→(ths.getD i []).length≤L
 th:∀ i,i < ths.length→ThK (ths.getD i [])
 big:2 + 2 * L * ths.length≤40
structure CkI (ths:List (List Ins)) (L i n:Nat) (e:Env) (g:G):Prop where
 hi:i≤ths.length
 hn:n≤2 + 2 * L * i
 e1:e 1 = .mp 0 0
 e3:e 3 = .i .i64 ((n:Nat):Int)
 e4:e 4 = .b false
 e5:e 5 = .i .i64 ((i:Nat):Int)
 h0:g.hp 0 = some (.cells [.i .i64 2,.sl (thsC ths) ths.length .non] false)
 nx:0 < g.nx
structure CkJ (ths:List (List Ins)) (L i n k:Nat) (th:List Ins) (e:Env) (g:G):Prop where
 hk:k≤th.length
 e1:e 1 = .mp 0 0
 e3:e 3 = .i .i64 ((n:Nat):Int)
 e4:e 4 = .b false
 e5:e 5 = .i .i64 ((i:Nat):Int)
 e6:e 6 = .sl (insLC th) th.length .non
 e7:e 7 = .i .i64 ((k:Nat):Int)
 h0:g.hp 0 = some (.cells [.i .i64 2,.sl (thsC ths) ths.length .non] false)
 nx:0 < g.nx
theorem sp4_check (A:ChF F) {ths:List (List Ins)} {L:Nat} (P:PgK ths L):pureS F 87 [.agg [.i .i64 2,.sl (thsC ths) ths.length .non]] = some (.i .i64 0):=by
 refine pure_of A.chk ?_
 have h1:=P.one
 have h4:=P.four
 have hbig:=P.big
 have c1:¬ (2:Int) < 1:=by omega
 have c2:¬ (4:Int) < 2:=by omega
 have c3:(((ths.length:Nat):Int) == 0) = false:=by rw[beq_eq_false_iff_ne];omega
 have c4:¬ (4:Int) < ((ths.length:Nat):Int):=by omega
 simp (disch:=omega) only[A_xref04_Check,wp,qa,qb,qc,gl,c1,c2,c3,c4,allow_lt]
 refine blk_cut (fun e g => ∃ n:Nat,CkI ths L ths.length n e g) ?_ ?_
 ·refine W_loop (fun q e g => ∃ i n:Nat,q = ths.length - i∧CkI ths L i n e g) ths.length ?_ ?_
  ·exact ⟨0,2,rfl,Nat.zero_le _,by omega,rfl,rfl,rfl,rfl,rfl,by first | omega | (dsimp only;omega)⟩
  ·rintro q e g ⟨i,n,rfl,hi,hn,e1,e3,e4,e5,h0,hx⟩
   by_cases d1:i < ths.length
   ·have d1':((i:Nat):Int) < ((ths.length:Nat):Int):=by omega
    have hth:=th_at d1
    have hwi:=succ_wrap (k:=i) (by omega)
    have hK:=P.th i d1
    have hL:=P.len i d1
    generalize ths.getD i [] = th at hth hK hL
    have hlen:=hK.len
    simp (disch:=omega) only[wp,qa,qb,qc,gl,e1,e3,e4,e5,h0,d1',hth]
    refine blk_cut (fun e g => CkJ ths L i n th.length th e g) ?_ ?_
    ·refine W_loop (fun q e g => ∃ k:Nat,q = th.length - k∧CkJ ths L i n k th e g) th.length ?_ ?_
     ·exact ⟨0,rfl,Nat.zero_le _,e1,e3,e4,e5,rfl,rfl,h0,by first | omega | (dsimp only;omega)⟩
     ·rintro q e g ⟨k,rfl,hk,e1,e3,e4,e5,e6,e7,h0,hx⟩
      by_cases d2:k < th.length
      ·have d2':((k:Nat):Int) < ((th.length:Nat):Int):=by omega
       have hins:=ins_at d2
       have hln:=ins_ln d2
       have hw:=succ_wrap (k:=k) (by omega)
       have hw1:IntKind.i64.wrap (((th.length:Nat):Int) - 1) = ((th.length - 1:Nat):Int):=by rw[i64_wrap (by omega) (by omega)];omega
       have hw2:IntKind.i64.wrap (((th.length - 1:Nat):Int) - ((k:Nat):Int)) = ((th.length - 1 - k:Nat):Int):=by rw[i64_wrap (by omega) (by omega)];omega
       have hsp:=sp4_instr A (hK.ins k d2)
       generalize th.getD k fence0 = x at hins hsp
       unfold insC exV at hins hsp
       simp (disch:=omega) only[wp,qa,qb,qc,gl,e1,e3,e4,e5,e6,e7,h0,d2',hins,hw,hw1,hw2,hsp,frz_ag7,allow_lt]
       exact ⟨th.length - (k + 1),by omega,k + 1,rfl,by omega,e1,e3,e4,e5,e6,rfl,h0,by first | omega | (dsimp only;omega)⟩
      ·have d2':¬ ((k:Nat):Int) < ((th.length:Nat):Int):=by omega
       obtain rfl:k = th.length:=by omega
       simp (disch:=omega) only[wp,qa,qb,qc,e1,e3,e4,e5,e6,e7,d2']
       exact ⟨Nat.le_refl _,e1,e3,e4,e5,e6,e7,h0,by first | omega | (dsimp only;omega)⟩
    ·rintro e g ⟨hk,e1,e3,e4,e5,e6,e7,h0,hx⟩
     obtain ⟨m,hm,hev⟩:=sp4_events A th (by omega)
     have hpa:=sp4_paths A th (by omega) hK.sk
     have hsk:=hK.sk
     have hp4:¬ ((64:Int) < ((2 ^ skips th:Nat):Int)):=by
      have:skips th = 0∨skips th = 1∨skips th = 2:=by omega
      rcases this with h | h | h<;>rw[h]<;>decide
     have hl12:¬ (12:Int) < ((th.length:Nat):Int):=by omega
     have hmul:2 * L * (i + 1) = 2 * L * i + 2 * L:=by rw[Nat.mul_add,Nat.mul_one]
     have hmi:2 * L * i≤2 * L * ths.length:=Nat.mul_le_mul_left _ hi
     have hwn:IntKind.i64.wrap (((n:Nat):Int) + ((m:Nat):Int)) = ((n + m:Nat):Int):=by rw[i64_wrap (by omega) (by omega)];omega
     simp (disch:=omega) only[wp,qa,qb,qc,gl,e1,e3,e4,e5,e6,h0,hev,hpa,hp4,hl12,hwn,hwi]
     exact ⟨ths.length - (i + 1),by omega,i + 1,n + m,rfl,by omega,by omega,e1,rfl,rfl,rfl,h0,by first | omega | (dsimp only;omega)⟩
   ·have d1':¬ ((i:Nat):Int) < ((ths.length:Nat):Int):=by omega
    obtain rfl:i = ths.length:=by omega
    simp (disch:=omega) only[wp,qa,qb,qc,gl,e1,e3,e4,e5,h0,d1']
    exact ⟨n,Nat.le_refl _,hn,e1,e3,e4,e5,h0,by first | omega | (dsimp only;omega)⟩
 ·rintro e g ⟨n,hi,hn,e1,e3,e4,e5,h0,hx⟩
  have c40:¬ (40:Int) < ((n:Nat):Int):=by omega
  simp (disch:=omega) only[wp,qa,qb,qc,gl,e1,e3,e4,c40]
end Go.Ab
end
section
set_option linter.unusedVariables false
set_option linter.unusedSimpArgs false
namespace Go.Ab
variable {F:Funs}
def TkOk (esz:Nat) (g:G) (t:Tok):Prop:=t = .rig∨∃ i,t = .own i esz∧g.hp i = some (.tok true)∧i < g.nx
def TkNe (t u:Tok):Prop:=∀ i e f,t = .own i e→u≠.own i f
theorem TkNe.rig_l {u:Tok}:TkNe .rig u:=fun _ _ _ h => by cases h
theorem TkNe.rig_r {u:Tok}:TkNe u .rig:=fun _ _ _ _ h => by cases h
theorem TkNe.symm {t u:Tok} (h:TkNe t u):TkNe u t:=fun i e f h1 h2 => h i f e h2 h1
structure AppR (esz id:Nat) (t t':Tok) (g:G) (hp':Nat→Option Blk):Prop where
 tok:t' = .rig∨(t' = .own id esz∧hp' id = some (.tok true))
 keep:∀ i,i≠id→(∀ e,t≠.own i e)→hp' i = g.hp i
theorem bindO_app1 {d:Bool} {b j:Nat} {dst:Option Nat} {os:List AOper} {e:Env} {K:Env→G→Prop} {al:Nat→Bool} {id esz bytes n m:Nat} {cs ds:List AV} {t t2:Tok} {g:G}
  (ht:TkOk esz g t) (hal:∀ i,t = .own i esz→al i = true) (hc:bytes≤1000∧n + m≤1000000∧cs.length = n * esz∧ds.length = m * esz)
  (hk:∀ t' hp',AppR esz id t t' g hp'→(0 < m→t' = .own id esz∧hp' id = some (.tok true))→WR F d b j os (put e dst (.sl (cs ++ ds) (n + m) t')) ⟨hp',g.nx⟩ K):bindO F d b j dst os e K (vApp al id esz bytes (.sl cs n t) (.sl ds m t2) g):=by
 obtain ⟨h1,h2,h3,h4⟩:=hc
 have h5:(n + m) * bytes≤2 ^ 46:=Nat.le_trans (Nat.mul_le_mul h2 h1) (by omega)
 have h6:n + m≤2 ^ 62:=Nat.le_trans h2 (by omega)
 rcases ht with rfl | ⟨i,rfl,hi,hlt⟩
 ·by_cases hm:m = 0
  ·subst hm
   have hd:ds = []:=List.length_eq_zero_iff.1 (by omega)
   subst hd
   rw[vApp_rig0,appD_ok ⟨h5,h6,h3,h4⟩]
   have:=hk .rig g.hp ⟨.inl rfl,fun _ _ _ => rfl⟩ (fun h => absurd h (Nat.lt_irrefl 0))
   rw[List.append_nil,Nat.add_zero] at this
   exact this
  ·rw[vApp_rig hm,appD_ok ⟨h5,h6,h3,h4⟩]
   exact hk (.own id esz) _ ⟨.inr ⟨rfl,by simp[upd]⟩,fun i hi _ => by simp[upd,hi]⟩ (fun _ => ⟨rfl,by simp[upd]⟩)
 ·rw[vApp_own,appD_ok ⟨h5,h6,h3,h4⟩,hal i rfl,selB_true,hi,appK_ok]
  exact hk (.own id esz) _ ⟨.inr ⟨rfl,by simp[upd]⟩,fun k hk' hne => by
   have:k≠i:=fun h => hne esz (by rw[h])
   simp[upd,hk',this]⟩ (fun _ => ⟨rfl,by simp[upd]⟩)
theorem bindO_app {d:Bool} {b j:Nat} {dst:Option Nat} {os:List AOper} {e:Env} {K:Env→G→Prop} {al:Nat→Bool} {id esz bytes n m:Nat} {cs ds:List AV} {t t2:Tok} {g:G}
  (ht:TkOk esz g t) (hal:∀ i,t = .own i esz→al i = true) (hc:bytes≤1000∧n + m≤1000000∧cs.length = n * esz∧ds.length = m * esz)
  (hk:∀ t' hp',AppR esz id t t' g hp'→WR F d b j os (put e dst (.sl (cs ++ ds) (n + m) t')) ⟨hp',g.nx⟩ K):bindO F d b j dst os e K (vApp al id esz bytes (.sl cs n t) (.sl ds m t2) g):=
 bindO_app1 ht hal hc fun t' hp' h _ => hk t' hp' h
theorem TkOk.mono {esz:Nat} {g:G} {t:Tok} {hp':Nat→Option Blk} {m:Nat} (h:TkOk esz g t) (hk:∀ i,t = .own i esz→hp' i = g.hp i) (hm:g.nx≤m):TkOk esz ⟨hp',m⟩ t:=by
 rcases h with rfl | ⟨i,rfl,h1,h2⟩
 ·exact .inl rfl
 ·exact .inr ⟨i,rfl,by show hp' i = _;rw[hk i rfl,h1],by show i < m;omega⟩
theorem AppR.ok {esz id:Nat} {t t':Tok} {g:G} {hp':Nat→Option Blk} (h:AppR esz id t t' g hp') {m:Nat} (hm:id < m):TkOk esz ⟨hp',m⟩ t':=by
 rcases h.tok with rfl | ⟨rfl,h1⟩
 ·exact .inl rfl
 ·exact .inr ⟨id,rfl,h1,hm⟩
theorem AppR.ne {esz id:Nat} {t t' u:Tok} {g:G} {hp':Nat→Option Blk} (h:AppR esz id t t' g hp') (hu:∀ e,u≠.own id e):TkNe t' u:=by
 rcases h.tok with rfl | ⟨rfl,_⟩
 ·exact TkNe.rig_l
 ·intro i e f h1 h2
  cases h1
  exact hu f h2
structure MvI (l:List (Int × Int)) (n:Int) (k:Nat) (t:Tok) (e:Env) (g:G):Prop where
 hk:k≤l.length
 e0:e 0 = .sl (pairsC l) l.length .non
 e1:e 1 = .i .i64 n
 e5:e 5 = .sl (pairsC (movI (l.take k) n)) k t
 e6:e 6 = .i .i64 ((k:Nat):Int)
 tk:TkOk 2 g t
theorem movI_len (l:List (Int × Int)) (n:Int):(movI l n).length = l.length:=by simp[movI]
theorem movI_take {l:List (Int × Int)} {n:Int} {k:Nat} (h:k < l.length):movI (l.take (k + 1)) n = movI (l.take k) n ++ [((l.getD k (0,0)).1 + n,(l.getD k (0,0)).2 + n)]:=by
 unfold movI
 rw[List.take_add_one,List.getElem?_eq_getElem h,List.getD_eq_getElem?_getD,List.getElem?_eq_getElem h,List.map_append];rfl
theorem sp7_moved (h121:F 121 = some A_xref07_moved) (l:List (Int × Int)) {n:Int} (hl:l.length≤100000) (hn:0≤n∧n≤1000000) (hp:∀ p∈l,0≤p.1∧p.1≤1000000∧0≤p.2∧p.2≤1000000):pureS F 121 [.sl (pairsC l) l.length .non,.i .i64 n] = some (.sl (pairsC (movI l n)) l.length .non):=by
 refine pure_of h121 ?_
 simp (disch:=omega) only[A_xref07_moved,wp,qa,qb,qc]
 refine blk_cut (fun e g => ∃ t,e 5 = .sl (pairsC (movI l n)) l.length t) ?_ ?_
 ·refine W_loop (fun q e g => ∃ (k:Nat) (t:Tok),q = l.length - k∧MvI l n k t e g) l.length ?_ ?_
  ·exact ⟨0,.rig,rfl,Nat.zero_le _,rfl,rfl,rfl,rfl,.inl rfl⟩
  ·rintro q e g ⟨k,t,rfl,hk,e0,e1,e5,e6,tk⟩
   by_cases c1:k < l.length
   ·have c1':((k:Nat):Int) < ((l.length:Nat):Int):=by omega
    have ha:=pairs_a c1
    have hb:=pairs_b c1
    have hdl:(List.drop (k * 2) (pairsC l)).length = l.length * 2 - k * 2:=by rw[List.length_drop,pairsC_len]
    have hw:=succ_wrap (k:=k) (by omega)
    have hnx:=movI_take (n:=n) c1
    have hpk:=hp _ (getD_mem (d:=(0,0)) c1)
    have hcl:(pairsC (movI (l.take k) n)).length = k * 2:=by rw[pairsC_len,movI_len,List.length_take];omega
    generalize l.getD k (0,0) = p at ha hb hnx hpk
    have hw1:IntKind.i64.wrap (p.1 + n) = p.1 + n:=i64_wrap (by omega) (by omega)
    have hw2:IntKind.i64.wrap (p.2 + n) = p.2 + n:=i64_wrap (by omega) (by omega)
    generalize hcs:pairsC (movI (l.take k) n) = cs at e5 hcl
    simp (disch:=omega) only[wp,qa,qb,qc,gl,e0,e1,e5,e6,c1',ha,hb,hdl,hw1,hw2]
    refine bindO_app (tk.mono (fun i hi => rfl) (by first | omega | (dsimp only;omega))) ?_ ⟨by omega,by omega,hcl,rfl⟩ ?_
    ·rintro i rfl
     rcases tk with h | ⟨i',h,h1,h2⟩
     ·cases h
     ·cases h;simp (disch:=omega) only[allow_lt]
    ·intro t' hp' ar
     simp (disch:=omega) only[wp,qa,qb,qc,e6,hw]
     refine ⟨l.length - (k + 1),by omega,k + 1,t',rfl,by omega,e0,e1,?_,rfl,ar.ok (by first | omega | (dsimp only;omega))⟩
     show AV.sl (cs ++ [.i .i64 (p.1 + n),.i .i64 (p.2 + n)]) (k + 1) t' = _
     rw[hnx,pairsC_app,hcs]
     rfl
   ·have c1':¬ ((k:Nat):Int) < ((l.length:Nat):Int):=by omega
    obtain rfl:k = l.length:=by omega
    rw[List.take_length] at e5
    simp (disch:=omega) only[wp,qa,qb,qc,gl,e0,e1,e5,e6,c1']
    exact ⟨t,rfl⟩
 ·rintro e g ⟨t,e5⟩
  simp (disch:=omega) only[wp,qa,qb,qc,e5]
end Go.Ab
end
section
set_option linter.unusedVariables false
set_option linter.unusedSimpArgs false
namespace Go.Ab
variable {F:Funs}
def szT (j:Nat):Nat:=if j = 0 then 6 else 2
structure SkTs (ts:Nat→Tok) (B:Nat) (g:G):Prop where
 ok:∀ j,TkOk (szT j) g (ts j)
 ne:∀ i j,i≠j→TkNe (ts i) (ts j)
 bc:∃ cs,g.hp B = some (.cells cs false)
 lt:B < g.nx
structure Frm1 (B:Nat) (g g':G):Prop where
 nx:g.nx≤g'.nx
 keep:∀ i,i < g.nx→i≠B→(∀ b,g.hp i≠some (.tok b))→g'.hp i = g.hp i
theorem Frm1.refl (B:Nat) (g:G):Frm1 B g g:=⟨Nat.le_refl _,fun _ _ _ _ => rfl⟩
theorem Frm1.trans {B:Nat} {g g1 g2:G} (h:Frm1 B g g1) (k:Frm1 B g1 g2):Frm1 B g g2:=
 ⟨Nat.le_trans h.nx k.nx,fun i hi hb ht => by
  have h1:=h.keep i hi hb ht
  rw[k.keep i (by have:=h.nx;omega) hb (fun b => by rw[h1];exact ht b),h1]⟩
theorem SkTs.alive {ts:Nat→Tok} {B:Nat} {g:G} (h:SkTs ts B g) {j i e:Nat} (ht:ts j = .own i e):g.hp i = some (.tok true)∧i < g.nx∧e = szT j∧i≠B:=by
 rcases h.ok j with h1 | ⟨i',h1,h2,h3⟩
 ·rw[ht] at h1;cases h1
 ·rw[ht] at h1;cases h1
  refine ⟨h2,h3,rfl,fun hb => ?_⟩
  obtain ⟨cs,hc⟩:=h.bc
  rw[hb,hc] at h2;cases h2
theorem SkTs.app {ts:Nat→Tok} {B:Nat} {g:G} (h:SkTs ts B g) {j id nA m:Nat} {t':Tok} {hpA hp':Nat→Option Blk} {cs:List AV} (hA:∀ i,i < g.nx→hpA i = g.hp i) (hid:g.nx≤id) (ar:AppR (szT j) id (ts j) t' ⟨hpA,nA⟩ hp') (hm:id < m):
  SkTs (upd ts j t') B ⟨upd hp' B (some (.cells cs false)),m⟩∧Frm1 B g ⟨upd hp' B (some (.cells cs false)),m⟩:=by
 have hBid:B≠id:=by have:=h.lt;omega
 have keep:∀ i,i < g.nx→(∀ e,ts j≠.own i e)→hp' i = g.hp i:=fun i hi hn => by rw[ar.keep i (by omega) hn];exact hA i hi
 refine ⟨⟨fun k => ?_,fun i k hik => ?_,⟨cs,by simp[upd]⟩,by show B < m;have:=h.lt;omega⟩,⟨by show g.nx≤m;omega,fun i hi hb ht => ?_⟩⟩
 ·by_cases hk:k = j
  ·subst hk
   rw[show upd ts k t' k = t' from if_pos rfl]
   rcases ar.tok with rfl | ⟨rfl,h1⟩
   ·exact .inl rfl
   ·exact .inr ⟨id,rfl,by show upd _ _ _ _ = _;rw[upd_ne _ _ (by omega)];exact h1,hm⟩
  ·rw[show upd ts j t' k = ts k from if_neg hk]
   rcases h.ok k with h1 | ⟨i,h1,h2,h3⟩
   ·exact .inl h1
   ·obtain ⟨_,_,_,hiB⟩:=h.alive h1
    exact .inr ⟨i,h1,by show upd _ _ _ _ = _;rw[upd_ne _ _ (by omega),keep i h3 (fun e he => h.ne k j hk i _ _ h1 he),h2],by show i < m;omega⟩
 ·have hnew:∀ k,k≠j→TkNe t' (ts k):=fun k hk => ar.ne fun e he => by have:=(h.alive he).2.1;omega
  by_cases hi:i = j
  ·subst hi
   rw[show upd ts i t' i = t' from if_pos rfl,show upd ts i t' k = ts k from if_neg (fun h => hik h.symm)]
   exact hnew k fun h => hik h.symm
  ·rw[show upd ts j t' i = ts i from if_neg hi]
   by_cases hk:k = j
   ·subst hk
    rw[show upd ts k t' k = t' from if_pos rfl]
    exact (hnew i hi).symm
   ·rw[show upd ts j t' k = ts k from if_neg hk]
    exact h.ne i k hik
 ·show upd _ _ _ _ = _
  rw[upd_ne _ _ hb]
  exact keep i hi fun e he => ht true (h.alive he).1
def skC (X:Gr) (ts:Nat→Tok):List AV:=[.i .i64 X.locs,.sl (evsC X.evs) X.evs.length (ts 0),.sl [] 0 .rig,.sl [] 0 .rig,.sl (pairsC X.rmw) X.rmw.length (ts 1),.sl (pairsC X.data) X.data.length (ts 2),.sl (pairsC X.ctrl) X.ctrl.length (ts 3),.sl [] 0 .rig]
structure SkAt (X:Gr) (B:Nat) (ts:Nat→Tok) (g:G):Prop where
 tk:SkTs ts B g
 cells:g.hp B = some (.cells (skC X ts) false)
def rnC (s:RS):List AV:=[.sl (evsC s.evs) s.evs.length .non,.sl (pairsC s.rmw) s.rmw.length .non,.sl (pairsC s.data) s.data.length .non,.sl (pairsC s.ctrl) s.ctrl.length .non,.sl [] 0 .rig,.i .i64 (s.used:Int),.sl (intsC s.regs) 8 .non]
structure LayS (X:Gr) (s:RS) (n:Nat) (B R:Nat) (g0:G) (ts:Nat→Tok) (e:Env) (g:G):Prop where
 sk:SkAt X B ts g
 e0:e 0 = .mp B 0
 e4:e 4 = .mp R 0
 e6:e 6 = .i .i64 ((n:Nat):Int)
 hr:g.hp R = some (.cells (rnC s) false)
 rb:R≠B
 rn:R < g.nx
 fr:Frm1 B g0 g
def SmP (l:List (Int × Int)):Prop:=∀ p∈l,0≤p.1∧p.1≤1000000∧0≤p.2∧p.2≤1000000
theorem gr6 (a b c d e f x:AV) (l:List AV):part (a :: b :: c :: d :: e :: f :: x :: l) 6 none = some x:=rfl
theorem gr7 (a b c d e f x y:AV) (l:List AV):part (a :: b :: c :: d :: e :: f :: x :: y :: l) 7 none = some y:=rfl
theorem lay_rmw (h121:F 121 = some A_xref07_moved) {X:Gr} {s:RS} {n B R:Nat} {g0:G} {ts:Nat→Tok} {e:Env} {g:G} {Q:Out→Env→G→Prop} (I:LayS X s n B R g0 ts e g) (hn:n≤1000) (hl:X.rmw.length≤100000) (hs:s.rmw.length≤100000) (hp:SmP s.rmw)
  (hQ:∀ e' g' ts',LayS { X with rmw:=X.rmw ++ movI s.rmw n } s n B R g0 ts' e' g'→Q .nrm e' g'):
  W F (.reg true [{ dst:=some 38,op:=.mv (.t 0) },{ dst:=some 39,op:=.mv (.t 0) },{ dst:=some 40,op:=.nilck (.t 39) },{ dst:=some 41,op:=.fa 4 (.t 40) },{ dst:=some 42,op:=.ld none (.t 41),pre:=[] },
    { dst:=some 43,op:=.fa 1 (.t 4) },{ dst:=some 44,op:=.ld none (.t 43),pre:=[] },{ dst:=some 45,op:=.mv (.t 6) },{ dst:=some 46,op:=.call .pure (.c (.fn 121 [] [])) [.t 44,.t 45],pre:=[] },
    { dst:=some 47,op:=.app 2 16 (.t 42) (.t 46),pre:=[] },{ dst:=some 48,op:=.nilck (.t 38) },{ dst:=some 49,op:=.fa 4 (.t 48) },{ dst:=none,op:=.st 1 (.t 49) (.t 47),pre:=[9] }]) e g Q:=by
 obtain ⟨⟨tk,hc⟩,e0,e4,e6,hr,rb,rn,fr⟩:=I
 have hB:=tk.lt
 have hmv:=sp7_moved h121 s.rmw (n:=(n:Int)) hs (by omega) hp
 have hml:=movI_len s.rmw (n:Int)
 unfold skC at hc
 have hr0:=hr
 unfold rnC at hr
 simp (disch:=omega) only[wp,qa,qb,qc,gl,e0,e4,e6,hc,hr,hmv,gr6,gr7]
 refine bindO_app ((tk.ok 1).mono (fun i hi => rfl) (by first | omega | (dsimp only;omega))) ?_ ⟨by omega,by omega,pairsC_len _,by rw[pairsC_len,hml]⟩ ?_
 ·intro i hi
  have:=(tk.alive hi).2.1
  exact allow_lt _ (by first | omega | (dsimp only;omega))
 ·intro t' hp' ar
  have ar2:=fun cs => tk.app (j:=1) (cs:=cs) (hA:=fun i hi => rfl) (by first | omega | (dsimp only;omega)) ar (m:=g.nx + 13) (by omega)
  have kp:∀ i cs ro,i < g.nx→g.hp i = some (.cells cs ro)→hp' i = some (.cells cs ro):=fun i cs ro hi hh => by
   rw[ar.keep i (by omega) (fun e' he => by have:=(tk.alive he).1;rw[hh] at this;cases this)]
   exact hh
  have hcB:=kp B _ _ hB hc
  have hcR:=kp R _ _ rn hr0
  simp (disch:=omega) only[wp,qa,qb,qc,gl,e0,e4,e6,hcB]
  refine hQ _ _ (upd ts 1 t') ⟨⟨?_,?_⟩,e0,e4,e6,?_,rb,by first | omega | (dsimp only;omega),?_⟩
  ·exact (ar2 _).1
  ·show upd _ _ _ _ = _
   rw[upd_same]
   simp[skC,upd,pairsC_app,hml]
  ·show upd _ _ _ _ = _
   rw[upd_ne _ _ rb];exact hcR
  ·exact fr.trans (ar2 _).2
theorem lay_data (h121:F 121 = some A_xref07_moved) {X:Gr} {s:RS} {n B R:Nat} {g0:G} {ts:Nat→Tok} {e:Env} {g:G} {Q:Out→Env→G→Prop} (I:LayS X s n B R g0 ts e g) (hn:n≤1000) (hl:X.data.length≤100000) (hs:s.data.length≤100000) (hp:SmP s.data)
  (hQ:∀ e' g' ts',LayS { X with data:=X.data ++ movI s.data n } s n B R g0 ts' e' g'→Q .nrm e' g'):
  W F (.reg true [{ dst:=some 50,op:=.mv (.t 0) },{ dst:=some 51,op:=.mv (.t 0) },{ dst:=some 52,op:=.nilck (.t 51) },{ dst:=some 53,op:=.fa 5 (.t 52) },{ dst:=some 54,op:=.ld none (.t 53),pre:=[] },
    { dst:=some 55,op:=.fa 2 (.t 4) },{ dst:=some 56,op:=.ld none (.t 55),pre:=[] },{ dst:=some 57,op:=.mv (.t 6) },{ dst:=some 58,op:=.call .pure (.c (.fn 121 [] [])) [.t 56,.t 57],pre:=[] },
    { dst:=some 59,op:=.app 2 16 (.t 54) (.t 58),pre:=[] },{ dst:=some 60,op:=.nilck (.t 50) },{ dst:=some 61,op:=.fa 5 (.t 60) },{ dst:=none,op:=.st 1 (.t 61) (.t 59),pre:=[9] }]) e g Q:=by
 obtain ⟨⟨tk,hc⟩,e0,e4,e6,hr,rb,rn,fr⟩:=I
 have hB:=tk.lt
 have hmv:=sp7_moved h121 s.data (n:=(n:Int)) hs (by omega) hp
 have hml:=movI_len s.data (n:Int)
 unfold skC at hc
 have hr0:=hr
 unfold rnC at hr
 simp (disch:=omega) only[wp,qa,qb,qc,gl,e0,e4,e6,hc,hr,hmv,gr6,gr7]
 refine bindO_app ((tk.ok 2).mono (fun i hi => rfl) (by first | omega | (dsimp only;omega))) ?_ ⟨by omega,by omega,pairsC_len _,by rw[pairsC_len,hml]⟩ ?_
 ·intro i hi
  have:=(tk.alive hi).2.1
  exact allow_lt _ (by first | omega | (dsimp only;omega))
 ·intro t' hp' ar
  have ar2:=fun cs => tk.app (j:=2) (cs:=cs) (hA:=fun i hi => rfl) (by first | omega | (dsimp only;omega)) ar (m:=g.nx + 13) (by omega)
  have kp:∀ i cs ro,i < g.nx→g.hp i = some (.cells cs ro)→hp' i = some (.cells cs ro):=fun i cs ro hi hh => by
   rw[ar.keep i (by omega) (fun e' he => by have:=(tk.alive he).1;rw[hh] at this;cases this)]
   exact hh
  have hcB:=kp B _ _ hB hc
  have hcR:=kp R _ _ rn hr0
  simp (disch:=omega) only[wp,qa,qb,qc,gl,e0,e4,e6,hcB]
  refine hQ _ _ (upd ts 2 t') ⟨⟨?_,?_⟩,e0,e4,e6,?_,rb,by first | omega | (dsimp only;omega),?_⟩
  ·exact (ar2 _).1
  ·show upd _ _ _ _ = _
   rw[upd_same]
   simp[skC,upd,pairsC_app,hml]
  ·show upd _ _ _ _ = _
   rw[upd_ne _ _ rb];exact hcR
  ·exact fr.trans (ar2 _).2
theorem lay_ctrl (h121:F 121 = some A_xref07_moved) {X:Gr} {s:RS} {n B R:Nat} {g0:G} {ts:Nat→Tok} {e:Env} {g:G} {Q:Out→Env→G→Prop} (I:LayS X s n B R g0 ts e g) (hn:n≤1000) (hl:X.ctrl.length≤100000) (hs:s.ctrl.length≤100000) (hp:SmP s.ctrl)
  (hQ:∀ e' g' ts',LayS { X with ctrl:=X.ctrl ++ movI s.ctrl n } s n B R g0 ts' e' g'→Q .nrm e' g'):
  W F (.reg true [{ dst:=some 62,op:=.mv (.t 0) },{ dst:=some 63,op:=.mv (.t 0) },{ dst:=some 64,op:=.nilck (.t 63) },{ dst:=some 65,op:=.fa 6 (.t 64) },{ dst:=some 66,op:=.ld none (.t 65),pre:=[] },
    { dst:=some 67,op:=.fa 3 (.t 4) },{ dst:=some 68,op:=.ld none (.t 67),pre:=[] },{ dst:=some 69,op:=.mv (.t 6) },{ dst:=some 70,op:=.call .pure (.c (.fn 121 [] [])) [.t 68,.t 69],pre:=[] },
    { dst:=some 71,op:=.app 2 16 (.t 66) (.t 70),pre:=[] },{ dst:=some 72,op:=.nilck (.t 62) },{ dst:=some 73,op:=.fa 6 (.t 72) },{ dst:=none,op:=.st 1 (.t 73) (.t 71),pre:=[9] }]) e g Q:=by
 obtain ⟨⟨tk,hc⟩,e0,e4,e6,hr,rb,rn,fr⟩:=I
 have hB:=tk.lt
 have hmv:=sp7_moved h121 s.ctrl (n:=(n:Int)) hs (by omega) hp
 have hml:=movI_len s.ctrl (n:Int)
 unfold skC at hc
 have hr0:=hr
 unfold rnC at hr
 simp (disch:=omega) only[wp,qa,qb,qc,gl,e0,e4,e6,hc,hr,hmv,gr6,gr7]
 refine bindO_app ((tk.ok 3).mono (fun i hi => rfl) (by first | omega | (dsimp only;omega))) ?_ ⟨by omega,by omega,pairsC_len _,by rw[pairsC_len,hml]⟩ ?_
 ·intro i hi
  have:=(tk.alive hi).2.1
  exact allow_lt _ (by first | omega | (dsimp only;omega))
 ·intro t' hp' ar
  have ar2:=fun cs => tk.app (j:=3) (cs:=cs) (hA:=fun i hi => rfl) (by first | omega | (dsimp only;omega)) ar (m:=g.nx + 13) (by omega)
  have kp:∀ i cs ro,i < g.nx→g.hp i = some (.cells cs ro)→hp' i = some (.cells cs ro):=fun i cs ro hi hh => by
   rw[ar.keep i (by omega) (fun e' he => by have:=(tk.alive he).1;rw[hh] at this;cases this)]
   exact hh
  have hcB:=kp B _ _ hB hc
  have hcR:=kp R _ _ rn hr0
  simp (disch:=omega) only[wp,qa,qb,qc,gl,e0,e4,e6,hcB]
  refine hQ _ _ (upd ts 3 t') ⟨⟨?_,?_⟩,e0,e4,e6,?_,rb,by first | omega | (dsimp only;omega),?_⟩
  ·exact (ar2 _).1
  ·show upd _ _ _ _ = _
   rw[upd_same]
   simp[skC,upd,pairsC_app,hml]
  ·show upd _ _ _ _ = _
   rw[upd_ne _ _ rb];exact hcR
  ·exact fr.trans (ar2 _).2
theorem ev_set0 (e:Ev) (t:Int):(evC e).set 0 (.i .i64 t) = evC (thE t e):=rfl
theorem frzL_evC (hp:Nat→Option Blk) (e:Ev):frzL hp depth (evC e) = some (evC e):=frzL_flat (d:=8) (evC_flat e)
theorem evsC_app (l m:List Ev):evsC (l ++ m) = evsC l ++ evsC m:=by simp[evsC]
theorem evs_take {l:List Ev} {k:Nat} (h:k < l.length):l.take (k + 1) = l.take k ++ [l.getD k ev0]:=by
 rw[List.take_add_one,List.getElem?_eq_getElem h,List.getD_eq_getElem?_getD,List.getElem?_eq_getElem h];rfl
structure LayL (X:Gr) (s:RS) (t:Int) (B R:Nat) (g0:G) (ts:Nat→Tok) (i:Nat) (e:Env) (g:G):Prop where
 hi:i≤s.evs.length
 l:LayS { X with evs:=X.evs ++ (s.evs.take i).map (thE t) } s X.evs.length B R g0 ts e g
 e2:e 2 = .i .i64 t
 e7:e 7 = .i .i64 ((i:Nat):Int)
theorem rp_lay (h105:F 105 = some A_xref07_Lay) (h121:F 121 = some A_xref07_moved) {X:Gr} {s:RS} {t:Int} {B:Nat} {ts:Nat→Tok} {g:G} (S:SkAt X B ts g) (hx:X.evs.length≤500) (hs:s.evs.length≤500)
  (l1:X.rmw.length≤100000) (l2:X.data.length≤100000) (l3:X.ctrl.length≤100000) (m1:s.rmw.length≤100000) (m2:s.data.length≤100000) (m3:s.ctrl.length≤100000) (p1:SmP s.rmw) (p2:SmP s.data) (p3:SmP s.ctrl):
  ∃ v g',callS F 105 [.mp B 0,.agg (rnC s),.i .i64 t] g = some (v,g')∧(∃ ts',SkAt (layX X s t) B ts' g')∧Frm1 B g g':=by
 refine raw_of (P:=fun v g' => (∃ ts',SkAt (layX X s t) B ts' g')∧Frm1 B g g') h105 ?_
 obtain ⟨tk,hc⟩:=S
 have hB:=tk.lt
 have hc0:=hc
 unfold skC at hc
 rw[show rnC s = [.sl (evsC s.evs) s.evs.length .non,.sl (pairsC s.rmw) s.rmw.length .non,.sl (pairsC s.data) s.data.length .non,.sl (pairsC s.ctrl) s.ctrl.length .non,.sl [] 0 .rig,.i .i64 (s.used:Int),.sl (intsC s.regs) 8 .non] from rfl]
 have tr5:∀ x:AV,List.replicate 5 x ++ [.b false] = [x,x,x,x,x,.b false]:=fun _ => rfl
 simp (disch:=omega) only[A_xref07_Lay,wp,qa,qb,qc,gl,hc]
 refine blk_cut (fun e g' => ∃ ts',LayL X s t B g.nx g ts' s.evs.length e g') ?_ ?_
 ·refine W_loop (fun q e g' => ∃ (i:Nat) (ts':Nat→Tok),q = s.evs.length - i∧LayL X s t B g.nx g ts' i e g') s.evs.length ?_ ?_
  ·refine ⟨0,ts,rfl,Nat.zero_le _,⟨⟨⟨fun j => (tk.ok j).mono (fun i hi => ?_) (by first | omega | (dsimp only;omega)),tk.ne,⟨_,(show upd _ _ _ _ = _ by rw[upd_ne _ _ (by omega)];exact hc0)⟩,by first | omega | (dsimp only;omega)⟩,?_⟩,rfl,rfl,rfl,?_,by omega,by first | omega | (dsimp only;omega),⟨by first | omega | (dsimp only;omega),fun i hi hb ht => ?_⟩⟩,rfl,rfl⟩
   ·have:=(tk.alive hi).2.1
    exact upd_ne _ _ (by omega)
   ·show upd _ _ _ _ = _
    rw[upd_ne _ _ (by omega),hc0]
    simp[skC]
   ·exact upd_same _ _ _
   ·exact upd_ne _ _ (by omega)
  ·rintro q e g1 ⟨i,ts',rfl,hi,⟨⟨tk,hc⟩,e0,e4,e6,hr,rb,rn,fr⟩,e2,e7⟩
   have hB1:=tk.lt
   have hr0:=hr
   unfold rnC at hr
   by_cases c1:i < s.evs.length
   ·have c1':((i:Nat):Int) < ((s.evs.length:Nat):Int):=by omega
    have hev:=ev_part c1
    have hw:=succ_wrap (k:=i) (by omega)
    have hln:(evsC (X.evs ++ (s.evs.take i).map (thE t))).length = (X.evs ++ (s.evs.take i).map (thE t)).length * 6:=evsC_len _
    have hll:(X.evs ++ (s.evs.take i).map (thE t)).length≤1000:=by rw[List.length_append,List.length_map,List.length_take];omega
    have hnx:X.evs ++ (s.evs.take (i + 1)).map (thE t) = (X.evs ++ (s.evs.take i).map (thE t)) ++ [thE t (s.evs.getD i ev0)]:=by rw[evs_take c1,List.map_append,List.append_assoc];rfl
    generalize s.evs.getD i ev0 = ev at hev hnx
    generalize hE:X.evs ++ (s.evs.take i).map (thE t) = E at hc hln hll hnx
    unfold skC at hc
    dsimp only at hc
    simp (disch:=omega) only[wp,qa,qb,qc,gl,e0,e2,e4,e6,e7,hc,hr,c1',hev,gr6,gr7,ev_set0,frzL_evC]
    refine bindO_app (esz:=6) ((tk.ok 0).mono (fun i hi => ?_) (by first | omega | (dsimp only;omega))) ?_ ⟨by omega,by omega,by omega,by first | rfl | (rw[evC_len])⟩ ?_
    ·have:=(tk.alive hi).2.1
     simp (disch:=omega) only[upd_ne]
    ·intro i hi
     have:=(tk.alive hi).2.1
     exact allow_lt _ (by first | omega | (dsimp only;omega))
    ·intro t' hp' ar
     have ar2:=fun cs => tk.app (j:=0) (cs:=cs) (fun i hi => ?_) (by first | omega | (dsimp only;omega)) ar (m:=g1.nx + 5 + 7 + 3 + 11 + 3) (by omega)
     rotate_left
     ·simp (disch:=omega) only[upd_ne]
     have kp:∀ i cs ro,i < g1.nx→g1.hp i = some (.cells cs ro)→hp' i = some (.cells cs ro):=fun i cs ro hi hh => by
      rw[ar.keep i (by omega) (fun e' he => by have:=(tk.alive he).1;rw[hh] at this;cases this)]
      simp (disch:=omega) only[upd_ne]
      exact hh
     have hcB:=kp B _ _ hB1 hc
     have hcR:=kp g.nx _ _ rn hr0
     simp (disch:=omega) only[wp,qa,qb,qc,gl,e0,e2,e4,e6,e7,hcB,hw]
     refine ⟨s.evs.length - (i + 1),by omega,i + 1,upd ts' 0 t',rfl,by omega,⟨⟨(ar2 _).1,?_⟩,e0,e4,e6,?_,rb,by first | omega | (dsimp only;omega),fr.trans (ar2 _).2⟩,e2,rfl⟩
     ·show upd _ _ _ _ = _
      rw[upd_same,hnx]
      simp[skC,upd,evsC_app]
      rfl
     ·show upd _ _ _ _ = _
      rw[upd_ne _ _ rb];exact hcR
   ·have c1':¬ ((i:Nat):Int) < ((s.evs.length:Nat):Int):=by omega
    obtain rfl:i = s.evs.length:=by omega
    simp (disch:=omega) only[wp,qa,qb,qc,gl,e0,e4,e6,e7,hr,c1',gr6,gr7]
    refine ⟨ts',Nat.le_refl _,⟨⟨⟨fun j => (tk.ok j).mono (fun i hi => rfl) (by first | omega | (dsimp only;omega)),tk.ne,tk.bc,by first | omega | (dsimp only;omega)⟩,hc⟩,e0,e4,e6,hr0,rb,by first | omega | (dsimp only;omega),⟨by have:=fr.nx;first | omega | (dsimp only;omega),fr.keep⟩⟩,e2,e7⟩
 ·rintro e g1 ⟨ts1,_,I,e2,e7⟩
  rw[List.take_length] at I
  rw[W_seq]
  refine lay_rmw h121 I (by omega) l1 m1 p1 fun e g2 ts2 I => ?_
  rw[thenQ_nrm,W_seq]
  refine lay_data h121 I (by omega) l2 m2 p2 fun e g3 ts3 I => ?_
  rw[thenQ_nrm,W_seq]
  refine lay_ctrl h121 I (by omega) l3 m3 p3 fun e g4 ts4 I => ?_
  rw[thenQ_nrm]
  obtain ⟨⟨tk,hc⟩,e0,e4,e6,hr,rb,rn,fr⟩:=I
  have hB:=tk.lt
  have hmv:=sp7_moved h121 [] (n:=(X.evs.length:Int)) (by simp) (by omega) (fun p hp => absurd hp (List.not_mem_nil))
  simp only[movI,pairsC,List.map_nil,List.flatMap_nil,List.length_nil] at hmv
  have hc0:=hc
  unfold skC at hc
  unfold rnC at hr
  simp (disch:=omega) only[wp,qa,qb,qc,gl,e0,e4,e6,hc,hr,hmv,gr6,gr7]
  refine ⟨_,rfl,⟨ts4,⟨fun j => (tk.ok j).mono (fun i hi => ?_) (by first | omega | (dsimp only;omega)),tk.ne,⟨_,upd_same _ _ _⟩,by first | omega | (dsimp only;omega)⟩,?_⟩,⟨by have:=fr.nx;first | omega | (dsimp only;omega),fun i hi hb ht => ?_⟩⟩
  ·have:=(tk.alive hi).2.2.2
   exact upd_ne _ _ (by omega)
  ·show upd _ _ _ _ = _
   rw[upd_same]
   simp[skC,layX]
  ·show upd _ _ _ _ = _
   rw[upd_ne _ _ hb]
   exact fr.keep i hi hb ht
end Go.Ab
end
section
set_option linter.unusedVariables false
set_option linter.unusedSimpArgs false
namespace Go.Ab
variable {F:Funs}
def fsT (id:Nat):Nat→Tok:=fun j => if j = 0 then .own id 6 else .rig
def fsE (k:Nat):List Ev:=(List.range k).map wE
theorem fsE_succ (k:Nat):fsE (k + 1) = fsE k ++ [wE k]:=by simp[fsE,List.range_succ]
theorem fsE_len (k:Nat):(fsE k).length = k:=by simp[fsE]
def fsC (k:Nat) (t:Tok):List AV:=[.i .i64 2,.sl (evsC (fsE k)) k t,.sl [] 0 .rig,.sl [] 0 .rig,.sl [] 0 .rig,.sl [] 0 .rig,.sl [] 0 .rig,.sl [] 0 .rig]
structure FsI (g0:G) (C D k:Nat) (t:Tok) (e:Env) (g:G):Prop where
 hk:k≤2
 e0:e 0 = .i .i64 2
 e2:e 2 = .mp D 0
 e3:e 3 = .mp C 0
 e4:e 4 = .i .i64 ((k:Nat):Int)
 hc:g.hp C = some (.cells (fsC k t) false)
 hd:∃ cs,g.hp D = some (.cells cs false)∧cs.length = 8
 tk:TkOk 6 g t
 tn:1≤k→t≠.rig
 told:∀ i,t = .own i 6→g0.nx≤i
 cd:g0.nx≤C∧g0.nx≤D∧C < g.nx∧D < g.nx∧C≠D
 nx:g0.nx≤g.nx
 fr:∀ i,i < g0.nx→g.hp i = g0.hp i
theorem wE_build (k:Nat):splice [AV.i .i64 0,.i .i64 2,.i .i64 0,.i .i64 0,.i .i64 0,.b false] 3 [.i .i64 ((k:Nat):Int)] = evC (wE k):=rfl
theorem rp_first (h103:F 103 = some A_xref07_First) (g:G):
  ∃ v g',callS F 103 [.i .i64 2] g = some (v,g')∧(∃ id,v = .agg (skC sk0 (fsT id))∧g'.hp id = some (.tok true)∧g.nx≤id∧id < g'.nx)∧g.nx≤g'.nx∧∀ i,i < g.nx→g'.hp i = g.hp i:=by
 refine raw_of (P:=fun v g' => (∃ id,v = .agg (skC sk0 (fsT id))∧g'.hp id = some (.tok true)∧g.nx≤id∧id < g'.nx)∧g.nx≤g'.nx∧∀ i,i < g.nx→g'.hp i = g.hp i) h103 ?_
 have l7:∀ x:AV,List.replicate 7 x = [x,x,x,x,x,x,x]:=fun _ => rfl
 have l5:∀ x:AV,List.replicate 5 x = [x,x,x,x,x]:=fun _ => rfl
 have s8:∀ b1 b2 b3 b4 b5 b6 b7 b8 c1 c2 c3 c4 c5 c6 c7 c8:AV,splice [b1,b2,b3,b4,b5,b6,b7,b8] 0 [c1,c2,c3,c4,c5,c6,c7,c8] = [c1,c2,c3,c4,c5,c6,c7,c8]:=fun _ _ _ _ _ _ _ _ _ _ _ _ _ _ _ _ => rfl
 have s6:∀ b1 b2 b3 b4 b5 b6 c1 c2 c3 c4 c5 c6:AV,splice [b1,b2,b3,b4,b5,b6] 0 [c1,c2,c3,c4,c5,c6] = [c1,c2,c3,c4,c5,c6]:=fun _ _ _ _ _ _ _ _ _ _ _ _ => rfl
 have p8:∀ c1 c2 c3 c4 c5 c6 c7 c8:AV,part [c1,c2,c3,c4,c5,c6,c7,c8] 0 (some 8) = some (.agg [c1,c2,c3,c4,c5,c6,c7,c8]):=fun _ _ _ _ _ _ _ _ => rfl
 simp (disch:=omega) only[A_xref07_First,wp,qa,qb,qc,gl,l7,s8]
 refine blk_cut (fun e g' => ∃ t,FsI g (g.nx + 1 + 2) g.nx 2 t e g') ?_ ?_
 ·refine W_loop (fun q e g' => ∃ (k:Nat) (t:Tok),q = 2 - k∧FsI g (g.nx + 1 + 2) g.nx k t e g') 2 ?_ ?_
  ·refine ⟨0,.rig,rfl,by omega,rfl,rfl,rfl,rfl,upd_same _ _ _,?_,.inl rfl,by omega,fun i h => (by cases h),⟨by omega,by omega,by first | omega | (dsimp only;omega),by first | omega | (dsimp only;omega),by omega⟩,by first | omega | (dsimp only;omega),fun i hi => ?_⟩
   ·exact ⟨[.i .i64 0,.sl [] 0 .rig,.sl [] 0 .rig,.sl [] 0 .rig,.sl [] 0 .rig,.sl [] 0 .rig,.sl [] 0 .rig,.sl [] 0 .rig],by simp (disch:=omega) only[upd_ne,upd_same],rfl⟩
   ·simp (disch:=omega) only[upd_ne]
  ·rintro q e g1 ⟨k,t,rfl,hk,e0,e2,e3,e4,hc,⟨ds,hd,hdl⟩,tk,tn,told,⟨a1,a2,a3,a4,a5⟩,hx,fr⟩
   by_cases c1:k < 2
   ·have c1':((k:Nat):Int) < 2:=by omega
    have hw:=succ_wrap (k:=k) (by omega)
    have hel:(evsC (fsE k)).length = k * 6:=by rw[evsC_len,fsE_len]
    unfold fsC at hc
    simp (disch:=omega) only[wp,qa,qb,qc,gl,e0,e2,e3,e4,hc,c1',l5,s6,wE_build,frzL_evC]
    refine bindO_app1 (esz:=6) (tk.mono (fun i hi => rfl) (by first | omega | (dsimp only;omega))) (fun i hi => allow_no _ _ _) ⟨by omega,by omega,hel,rfl⟩ ?_
    intro t' hp' ar hpos
    obtain ⟨rfl,hlive⟩:=hpos (by omega)
    have kp:∀ i,i < g1.nx→(∀ b,g1.hp i≠some (.tok b))→hp' i = g1.hp i:=fun i hi hb => by
     refine ar.keep i (by omega) fun e' he => ?_
     rcases tk with h | ⟨i',h,h1,h2⟩
     ·rw[h] at he;cases he
     ·rw[h] at he;cases he;exact hb true h1
    have hcC:=(kp (g.nx + 1 + 2) a3 (fun b h => by rw[hc] at h;cases h)).trans hc
    have hcD:=(kp g.nx a4 (fun b h => by rw[hd] at h;cases h)).trans hd
    simp (disch:=omega) only[wp,qa,qb,qc,gl,e0,e2,e3,e4,hcC,hw]
    refine ⟨2 - (k + 1),by omega,k + 1,.own (g1.nx + 3 + 5) 6,rfl,by omega,e0,e2,e3,rfl,?_,⟨ds,?_,hdl⟩,.inr ⟨_,rfl,?_,?_⟩,by simp,fun i h => by cases h;omega,⟨a1,a2,by first | omega | (dsimp only;omega),by first | omega | (dsimp only;omega),a5⟩,by first | omega | (dsimp only;omega),fun i hi => ?_⟩
    ·show upd _ _ _ _ = _
     rw[upd_same,fsC,fsE_succ,evsC_app]
     rfl
    ·show upd _ _ _ _ = _
     rw[upd_ne _ _ (by omega)];exact hcD
    ·show upd _ _ _ _ = _
     rw[upd_ne _ _ (by omega)];exact hlive
    ·first | omega | (dsimp only;omega)
    ·show upd _ _ _ _ = _
     rw[upd_ne _ _ (by omega),ar.keep i (by omega) (fun e' he => ?_)]
     ·exact fr i hi
     ·rcases tk with h | ⟨i',h,h1,h2⟩
      ·rw[h] at he;cases he
      ·have:=told i' h
       rw[h] at he;cases he;omega
   ·have c1':¬ ((k:Nat):Int) < 2:=by omega
    obtain rfl:k = 2:=by omega
    simp (disch:=omega) only[wp,qa,qb,qc,gl,e0,e2,e3,e4,c1']
    exact ⟨t,Nat.le_refl _,e0,e2,e3,e4,hc,⟨ds,hd,hdl⟩,tk.mono (fun i hi => rfl) (by first | omega | (dsimp only;omega)),tn,told,⟨a1,a2,by first | omega | (dsimp only;omega),by first | omega | (dsimp only;omega),a5⟩,by first | omega | (dsimp only;omega),fr⟩
 ·rintro e g1 ⟨t,hk,e0,e2,e3,e4,hc,⟨ds,hd,hdl⟩,tk,tn,told,⟨a1,a2,a3,a4,a5⟩,hx,fr⟩
  rcases tk with rfl | ⟨id,rfl,hlive,hlt⟩
  ·exact absurd rfl (tn (by omega))
  ·have hid:=told id rfl
   have hn1:id≠g.nx:=fun h => by rw[h,hd] at hlive;cases hlive
   unfold fsC at hc
   have ds8:∃ b1 b2 b3 b4 b5 b6 b7 b8,ds = [b1,b2,b3,b4,b5,b6,b7,b8]:=by
    match ds,hdl with
    | [b1,b2,b3,b4,b5,b6,b7,b8],_ => exact ⟨b1,b2,b3,b4,b5,b6,b7,b8,rfl⟩
   obtain ⟨b1,b2,b3,b4,b5,b6,b7,b8,rfl⟩:=ds8
   simp (disch:=omega) only[wp,qa,qb,qc,gl,e2,e3,hc,hd,p8,s8,res_cell,resC]
   refine ⟨_,rfl,⟨id,?_,?_,hid,by first | omega | (dsimp only;omega)⟩,by first | omega | (dsimp only;omega),fun i hi => ?_⟩
   ·simp[skC,sk0,fsT,fsE,pairsC]
    rfl
   ·simp (disch:=omega) only[upd_ne];exact hlive
   ·simp (disch:=omega) only[upd_ne];exact fr i hi
end Go.Ab
end
section
set_option linter.unusedVariables false
set_option linter.unusedSimpArgs false
namespace Go.Ab
variable {F:Funs}
def skX (ths:List (List Ins)) (lots:List (List Int)):Nat→Gr
 | 0 => sk0
 | i + 1 => layX (skX ths lots i) (doR evX (ths.getD i []) (lots.getD i [])) ((i:Int) + 1)
structure HdOk (th:List Ins) (l:List Int):Prop where
 sh:(doR evX th l).short = false
 us:(doR evX th l).used = l.length
 ln:l.length≤1000
structure LotOk (ths:List (List Ins)) (lots:List (List Int)):Prop where
 len:lots.length = ths.length
 ok:∀ i,i < ths.length→HdOk (ths.getD i []) (lots.getD i [])
theorem skX_inv {ths lots} (hk:∀ i,i < ths.length→ThK (ths.getD i [])):∀ i,i≤ths.length→SkInv (skX ths lots i) (i:Int)∧(skX ths lots i).evs.length≤2 + 24 * i∧(skX ths lots i).rf = []∧(skX ths lots i).co = []
 | 0,_ => ⟨sk0_inv,by simp[skX,sk0],rfl,rfl⟩
 | i + 1,h => by
   obtain ⟨h1,h2,h3,h4⟩:=skX_inv hk i (by omega)
   have hth:=hk i (by omega)
   obtain ⟨r1,r2⟩:=doR_inv (V:=evX) (th:=ths.getD i []) (reads:=lots.getD i []) (fun k hkk => ⟨_,hth.ins k hkk⟩)
   have hl:=hth.len
   refine ⟨?_,?_,h3,h4⟩
   ·have:=h1.lay (by omega) r1
    exact_mod_cast this
   ·show ((skX ths lots i).evs ++ (doR evX (ths.getD i []) (lots.getD i [])).evs.map (thE ((i:Int) + 1))).length≤_
    rw[List.length_append,List.length_map]
    omega
theorem DpL.sm {es:List Ev} {l:List (Int × Int)} (h:DpL es l) (hn:es.length≤1000000):SmP l:=fun p hp => by
 obtain ⟨a,b,c,_⟩:=h.1 p hp
 omega
theorem RmL.sm {es:List Ev} {l:List (Int × Int)} (h:RmL es l) (hn:es.length≤1000000):SmP l:=fun p hp => by
 obtain ⟨a,b,c,_⟩:=h.pairs p hp
 omega
structure SnI (ths:List (List Ins)) (lots:List (List Int)) (B i:Nat) (e:Env) (g:G):Prop where
 hi:i≤ths.length
 e1:e 1 = .sl (coC lots) lots.length .non
 e2:e 2 = .mp 0 0
 e4:e 4 = .mp 1 0
 e6:e 6 = .mp B 0
 e7:e 7 = .i .i64 ((i:Nat):Int)
 h0:g.hp 0 = some (.cells [.i .i64 2,.sl (thsC ths) ths.length .non] false)
 h1:g.hp 1 = some (.cells [.i .i64 0,.sl [] 0 .rig,.sl [] 0 .rig,.sl [] 0 .rig,.sl [] 0 .rig,.sl [] 0 .rig,.sl [] 0 .rig,.sl [] 0 .rig] false)
 sk:∃ ts,SkAt (skX ths lots i) B ts g
 b2:2≤B
theorem Frm1.cells {B:Nat} {g g':G} (h:Frm1 B g g') {i:Nat} {cs:List AV} {ro:Bool} (hi:i < g.nx) (hb:i≠B) (hc:g.hp i = some (.cells cs ro)):g'.hp i = some (.cells cs ro):=by
 rw[h.keep i hi hb (fun b hh => by rw[hc] at hh;cases hh)];exact hc
theorem SkAt.mono {X:Gr} {B:Nat} {ts:Nat→Tok} {g:G} {hp':Nat→Option Blk} {m:Nat} (h:SkAt X B ts g) (hk:∀ i,i < g.nx→hp' i = g.hp i) (hm:g.nx≤m):SkAt X B ts ⟨hp',m⟩:=
 ⟨⟨fun j => (h.tk.ok j).mono (fun i hi => hk i (h.tk.alive hi).2.1) hm,h.tk.ne,⟨_,(hk B h.tk.lt).trans h.cells⟩,Nat.lt_of_lt_of_le h.tk.lt hm⟩,(hk B h.tk.lt).trans h.cells⟩
theorem frz_sk (hp) {X:Gr} (ts:Nat→Tok) (h1:X.rf = []) (h2:X.co = []) (h3:X.ctrli = []) (c:Int):frz hp depth (.tup [.agg (skC X ts),.i .i64 c]) = some (.tup [.agg (grC X),.i .i64 c]):=by
 show frz hp (8 + 1) _ = _
 simp only[frz,frzL,skC,Option.map_some,grC,h1,h2,h3]
 rfl
theorem sp7_skel (A:ChF F) (D:RunF F) (h90:F 90 = some A_xref07_Skeleton) (h103:F 103 = some A_xref07_First) (h105:F 105 = some A_xref07_Lay) (h121:F 121 = some A_xref07_moved)
  {ths:List (List Ins)} {lots:List (List Int)} {L:Nat} (P:PgK ths L) (hlot:LotOk ths lots):
  pureS F 90 [.agg [.i .i64 2,.sl (thsC ths) ths.length .non],.sl (coC lots) lots.length .non] = some (.tup [.agg (grC (skX ths lots ths.length)),.i .i64 0]):=by
 refine pure_of h90 ?_
 have hck:=sp4_check A P
 have l7:∀ x:AV,List.replicate 7 x = [x,x,x,x,x,x,x]:=fun _ => rfl
 have l5:∀ x:AV,List.replicate 5 x = [x,x,x,x,x]:=fun _ => rfl
 have s8:∀ b1 b2 b3 b4 b5 b6 b7 b8 c1 c2 c3 c4 c5 c6 c7 c8:AV,splice [b1,b2,b3,b4,b5,b6,b7,b8] 0 [c1,c2,c3,c4,c5,c6,c7,c8] = [c1,c2,c3,c4,c5,c6,c7,c8]:=fun _ _ _ _ _ _ _ _ _ _ _ _ _ _ _ _ => rfl
 have s7:∀ b1 b2 b3 b4 b5 b6 b7 c1 c2 c3 c4 c5 c6 c7:AV,splice [b1,b2,b3,b4,b5,b6,b7] 0 [c1,c2,c3,c4,c5,c6,c7] = [c1,c2,c3,c4,c5,c6,c7]:=fun _ _ _ _ _ _ _ _ _ _ _ _ _ _ => rfl
 have p8:∀ c1 c2 c3 c4 c5 c6 c7 c8:AV,part [c1,c2,c3,c4,c5,c6,c7,c8] 0 (some 8) = some (.agg [c1,c2,c3,c4,c5,c6,c7,c8]):=fun _ _ _ _ _ _ _ _ => rfl
 have f2:∀ hp,frz hp depth (.agg [.i .i64 2,.sl (thsC ths) ths.length .non]) = some (.agg [.i .i64 2,.sl (thsC ths) ths.length .non]):=fun hp => by
  refine frz_d_agg ?_
  show frzL _ (7 + 1) _ = _
  simp only[frzL,frz]
 simp (disch:=omega) only[A_xref07_Skeleton,wp,qa,qb,qc,gl,l7,hck,f2,Int.reduceBNe]
 refine bindO_call (P:=fun v g' => (∃ id,v = .agg (skC sk0 (fsT id))∧g'.hp id = some (.tok true)∧11≤id∧id < g'.nx)∧11≤g'.nx∧g'.hp 0 = some (.cells [.i .i64 2,.sl (thsC ths) ths.length .non] false)∧g'.hp 1 = some (.cells [.i .i64 0,.sl [] 0 .rig,.sl [] 0 .rig,.sl [] 0 .rig,.sl [] 0 .rig,.sl [] 0 .rig,.sl [] 0 .rig,.sl [] 0 .rig] false)) ?_ ?_
 ·obtain ⟨v,g',h1,⟨id,h2,h3,h4,h5⟩,h6,h7⟩:=rp_first h103 _
  exact ⟨v,g',h1,⟨id,h2,h3,h4,h5⟩,h6,by rw[h7 0 (by dsimp only;omega)];rfl,by rw[h7 1 (by dsimp only;omega)];rfl⟩
 ·rintro v g2 ⟨⟨id,rfl,hlive,hid,hlt⟩,hx,h0,h1⟩
  rw[skC]
  simp (disch:=omega) only[wp,qa,qb,qc,gl,s8,h0,h1]
  refine blk_cut (fun e g => SnI ths lots 9 ths.length e g) ?_ ?_
  ·refine W_loop (fun q e g => ∃ i:Nat,q = ths.length - i∧SnI ths lots 9 i e g) ths.length ?_ ?_
   ·refine ⟨0,rfl,Nat.zero_le _,rfl,rfl,rfl,rfl,rfl,?_,?_,⟨fsT id,⟨fun j => ?_,fun i j hij => ?_,⟨skC (skX ths lots 0) (fsT id),?_⟩,by first | omega | (dsimp only;omega)⟩,?_⟩,by omega⟩
    ·simp (disch:=omega) only[upd_ne];exact h0
    ·simp (disch:=omega) only[upd_ne];exact h1
    ·unfold fsT
     by_cases hj:j = 0
     ·subst hj
      refine .inr ⟨id,rfl,?_,by first | omega | (dsimp only;omega)⟩
      simp (disch:=omega) only[upd_ne];exact hlive
     ·rw[if_neg hj];exact .inl rfl
    ·unfold fsT
     by_cases hi:i = 0
     ·subst hi
      rw[if_pos rfl,if_neg (fun h => hij h.symm)];exact TkNe.rig_r
     ·rw[if_neg hi];exact TkNe.rig_l
    ·simp (disch:=omega) only[upd_same];rfl
    ·simp (disch:=omega) only[upd_same];rfl
   ·rintro q e g ⟨i,rfl,hi,e1,e2,e4,e6,e7,h0,h1,⟨ts,S⟩,hB⟩
    by_cases c1:i < ths.length
    ·have c1':((i:Nat):Int) < ((ths.length:Nat):Int):=by omega
     have c2':((i:Nat):Int) < ((lots.length:Nat):Int):=by have:=hlot.len;omega
     have hth:=th_at c1
     have hlt2:=co_part (l:=lots) (k:=i) (by have:=hlot.len;omega)
     have hwi:=succ_wrap (k:=i) (by have:=P.four;omega)
     obtain ⟨inv,il,_,_⟩:=skX_inv (lots:=lots) P.th i hi
     have hdo:=rp_do D (vok A.ex) (P.th i c1) (lots.getD i []) .non (hlot.ok i c1).ln
     obtain ⟨r1,r2⟩:=doR_inv (V:=evX) (th:=ths.getD i []) (reads:=lots.getD i []) (fun k hkk => ⟨_,(P.th i c1).ins k hkk⟩)
     have hl:=(P.th i c1).len
     have hsh:=(hlot.ok i c1).sh
     have hus:=(hlot.ok i c1).us
     have hsx:skX ths lots (i + 1) = layX (skX ths lots i) (doR evX (ths.getD i []) (lots.getD i [])) ((i:Int) + 1):=rfl
     have h4:=P.four
     generalize ths.getD i [] = th at hth hdo r1 r2 hl hsh hus hsx
     generalize lots.getD i [] = lot at hlt2 hdo r1 r2 hsh hus hsx
     generalize doR evX th lot = s at hdo r1 r2 hsh hus hsx
     generalize skX ths lots i = X at inv il S hsx
     rw[hsh] at hdo
     unfold roC at hdo
     rw[hsh] at hdo
     simp only[Bool.false_eq_true,if_false,Bool.not_false] at hdo
     have c3:(((s.used:Nat):Int) != ((lot.length:Nat):Int)) = false:=by rw[hus];simp
     simp (disch:=omega) only[wp,qa,qb,qc,gl,e1,e2,e4,e6,e7,h0,c1',c2',hth,hlt2,hdo,s7,c3,l5,List.getElem?_cons_zero,List.getElem?_cons_succ,i7_0,hwi]
     have hBn:=S.tk.lt
     have hsq1:X.evs.length * X.evs.length≤98 * 98:=Nat.mul_le_mul (by omega) (by omega)
     have hsq2:s.evs.length * s.evs.length≤24 * 24:=Nat.mul_le_mul (by omega) (by omega)
     have hd1:=inv.dl
     have hd2:=inv.cl
     have hd3:=inv.rmw.len
     have hs1:=r1.b.dl
     have hs2:=r1.b.cl
     have hs3:=r1.rmw.len
     have hlay:∀ g1:G,SkAt X 9 ts g1→∃ v g',callS F 105 [.mp 9 0,.agg (rnC s),.i .i64 ((i + 1:Nat):Int)] g1 = some (v,g')∧(∃ ts',SkAt (skX ths lots (i + 1)) 9 ts' g')∧Frm1 9 g1 g':=fun g1 S1 => by
      rw[hsx,show ((i + 1:Nat):Int) = (i:Int) + 1 by omega]
      exact rp_lay h105 h121 S1 (by omega) (by omega) (by omega) (by omega) (by omega) (by omega) (by omega) (by omega) (r1.rmw.sm (by omega)) (r1.b.data.sm (by omega)) (r1.b.ctrl.sm (by omega))
     rw[rnC] at hlay
     refine bindO_call _ (hlay _ (S.mono ?_ ?_)) ?_
     ·intro i hi
      simp (disch:=omega) only[upd_ne]
     ·first | omega | (dsimp only;omega)
     rintro v g3 ⟨⟨ts3,S3⟩,fr⟩
     have h03:=fr.cells (i:=0) (by first | omega | (dsimp only;omega)) (by omega) (by simp (disch:=omega) only[upd_ne];exact h0)
     have h13:=fr.cells (i:=1) (by first | omega | (dsimp only;omega)) (by omega) (by simp (disch:=omega) only[upd_ne];exact h1)
     simp (disch:=omega) only[wp,qa,qb,qc,gl,e7,hwi]
     exact ⟨ths.length - (i + 1),by omega,i + 1,rfl,by omega,e1,e2,e4,e6,rfl,h03,h13,⟨ts3,S3.mono (fun i hi => rfl) (by first | omega | (dsimp only;omega))⟩,hB⟩
    ·have c1':¬ ((i:Nat):Int) < ((ths.length:Nat):Int):=by omega
     obtain rfl:i = ths.length:=by omega
     simp (disch:=omega) only[wp,qa,qb,qc,gl,e2,e4,e6,e7,h0,c1']
     exact ⟨Nat.le_refl _,e1,e2,e4,e6,e7,h0,h1,⟨ts,⟨fun j => (S.tk.ok j).mono (fun i hi => rfl) (by first | omega | (dsimp only;omega)),S.tk.ne,S.tk.bc,by have:=S.tk.lt;first | omega | (dsimp only;omega)⟩,S.cells⟩,hB⟩
  ·rintro e g ⟨_,e1,e2,e4,e6,e7,h0,h1,⟨ts,S⟩,hB⟩
   have hc:=S.cells
   have hlt:=S.tk.lt
   obtain ⟨inv,il,hrf,hco⟩:=skX_inv (lots:=lots) P.th ths.length (Nat.le_refl _)
   have hz:=frz_sk (fun x => none) ts hrf hco inv.ctrli 0
   rw[skC] at hc hz
   simp (disch:=omega) only[wp,qa,qb,qc,gl,e2,e4,e6,hc,h1,p8,s8]
   refine retC7 (b:=1) (ro:=false) (w:=.i .i64 0) e4 rfl (p8 ..) rfl ?_
   exact frz_sk _ ts hrf hco inv.ctrli 0
end Go.Ab
end
