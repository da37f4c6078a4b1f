/- What ImmNumbers rests on, part 5: lemmas, no claim of its own. -/
import Derived.Test.YthafjhelijmpcaaGreatPImmNumbers4
set_option maxRecDepth 100000
set_option maxHeartbeats 16000000
open Nat renaming reduceAdd → qa, reduceMul → qb, reduceSub → qc
section
set_option linter.unusedVariables false
set_option linter.unusedSimpArgs false
namespace Go.Ab
variable {F:Funs}
theorem coC_app (l m:List (List Int)):coC (l ++ m) = coC l ++ coC m:=by simp[coC]
structure VlOk (th:List Ins) (dom:List Int) (l:List Int):Prop where
 ok:HdOk th l
 dom:∀ x∈l,x∈dom
def VsP (th:List Ins) (dom:List Int) (g:G) (v:AV) (g':G):Prop:=∃ L t,v = .sl (coC L) L.length t∧TkOk 1 g' t∧(∀ h∈L,VlOk th dom h)∧L.length≤20001∧g.nx≤g'.nx
structure VsI (th:List Ins) (dom head:List Int) (g0:G) (i:Nat) (out:List (List Int)) (t:Tok) (e:Env) (g:G):Prop where
 hi:i≤dom.length
 e0:e 0 = .sl (insLC th) th.length .non
 e1:e 1 = .sl (intsC dom) dom.length .non
 e2:∃ w,e 2 = .sl (intsC head) head.length w
 e3:e 3 = .sl (coC out) out.length t
 e11:e 11 = .i .i64 ((i:Nat):Int)
 tk:TkOk 1 g t
 ok:∀ h∈out,VlOk th dom h
 ol:out.length≤20001
 nx:g0.nx≤g.nx
theorem rp_valuesF (A:ChF F) (D:RunF F) (h101:F 101 = some A_xref13_values) {th:List Ins} (hth:ThK th) {dom:List Int} (head:List Int) (w:Tok) (out:List (List Int)) (t:Tok) (g:G)
  (hh:head.length≤100) (hu:(doR evX th head).used = head.length) (hdm:∀ x∈head,x∈dom) (tk:TkOk 1 g t) (hok:∀ h∈out,VlOk th dom h) (hol:out.length≤20000) (hsh:(doR evX th head).short = false):
  ∃ v g',callS F 101 [.sl (insLC th) th.length .non,.sl (intsC dom) dom.length .non,.sl (intsC head) head.length w,.sl (coC out) out.length t] g = some (v,g')∧VsP th dom g v g':=by
 refine raw_of h101 ?_
 have hdo:=rp_do D (vok A.ex) hth head .non (by omega)
 have hl:=hth.len
 have l5:∀ x:AV,List.replicate 5 x = [x,x,x,x,x]:=fun _ => rfl
 have s7:∀ b1 b2 b3 b4 b5 b6 b7 c1 c2 c3 c4 c5 c6 c7:AV,splice [b1,b2,b3,b4,b5,b6,b7] 0 [c1,c2,c3,c4,c5,c6,c7] = [c1,c2,c3,c4,c5,c6,c7]:=fun _ _ _ _ _ _ _ _ _ _ _ _ _ _ => rfl
 have hhd:VlOk th dom head:=⟨⟨hsh,hu,by omega⟩,hdm⟩
 have hil:(intsC head).length = head.length * 1:=by rw[intsC_len,Nat.mul_one]
 have hcl:(coC out).length = out.length * 1:=by rw[coC_len,Nat.mul_one]
 generalize doR evX th head = s at hdo hu hsh
 unfold roC at hdo
 rw[hsh] at hdo
 simp only[Bool.false_eq_true,if_false,Bool.not_false] at hdo
 have c3:(((s.used:Nat):Int) == ((head.length:Nat):Int)) = true:=by rw[hu];simp
 simp (disch:=omega) only[A_xref13_values,wp,qa,qb,qc,gl,hdo,s7,l5,c3,List.getElem?_cons_zero,List.getElem?_cons_succ]
 refine bindO_app (.inl rfl) (fun i h => by cases h) ⟨by omega,by omega,rfl,hil⟩ ?_
 intro t1 hp1 ar1
 simp (disch:=omega) only[wp,qa,qb,qc,gl]
 refine bindO_app1 (esz:=1) (tk.mono (fun i hi => ?_) (by first | omega | (dsimp only;omega))) (fun i hi => allow_no _ _ _) ⟨by omega,by omega,hcl,rfl⟩ ?_
 ·rcases tk with h | ⟨i',h,h1,h2⟩
  ·rw[h] at hi;cases hi
  ·rw[h] at hi;cases hi
   rw[ar1.keep i (by omega) (fun e h => by cases h)]
   simp (disch:=omega) only[upd_ne]
 ·intro t2 hp2 ar2 hpos
  simp (disch:=omega) only[wp,qa,qb,qc,gl]
  refine ⟨_,rfl,out ++ [head],t2,?_,ar2.ok (by first | omega | (dsimp only;omega)),fun h hm => ?_,by simp;omega,by first | omega | (dsimp only;omega)⟩
  ·show AV.sl _ _ _ = _
   rw[coC_app,List.length_append];rfl
  ·rcases List.mem_append.1 hm with hm | hm
   ·exact hok h hm
   ·obtain rfl:h = head:=by simpa using hm
    exact hhd
theorem rp_values (A:ChF F) (D:RunF F) (h101:F 101 = some A_xref13_values) {th:List Ins} (hth:ThK th) {dom:List Int} (hd:dom.length≤1000):∀ (n:Nat) (head:List Int) (w:Tok) (out:List (List Int)) (t:Tok) (g:G),
  th.length≤head.length + n→head.length≤20→(doR evX th head).used = head.length→(∀ x∈head,x∈dom)→TkOk 1 g t→(∀ h∈out,VlOk th dom h)→out.length≤20000 →
  ∃ v g',callS F 101 [.sl (insLC th) th.length .non,.sl (intsC dom) dom.length .non,.sl (intsC head) head.length w,.sl (coC out) out.length t] g = some (v,g')∧VsP th dom g v g':=by
 intro n
 induction n with
 | zero =>
   intro head w out t g hn hh hu hdm tk hok hol
   refine rp_valuesF A D h101 hth head w out t g (by omega) hu hdm tk hok hol ?_
   cases hsh:(doR evX th head).short with
   | false => rfl
   | true => have:=doR_far hsh;omega
 | succ n ih =>
   intro head w out t g hn hh hu hdm tk hok hol
   cases hsh:(doR evX th head).short with
   | false => exact rp_valuesF A D h101 hth head w out t g (by omega) hu hdm tk hok hol hsh
   | true =>
   refine raw_of h101 ?_
   have hdo:=rp_do D (vok A.ex) hth head .non (by omega)
   have hl:=hth.len
   have hfar:=doR_far hsh
   have hmore:=fun x => doR_more (V:=evX) (th:=th) (h:=head) (x:=x) hsh
   have l5:∀ x:AV,List.replicate 5 x = [x,x,x,x,x]:=fun _ => rfl
   have s7:∀ b1 b2 b3 b4 b5 b6 b7 c1 c2 c3 c4 c5 c6 c7:AV,splice [b1,b2,b3,b4,b5,b6,b7] 0 [c1,c2,c3,c4,c5,c6,c7] = [c1,c2,c3,c4,c5,c6,c7]:=fun _ _ _ _ _ _ _ _ _ _ _ _ _ _ => rfl
   have hil:(intsC head).length = head.length * 1:=by rw[intsC_len,Nat.mul_one]
   generalize doR evX th head = s at hdo hu hsh
   unfold roC at hdo
   rw[hsh] at hdo
   simp only[if_true,Bool.not_true] at hdo
   simp (disch:=omega) only[A_xref13_values,wp,qa,qb,qc,gl,hdo,s7,l5,List.getElem?_cons_zero,List.getElem?_cons_succ]
   refine blk_cut (fun e g' => ∃ i out' t',VsI th dom head g i out' t' e g') ?_ ?_
   ·refine W_loop (fun q e g' => ∃ (i:Nat) (out':List (List Int)) (t':Tok),q = dom.length - i∧VsI th dom head g i out' t' e g') dom.length ?_ ?_
    ·refine ⟨0,out,t,rfl,Nat.zero_le _,rfl,rfl,⟨w,rfl⟩,rfl,rfl,tk.mono (fun i hi => ?_) (by first | omega | (dsimp only;omega)),hok,by omega,by first | omega | (dsimp only;omega)⟩
     rcases tk with h | ⟨i',h,h1,h2⟩
     ·rw[h] at hi;cases hi
     ·rw[h] at hi;cases hi
      simp (disch:=omega) only[upd_ne]
    ·rintro q e g1 ⟨i,out1,t1,rfl,hi,e0,e1,⟨w1,e2⟩,e3,e11,tk1,hok1,hol1,hx1⟩
     by_cases c1:i < dom.length
     ·have c1':((i:Nat):Int) < ((dom.length:Nat):Int):=by omega
      by_cases c2:out1.length≤20000
      ·have c2':((out1.length:Nat):Int)≤20000:=by omega
       have hip:=ints_part c1
       have hw:=succ_wrap (k:=i) (by omega)
       have hxm:dom.getD i 0∈dom:=getD_mem c1
       generalize dom.getD i 0 = x at hip hxm
       simp (disch:=omega) only[wp,qa,qb,qc,gl,e0,e1,e2,e3,e11,c1',c2',hip]
       refine bindO_app (.inl rfl) (fun i h => by cases h) ⟨by omega,by omega,rfl,hil⟩ ?_
       intro t2 hp2 ar2
       simp (disch:=omega) only[wp,qa,qb,qc,gl,e0,e1,e2,e3,e11,hip]
       refine bindO_app (esz:=1) (ar2.ok (by first | omega | (dsimp only;omega))) ?_ ⟨by omega,by omega,hil,rfl⟩ ?_
       ·intro i2 h2
        rcases ar2.tok with h | ⟨h,_⟩
        ·rw[h] at h2;cases h2
        ·rw[h] at h2;cases h2
         exact allow_hd _ rfl
       intro t3 hp3 ar3
       simp (disch:=omega) only[wp,qa,qb,qc,gl,e0,e1,e2,e3,e11,hip]
       have ha:intsC (head ++ [x]) = intsC head ++ [.i .i64 x]:=by simp[intsC]
       have hla:(head ++ [x]).length = head.length + 1:=by simp
       have hrec:=fun g2 (tk2:TkOk 1 g2 t1) => ih (head ++ [x]) t3 out1 t1 g2 (by omega) (by omega) (by rw[hmore x,hla]) (fun y hy => by
        rcases List.mem_append.1 hy with hy | hy
        ·exact hdm y hy
        ·obtain rfl:y = x:=by simpa using hy
         exact hxm) tk2 hok1 c2
       rw[ha,hla] at hrec
       refine bindO_call _ (hrec _ (tk1.mono (fun i2 h2 => ?_) ?_)) ?_
       ·rcases tk1 with h | ⟨i',h,h1,h3⟩
        ·rw[h] at h2;cases h2
        ·rw[h] at h2;cases h2
         rw[ar3.keep i2 (by omega) (fun e h => by
          rcases ar2.tok with h4 | ⟨h4,_⟩
          ·rw[h4] at h;cases h
          ·rw[h4] at h;cases h;omega)]
         dsimp only
         rw[ar2.keep i2 (by omega) (fun e h => by cases h)]
       ·first | omega | (dsimp only;omega)
       rintro v g4 ⟨L,t4,rfl,tk4,ok4,l4,nx4⟩
       dsimp only at nx4
       simp (disch:=omega) only[wp,qa,qb,qc,gl,e11,hw]
       exact ⟨dom.length - (i + 1),by omega,i + 1,L,t4,rfl,by omega,e0,e1,⟨w1,e2⟩,rfl,rfl,tk4.mono (fun i hi => rfl) (by first | omega | (dsimp only;omega)),ok4,l4,by first | omega | (dsimp only;omega)⟩
      ·have c2':¬ ((out1.length:Nat):Int)≤20000:=by omega
       simp (disch:=omega) only[wp,qa,qb,qc,gl,e0,e1,e2,e3,e11,c1',c2']
       exact ⟨i,out1,t1,hi,e0,e1,⟨w1,e2⟩,e3,e11,tk1.mono (fun i hi => rfl) (by first | omega | (dsimp only;omega)),hok1,hol1,by first | omega | (dsimp only;omega)⟩
     ·have c1':¬ ((i:Nat):Int) < ((dom.length:Nat):Int):=by omega
      simp (disch:=omega) only[wp,qa,qb,qc,gl,e0,e1,e2,e3,e11,c1']
      exact ⟨i,out1,t1,hi,e0,e1,⟨w1,e2⟩,e3,e11,tk1.mono (fun i hi => rfl) (by first | omega | (dsimp only;omega)),hok1,hol1,by first | omega | (dsimp only;omega)⟩
   ·rintro e g1 ⟨i,out1,t1,hi,e0,e1,⟨w1,e2⟩,e3,e11,tk1,hok1,hol1,hx1⟩
    simp (disch:=omega) only[wp,qa,qb,qc,gl,e3]
    exact ⟨_,rfl,out1,t1,rfl,tk1.mono (fun i hi => rfl) (by first | omega | (dsimp only;omega)),hok1,hol1,by first | omega | (dsimp only;omega)⟩
end Go.Ab
end
section
set_option linter.unusedVariables false
set_option linter.unusedSimpArgs false
namespace Go.Ab
variable {F:Funs}
def dmS (m:List Int) (v:Int):List Int:=if v∈m then m else m ++ [v]
def domF (l:List Int):List Int:=(l.take 8).foldl dmS []
structure DmI (l:List Int) (i:Nat) (t:Tok) (e:Env) (g:G):Prop where
 hi:i≤l.length∧i≤8
 e0:e 0 = .sl (intsC l) l.length .non
 e3:e 3 = .sl (intsC ((l.take i).foldl dmS [])) ((l.take i).foldl dmS []).length t
 e4:e 4 = .i .i64 ((i:Nat):Int)
 tk:TkOk 1 g t
 hl:((l.take i).foldl dmS []).length≤i
structure DmJ (l m:List Int) (v:Int) (i k:Nat) (t:Tok) (e:Env) (g:G):Prop where
 hk:k≤m.length
 e0:e 0 = .sl (intsC l) l.length .non
 e3:e 3 = .sl (intsC m) m.length t
 e4:e 4 = .i .i64 ((i:Nat):Int)
 e5:e 5 = .b (decide (v∈m.take k))
 e6:e 6 = .i .i64 ((k:Nat):Int)
 tk:TkOk 1 g t
theorem domF_end {l:List Int} {i:Nat} (h:i≤l.length∧i≤8) (he:i = l.length∨i = 8):(l.take i).foldl dmS [] = domF l:=by
 unfold domF
 congr 1
 rcases he with rfl | rfl
 ·rw[List.take_length,List.take_of_length_le h.2]
 ·rfl
theorem sp13_domain (h102:F 102 = some A_xref13_Domain) (l:List Int) (hl:l.length≤1000000):pureS F 102 [.sl (intsC l) l.length .non] = some (.sl (intsC (domF l)) (domF l).length .non):=by
 refine pure_of h102 ?_
 simp (disch:=omega) only[A_xref13_Domain,wp,qa,qb,qc]
 refine blk_cut (fun e g => ∃ t,e 3 = .sl (intsC (domF l)) (domF l).length t) ?_ ?_
 ·refine W_loop (fun q e g => ∃ (i:Nat) (t:Tok),q = l.length - i∧DmI l i t e g) l.length ?_ ?_
  ·exact ⟨0,.rig,rfl,⟨Nat.zero_le _,by omega⟩,rfl,rfl,rfl,.inl rfl,Nat.le_refl _⟩
  ·rintro q e g ⟨i,t,rfl,hi,e0,e3,e4,tk,hml⟩
   by_cases c1:i < l.length
   ·have c1':((i:Nat):Int) < ((l.length:Nat):Int):=by omega
    by_cases c8:i < 8
    ·have c8':((i:Nat):Int) < 8:=by omega
     have hip:=ints_part c1
     have hwi:=succ_wrap (k:=i) (by omega)
     have hnx:=foldl_take (f:=dmS) (b:=[]) (d:=(0:Int)) c1
     generalize l.getD i 0 = v at hip hnx
     generalize (l.take i).foldl dmS [] = m at e3 hml hnx
     simp (disch:=omega) only[wp,qa,qb,qc,e0,e3,e4,c1',c8']
     refine blk_cut (fun e g => DmJ l m v i m.length t e g) ?_ ?_
     ·refine W_loop (fun q e g => ∃ k:Nat,q = m.length - k∧DmJ l m v i k t e g) m.length ?_ ?_
      ·exact ⟨0,rfl,Nat.zero_le _,e0,e3,e4,by simp;rfl,rfl,tk.mono (fun i hi => rfl) (by first | omega | (dsimp only;omega))⟩
      ·rintro q e g ⟨k,rfl,hk,e0,e3,e4,e5,e6,tk⟩
       by_cases c2:k < m.length
       ·have c2':((k:Nat):Int) < ((m.length:Nat):Int):=by omega
        have hkp:=ints_part c2
        have hwk:=succ_wrap (k:=k) (by omega)
        have hmem:decide (v∈m.take (k + 1)) = (decide (v∈m.take k) || (m.getD k 0 == v)):=by
         rw[take_getD c2]
         generalize m.getD k 0 = y
         by_cases h1:v∈m.take k
         ·rw[decide_eq_true h1,decide_eq_true (List.mem_append_left _ h1)];rfl
         ·by_cases h2:y = v
          ·subst h2
           rw[decide_eq_true (List.mem_append_right _ (List.mem_singleton.2 rfl))];simp
          ·rw[decide_eq_false h1,decide_eq_false (fun h => by
            rcases List.mem_append.1 h with h | h
            ·exact h1 h
            ·exact h2 (List.mem_singleton.1 h).symm)]
           simp[h2]
        generalize m.getD k 0 = y at hkp hmem
        cases hb:decide (v∈m.take k) with
        | true =>
          rw[hb] at e5 hmem
          simp (disch:=omega) only[wp,qa,qb,qc,e0,e3,e4,e5,e6,c2',hwk]
          exact ⟨m.length - (k + 1),by omega,k + 1,rfl,by omega,e0,e3,e4,by rw[hmem];rfl,rfl,tk.mono (fun i hi => rfl) (by first | omega | (dsimp only;omega))⟩
        | false =>
          rw[hb] at e5 hmem
          simp (disch:=omega) only[wp,qa,qb,qc,e0,e3,e4,e5,e6,c2',hwk,hkp,hip,allow_lt]
          exact ⟨m.length - (k + 1),by omega,k + 1,rfl,by omega,e0,e3,e4,by rw[hmem];rfl,rfl,tk.mono (fun i hi => rfl) (by first | omega | (dsimp only;omega))⟩
       ·have c2':¬ ((k:Nat):Int) < ((m.length:Nat):Int):=by omega
        obtain rfl:k = m.length:=by omega
        simp (disch:=omega) only[wp,qa,qb,qc,e0,e3,e4,e5,e6,c2']
        exact ⟨Nat.le_refl _,e0,e3,e4,e5,e6,tk.mono (fun i hi => rfl) (by first | omega | (dsimp only;omega))⟩
     ·rintro e g ⟨hk,e0,e3,e4,e5,e6,tk⟩
      rw[List.take_length] at e5
      by_cases c3:v∈m
      ·have hd:dmS m v = m:=if_pos c3
       rw[hd] at hnx
       simp only[c3,decide_true] at e5
       simp (disch:=omega) only[wp,qa,qb,qc,e0,e3,e4,e5,hwi]
       exact ⟨l.length - (i + 1),by omega,i + 1,t,rfl,⟨by omega,by omega⟩,e0,by rw[hnx];exact e3,rfl,tk.mono (fun i hi => rfl) (by first | omega | (dsimp only;omega)),by rw[hnx];omega⟩
      ·have hd:dmS m v = m ++ [v]:=if_neg c3
       rw[hd] at hnx
       simp only[c3,decide_false] at e5
       have hil:(intsC m).length = m.length * 1:=by rw[intsC_len,Nat.mul_one]
       simp (disch:=omega) only[wp,qa,qb,qc,e0,e3,e4,e5,hip]
       refine bindO_app (esz:=1) (tk.mono (fun i hi => rfl) (by first | omega | (dsimp only;omega))) (fun i hi => allow_no _ _ _) ⟨by omega,by omega,hil,rfl⟩ ?_
       intro t2 hp2 ar2
       simp (disch:=omega) only[wp,qa,qb,qc,e4,hwi]
       refine ⟨l.length - (i + 1),by omega,i + 1,t2,rfl,⟨by omega,by omega⟩,e0,?_,rfl,ar2.ok (by first | omega | (dsimp only;omega)),by rw[hnx];simp;omega⟩
       rw[hnx,List.length_append]
       show AV.sl _ _ _ = _
       simp[intsC]
    ·have c8':¬ ((i:Nat):Int) < 8:=by omega
     have hd:=domF_end hi (.inr (by omega))
     rw[hd] at e3
     simp (disch:=omega) only[wp,qa,qb,qc,e0,e3,e4,c1',c8']
     exact ⟨t,rfl⟩
   ·have c1':¬ ((i:Nat):Int) < ((l.length:Nat):Int):=by omega
    have hd:=domF_end hi (.inl (by omega))
    rw[hd] at e3
    simp (disch:=omega) only[wp,qa,qb,qc,e0,e3,e4,c1']
    exact ⟨t,rfl⟩
 ·rintro e g ⟨t,e3⟩
  simp (disch:=omega) only[wp,qa,qb,qc,e3]
theorem dmS_len (m:List Int) (v:Int):(dmS m v).length≤m.length + 1:=by
 unfold dmS;split<;>simp
theorem domF_len (l:List Int):(domF l).length≤8:=by
 unfold domF
 have key:∀ (l m:List Int),(l.foldl dmS m).length≤m.length + l.length:=by
  intro l
  induction l with
  | nil => intro m;exact Nat.le_refl _
  | cons v l ih =>
    intro m
    have:=ih (dmS m v)
    have:=dmS_len m v
    simp only[List.foldl_cons,List.length_cons]
    omega
 have:=key (l.take 8) []
 rw[List.length_take,List.length_nil] at this
 omega
theorem sp13_values (A:ChF F) (D:RunF F) (h88:F 88 = some A_xref13_Values) (h101:F 101 = some A_xref13_values) (h102:F 102 = some A_xref13_Domain) {th:List Ins} (hth:ThK th) (dom:List Int) (hd:dom.length≤1000000):
  ∃ L:List (List Int),pureS F 88 [.sl (insLC th) th.length .non,.sl (intsC dom) dom.length .non] = some (.sl (coC L) L.length .non)∧(∀ h∈L,VlOk th (domF dom) h)∧L.length≤20001:=by
 have key:∃ v,pureS F 88 [.sl (insLC th) th.length .non,.sl (intsC dom) dom.length .non] = some v∧∃ L:List (List Int),v = .sl (coC L) L.length .non∧(∀ h∈L,VlOk th (domF dom) h)∧L.length≤20001:=by
  refine pureV_of h88 ?_
  have hdm:=sp13_domain h102 dom hd
  have hdl:=domF_len dom
  have hlen:=hth.len
  have hval:=rp_values A D h101 hth (dom:=domF dom) (by omega) th.length [] .rig [] .rig
  simp (disch:=omega) only[A_xref13_Values,wp,qa,qb,qc,gl,hdm]
  refine bindO_call _ (hval _ (by simp) (by simp) ?_ (fun x hx => absurd hx (List.not_mem_nil)) (.inl rfl) (fun x hx => absurd hx (List.not_mem_nil)) (by simp)) ?_
  ·have:=(runR_used evX [] th th.length 0 rs0).2.2 (Nat.le_refl 0)
   show (runR evX [] th th.length 0 rs0).used = 0
   simpa using this
  ·rintro v g' ⟨L,t,rfl,tk,ok,hL,nx⟩
   simp (disch:=omega) only[wp,qa,qb,qc,gl]
   refine ⟨_,?_,L,rfl,ok,hL⟩
   simp (disch:=omega) only[wp,qa,qb,qc]
 obtain ⟨v,h1,L,rfl,h2,h3⟩:=key
 exact ⟨L,h1,h2,h3⟩
end Go.Ab
end
section
set_option linter.unusedVariables false
set_option linter.unusedSimpArgs false
namespace Go.Ab
variable {F:Funs}
def ccC (l:List (List (List Int))):List AV:=l.map fun c => .sl (coC c) c.length .non
theorem ccC_len (l:List (List (List Int))):(ccC l).length = l.length:=by simp[ccC]
theorem ccC_app (l m:List (List (List Int))):ccC (l ++ m) = ccC l ++ ccC m:=by simp[ccC]
theorem cc_part {l:List (List (List Int))} {k:Nat} (h:k < l.length):part ((ccC l).drop (k * 1)) 0 none = some (.sl (coC (l.getD k [])) (l.getD k []).length .non):=by
 simp only[part,Nat.mul_one,ccC]
 rw[List.getElem?_drop,Nat.add_zero,List.getElem?_map,List.getD_eq_getElem?_getD,List.getElem?_eq_getElem h]
 rfl
structure LtOk (all:List (List (List Int))) (i:Nat) (lot:List (List Int)):Prop where
 len:lot.length = i
 mem:∀ j,j < i→lot.getD j []∈all.getD j []
theorem LtOk.snoc {all:List (List (List Int))} {i:Nat} {lot:List (List Int)} {h:List Int} (k:LtOk all i lot) (hm:h∈all.getD i []):LtOk all (i + 1) (lot ++ [h]):=by
 refine ⟨by simp[k.len],fun j hj => ?_⟩
 by_cases hji:j = i
 ·subst hji
  have hl:=k.len
  have:(lot ++ [h]).getD j [] = h:=by rw[List.getD_eq_getElem?_getD,List.getElem?_append_right (by omega),hl,Nat.sub_self];rfl
  rw[this];exact hm
 ·have hl:=k.len
  have:(lot ++ [h]).getD j [] = lot.getD j []:=by rw[List.getD_eq_getElem?_getD,List.getElem?_append_left (by omega),←List.getD_eq_getElem?_getD]
  rw[this];exact k.mem j (by omega)
structure LoI (all:List (List (List Int))) (i:Nat) (ls:List (List (List Int))) (e:Env) (g:G):Prop where
 hi:i≤all.length
 e0:e 0 = .sl (ccC all) all.length .non
 e3:∃ w,e 3 = .sl (ccC ls) ls.length w
 e4:e 4 = .i .i64 ((i:Nat):Int)
 ok:∀ lot∈ls,LtOk all i lot
 ll:ls.length≤200001
structure LoM (all ls m:List (List (List Int))) (i:Nat) (t:Tok) (e:Env) (g:G):Prop where
 e0:e 0 = .sl (ccC all) all.length .non
 e3:∃ w,e 3 = .sl (ccC ls) ls.length w
 e4:e 4 = .i .i64 ((i:Nat):Int)
 e5:e 5 = .sl (ccC m) m.length t
 tk:TkOk 1 g t
 ok:∀ lot∈m,LtOk all (i + 1) lot
 ml:m.length≤200001
theorem LoM.mv {all ls m:List (List (List Int))} {i:Nat} {t:Tok} {e e':Env} {g:G} {n:Nat} (h:LoM all ls m i t e g) (h0:e' 0 = e 0) (h3:e' 3 = e 3) (h4:e' 4 = e 4) (h5:e' 5 = e 5) (hn:g.nx≤n):LoM all ls m i t e' ⟨g.hp,n⟩:=
 ⟨h0.trans h.e0,by rw[h3];exact h.e3,h4.trans h.e4,h5.trans h.e5,h.tk.mono (fun i hi => rfl) hn,h.ok,h.ml⟩
theorem sp13_lots (h89:F 89 = some A_xref13_Lots) (all:List (List (List Int))) (hall:all.length≤1000) (hL:∀ L∈all,L.length≤1000000):
  ∃ ls:List (List (List Int)),pureS F 89 [.sl (ccC all) all.length .non] = some (.sl (ccC ls) ls.length .non)∧(∀ lot∈ls,LtOk all all.length lot)∧ls.length≤200001:=by
 have key:∃ v,pureS F 89 [.sl (ccC all) all.length .non] = some v∧∃ ls:List (List (List Int)),v = .sl (ccC ls) ls.length .non∧(∀ lot∈ls,LtOk all all.length lot)∧ls.length≤200001:=by
  refine pureV_of h89 ?_
  simp (disch:=omega) only[A_xref13_Lots,wp,qa,qb,qc,gl]
  refine blk_cut (fun e g => ∃ ls,LoI all all.length ls e g) ?_ ?_
  ·refine W_loop (fun q e g => ∃ (i:Nat) (ls:List (List (List Int))),q = all.length - i∧LoI all i ls e g) all.length ?_ ?_
   ·exact ⟨0,[[]],rfl,Nat.zero_le _,rfl,⟨_,rfl⟩,rfl,fun lot hl => by
     obtain rfl:lot = []:=by simpa using hl
     exact ⟨rfl,fun j hj => absurd hj (Nat.not_lt_zero j)⟩,by simp⟩
   ·rintro q e g ⟨i,ls,rfl,hi,e0,⟨w,e3⟩,e4,ok,ll⟩
    by_cases c1:i < all.length
    ·have c1':((i:Nat):Int) < ((all.length:Nat):Int):=by omega
     have hwi:=succ_wrap (k:=i) (by omega)
     have hai:=cc_part c1
     have hLi:(all.getD i []).length≤1000000:=hL _ (getD_mem c1)
     simp (disch:=omega) only[wp,qa,qb,qc,e0,e3,e4,c1']
     refine blk_cut (fun e g => ∃ m t,LoM all ls m i t e g) ?_ ?_
     ·refine W_loop (fun q e g => ∃ (k:Nat) (m:List (List (List Int))) (t:Tok),q = ls.length - k∧k≤ls.length∧LoM all ls m i t e g∧e 6 = .i .i64 ((k:Nat):Int)) ls.length ?_ ?_
      ·refine ⟨0,[],.rig,rfl,Nat.zero_le _,⟨e0,⟨w,e3⟩,e4,rfl,.inl rfl,fun x hx => absurd hx (List.not_mem_nil),by simp⟩,rfl⟩
      ·rintro q e g ⟨k,m,t,rfl,hk,I,e6⟩
       have e0:=I.e0
       obtain ⟨w,e3⟩:=I.e3
       have e4:=I.e4
       by_cases c2:k < ls.length
       ·have c2':((k:Nat):Int) < ((ls.length:Nat):Int):=by omega
        have hwk:=succ_wrap (k:=k) (by omega)
        have hlk:=cc_part c2
        have hlot:=ok _ (getD_mem (d:=[]) c2)
        generalize ls.getD k [] = lot at hlk hlot
        have hll:=hlot.len
        have hcl:(coC lot).length = lot.length * 1:=by rw[coC_len,Nat.mul_one]
        simp (disch:=omega) only[wp,qa,qb,qc,e0,e3,e4,e6,c2']
        refine blk_end (fun e g => (∃ m t,LoM all ls m i t e g)∧e 6 = .i .i64 ((k:Nat):Int)) ?_ ?_
        ·refine W_loop (fun q e g => ∃ (j:Nat) (m:List (List (List Int))) (t:Tok),q = (all.getD i []).length - j∧j≤(all.getD i []).length∧LoM all ls m i t e g∧e 6 = .i .i64 ((k:Nat):Int)∧e 7 = .i .i64 ((j:Nat):Int)) (all.getD i []).length ?_ ?_
         ·exact ⟨0,m,t,rfl,Nat.zero_le _,I.mv rfl rfl rfl rfl (by first | omega | (dsimp only;omega)),e6,rfl⟩
         ·rintro q e g ⟨j,m,t,rfl,hj,I,e6,e7⟩
          have e0:=I.e0
          obtain ⟨w,e3⟩:=I.e3
          have e4:=I.e4
          have e5:=I.e5
          have tk:=I.tk
          by_cases c3:j < (all.getD i []).length
          ·have c3':((j:Nat):Int) < (((all.getD i []).length:Nat):Int):=by omega
           by_cases c4:m.length≤200000
           ·have c4':((m.length:Nat):Int)≤200000:=by omega
            have hwj:=succ_wrap (k:=j) (by omega)
            have hjp:=co_part c3
            have hmem:(all.getD i []).getD j []∈all.getD i []:=getD_mem c3
            have hcm:(ccC m).length = m.length * 1:=by rw[ccC_len,Nat.mul_one]
            generalize hA:all.getD i [] = A at hai hjp hmem c3 c3' hj hLi
            generalize A.getD j [] = hd at hjp hmem
            simp (disch:=omega) only[wp,qa,qb,qc,e0,e3,e4,e5,e6,e7,c3',c4',hai,hlk]
            refine bindO_app (.inl rfl) (fun i h => by cases h) ⟨by omega,by omega,rfl,hcl⟩ ?_
            intro t1 hp1 ar1
            simp (disch:=omega) only[wp,qa,qb,qc,e0,e3,e4,e5,e6,e7,hai,hjp]
            refine bindO_app (esz:=1) (ar1.ok (by first | omega | (dsimp only;omega))) ?_ ⟨by omega,by omega,hcl,rfl⟩ ?_
            ·intro i2 h2
             rcases ar1.tok with h | ⟨h,_⟩
             ·rw[h] at h2;cases h2
             ·rw[h] at h2;cases h2
              exact allow_hd _ rfl
            intro t2 hp2 ar2
            simp (disch:=omega) only[wp,qa,qb,qc,e0,e3,e4,e5,e6,e7]
            have live:∀ i2,t = .own i2 1→i2 < g.nx∧hp2 i2 = g.hp i2:=fun i2 h2 => by
             rcases tk with h | ⟨i',h,h1,h3⟩
             ·rw[h] at h2;cases h2
             ·rw[h] at h2;cases h2
              refine ⟨h3,?_⟩
              rw[ar2.keep i2 (by omega) (fun e h => by
               rcases ar1.tok with h4 | ⟨h4,_⟩
               ·rw[h4] at h;cases h
               ·rw[h4] at h;cases h;omega)]
              dsimp only
              rw[ar1.keep i2 (by omega) (fun e h => by cases h)]
            refine bindO_app (esz:=1) (tk.mono (fun i2 h2 => (live i2 h2).2) (by first | omega | (dsimp only;omega))) (fun i2 h2 => allow_lt _ (by have:=(live i2 h2).1;first | omega | (dsimp only;omega))) ⟨by omega,by omega,hcm,rfl⟩ ?_
            intro t3 hp3 ar3
            simp (disch:=omega) only[wp,qa,qb,qc,e6,e7,hwj]
            refine ⟨A.length - (j + 1),by omega,j + 1,m ++ [lot ++ [hd]],t3,rfl,by omega,⟨e0,⟨w,e3⟩,e4,?_,ar3.ok (by first | omega | (dsimp only;omega)),fun x hx => ?_,by simp;omega⟩,rfl⟩
            ·show AV.sl _ _ _ = _
             rw[ccC_app,List.length_append]
             simp[ccC,coC_app,coC]
            ·rcases List.mem_append.1 hx with hx | hx
             ·exact I.ok x hx
             ·obtain rfl:x = lot ++ [hd]:=by simpa using hx
              exact hlot.snoc (by rw[hA];exact hmem)
           ·have c4':¬ ((m.length:Nat):Int)≤200000:=by omega
            simp (disch:=omega) only[wp,qa,qb,qc,e0,e3,e4,e5,e6,e7,c3',c4',hai]
            exact ⟨m,t,I.mv rfl rfl rfl rfl (by first | omega | (dsimp only;omega))⟩
          ·have c3':¬ ((j:Nat):Int) < (((all.getD i []).length:Nat):Int):=by omega
           simp (disch:=omega) only[wp,qa,qb,qc,e0,e3,e4,e5,e6,e7,c3',hai]
           exact ⟨m,t,I.mv rfl rfl rfl rfl (by first | omega | (dsimp only;omega))⟩
        ·rintro e g ⟨⟨m,t,I⟩,e6⟩
         simp (disch:=omega) only[wp,qa,qb,qc,e6,hwk]
         exact ⟨ls.length - (k + 1),by omega,k + 1,m,t,rfl,by omega,I.mv rfl rfl rfl rfl (by first | omega | (dsimp only;omega)),rfl⟩
       ·have c2':¬ ((k:Nat):Int) < ((ls.length:Nat):Int):=by omega
        simp (disch:=omega) only[wp,qa,qb,qc,e0,e3,e4,e6,c2']
        exact ⟨m,t,I.mv rfl rfl rfl rfl (by first | omega | (dsimp only;omega))⟩
     ·rintro e g ⟨m,t,I⟩
      have e4:=I.e4
      have e5:=I.e5
      simp (disch:=omega) only[wp,qa,qb,qc,e4,e5,hwi]
      exact ⟨all.length - (i + 1),by omega,i + 1,m,rfl,by omega,I.e0,⟨t,rfl⟩,rfl,I.ok,I.ml⟩
    ·have c1':¬ ((i:Nat):Int) < ((all.length:Nat):Int):=by omega
     obtain rfl:i = all.length:=by omega
     simp (disch:=omega) only[wp,qa,qb,qc,e0,e3,e4,c1']
     exact ⟨ls,hi,e0,⟨w,e3⟩,e4,ok,ll⟩
  ·rintro e g ⟨ls,hi,e0,⟨w,e3⟩,e4,ok,ll⟩
   simp (disch:=omega) only[wp,qa,qb,qc,e3]
   refine ⟨_,?_,ls,rfl,ok,ll⟩
   simp (disch:=omega) only[wp,qa,qb,qc]
 obtain ⟨v,h1,ls,rfl,h2,h3⟩:=key
 exact ⟨ls,h1,h2,h3⟩
end Go.Ab
end
section
set_option linter.unusedVariables false
set_option linter.unusedSimpArgs false
namespace Go.Ab
variable {F:Funs}
theorem vApp_src {al:Nat→Bool} {id esz bytes b off m:Nat} {x:AV} {g:G} {ds ds':List AV} {ro:Bool} (ha:al b = true) (hb:g.hp b = some (.cells ds ro)) (hf:frzL (fun _ => none) depth ((ds.drop off).take (m * esz)) = some ds'):
  vApp al id esz bytes x (.ms b off m) g = vApp al id esz bytes x (.sl ds' m .non) g:=by
 cases x<;>first | rfl | skip
 unfold vApp vSrc
 simp only[rd_S,ha,selB_true,hb,hf]
def gfC (X:Gr) (R C:Nat):List AV:=[.i .i64 X.locs,.sl (evsC X.evs) X.evs.length .non,.ms R 0 X.evs.length,.ms C 0 2,.sl (pairsC X.rmw) X.rmw.length .non,.sl (pairsC X.data) X.data.length .non,.sl (pairsC X.ctrl) X.ctrl.length .non,.sl (pairsC X.ctrli) X.ctrli.length .non]
def putX (X:Gr) (rf:List Int) (co:List (List Int)):Gr:={ X with rf:=rf,co:=co }
def gcC (X:Gr) (rf:List Int) (co:List (List Int)) (t1 t2:Tok):List AV:=[.i .i64 X.locs,.sl (evsC X.evs) X.evs.length .non,.sl (intsC rf) rf.length t1,.sl (coC co) co.length t2,.sl (pairsC X.rmw) X.rmw.length .non,.sl (pairsC X.data) X.data.length .non,.sl (pairsC X.ctrl) X.ctrl.length .non,.sl (pairsC X.ctrli) X.ctrli.length .non]
theorem frzL_ints' (hp:Nat→Option Blk) (l:List Int):frzL hp depth (intsC l) = some (intsC l):=frzL_ints hp 8 l
structure CpI (X:Gr) (rf:List Int) (cs:List (List Int)) (R C B1 B2 B3:Nat) (g0:G) (i:Nat) (t1 t:Tok) (e:Env) (g:G):Prop where
 hi:i≤2
 e1:e 1 = .mp B1 0
 e2:e 2 = .mp B2 0
 e3:e 3 = .mp B3 0
 e4:e 4 = .i .i64 ((i:Nat):Int)
 h1:g.hp B1 = some (.cells (gfC X R C) false)
 h2:g.hp B2 = some (.cells [.i .i64 0,.sl [] 0 .rig,.sl [] 0 .rig,.sl [] 0 .rig,.sl [] 0 .rig,.sl [] 0 .rig,.sl [] 0 .rig,.sl [] 0 .rig] false)
 h3:g.hp B3 = some (.cells (gcC X rf (cs.take i) t1 t) false)
 tk:TkOk 1 g t
 told:∀ j,t = .own j 1→g0.nx≤j
 bs:g0.nx≤B1∧g0.nx≤B2∧g0.nx≤B3∧B1 < g.nx∧B2 < g.nx∧B3 < g.nx∧B1≠B3∧B2≠B3
 nx:g0.nx≤g.nx
 st:∀ j,j < g0.nx→g.hp j = g0.hp j
 fresh:∀ j,g.nx≤j→g.hp j = none
theorem rp_copied (h131:F 131 = some A_xref13_copied) {X:Gr} {rf c0 c1:List Int} {R C:Nat} {t0 t1:Tok} {g:G} (hr:g.hp R = some (.cells (intsC rf) false)) (hc:g.hp C = some (.cells [.sl (intsC c0) c0.length t0,.sl (intsC c1) c1.length t1] false))
  (hrl:rf.length = X.evs.length) (hR:R < g.nx) (hC:C < g.nx) (hn:X.evs.length≤1000) (hc0:c0.length≤1000) (hc1:c1.length≤1000) (hfr:∀ i,g.nx≤i→g.hp i = none):
  ∃ v g',callS F 131 [.agg (gfC X R C)] g = some (v,g')∧(∃ t1 t2,v = .agg (gcC X rf [c0,c1] t1 t2))∧g.nx≤g'.nx∧(∀ i,i < g.nx→g'.hp i = g.hp i)∧∀ i,g'.nx≤i→g'.hp i = none:=by
 refine raw_of (P:=fun v g' => (∃ t1 t2,v = .agg (gcC X rf [c0,c1] t1 t2))∧g.nx≤g'.nx∧(∀ i,i < g.nx→g'.hp i = g.hp i)∧∀ i,g'.nx≤i→g'.hp i = none) h131 ?_
 have l7:∀ x:AV,List.replicate 7 x = [x,x,x,x,x,x,x]:=fun _ => rfl
 have s8:∀ b1 b2 b3 b4 b5 b6 b7 b8 c1 c2 c3 c4 c5 c6 c7 c8:AV,splice [b1,b2,b3,b4,b5,b6,b7,b8] 0 [c1,c2,c3,c4,c5,c6,c7,c8] = [c1,c2,c3,c4,c5,c6,c7,c8]:=fun _ _ _ _ _ _ _ _ _ _ _ _ _ _ _ _ => rfl
 have p8:∀ c1 c2 c3 c4 c5 c6 c7 c8:AV,part [c1,c2,c3,c4,c5,c6,c7,c8] 0 (some 8) = some (.agg [c1,c2,c3,c4,c5,c6,c7,c8]):=fun _ _ _ _ _ _ _ _ => rfl
 rw[gfC]
 simp (disch:=omega) only[A_xref13_copied,wp,qa,qb,qc,gl,l7,s8,p8]
 rw[vApp_src (ds:=intsC rf) (ds':=intsC rf) (ro:=false) (allow_no _ _ _) (by simp (disch:=omega) only[upd_ne];exact hr) (by rw[List.drop_zero,intsC_all hrl];exact frzL_ints' _ _)]
 refine bindO_app (.inl rfl) (fun i h => by cases h) ⟨by omega,by omega,rfl,by rw[intsC_len,hrl,Nat.mul_one]⟩ ?_
 intro tr hpr arr
 have kp:∀ i,i < g.nx + 2 + 3→hpr i = _:=fun i hi => arr.keep i (by omega) (fun e h => by cases h)
 dsimp only at kp
 have h1:hpr g.nx = some (.cells (gfC X R C) false):=by rw[kp _ (by omega)];simp (disch:=omega) only[upd_ne,upd_same];rfl
 have h2:hpr (g.nx + 1) = some (.cells [.i .i64 0,.sl [] 0 .rig,.sl [] 0 .rig,.sl [] 0 .rig,.sl [] 0 .rig,.sl [] 0 .rig,.sl [] 0 .rig,.sl [] 0 .rig] false):=by rw[kp _ (by omega)];simp (disch:=omega) only[upd_ne,upd_same]
 have h3:hpr (g.nx + 2 + 1) = some (.cells [.i .i64 X.locs,.sl (evsC X.evs) X.evs.length .non,.ms R 0 X.evs.length,.ms C 0 2,.sl (pairsC X.rmw) X.rmw.length .non,.sl (pairsC X.data) X.data.length .non,.sl (pairsC X.ctrl) X.ctrl.length .non,.sl (pairsC X.ctrli) X.ctrli.length .non] false):=by rw[kp _ (by omega)];simp (disch:=omega) only[upd_ne,upd_same]
 have hold:∀ i,i < g.nx→hpr i = g.hp i:=fun i hi => by rw[kp _ (by omega)];simp (disch:=omega) only[upd_ne]
 have hfr2:∀ i,g.nx + 2 + 3 + 5≤i→hpr i = none:=fun i hi => by
  rw[arr.keep i (by omega) (fun e h => by cases h)]
  simp (disch:=omega) only[upd_ne]
  exact hfr i (by omega)
 clear kp
 simp (disch:=omega) only[wp,qa,qb,qc,gl,h1,h2,h3]
 refine blk_cut (fun e g' => ∃ t1 t,CpI X rf [c0,c1] R C g.nx (g.nx + 1) (g.nx + 2 + 1) g 2 t1 t e g') ?_ ?_
 ·refine W_loop (fun q e g' => ∃ (i:Nat) (t1 t:Tok),q = 2 - i∧CpI X rf [c0,c1] R C g.nx (g.nx + 1) (g.nx + 2 + 1) g i t1 t e g') 2 ?_ ?_
  ·refine ⟨0,tr,.rig,rfl,by omega,rfl,rfl,rfl,rfl,?_,?_,?_,.inl rfl,(fun j h => by cases h),⟨by omega,by omega,by omega,by first | omega | (dsimp only;omega),by first | omega | (dsimp only;omega),by first | omega | (dsimp only;omega),by omega,by omega⟩,by first | omega | (dsimp only;omega),fun j hj => ?_,fun j hj => ?_⟩
   ·simp (disch:=omega) only[upd_ne];exact h1
   ·simp (disch:=omega) only[upd_ne];exact h2
   ·simp (disch:=omega) only[upd_same]
    simp[gcC,coC,hrl]
   ·simp (disch:=omega) only[upd_ne];exact hold j hj
   ·try dsimp only at hj
    simp (disch:=omega) only[upd_ne];exact hfr2 j (by omega)
  ·rintro q e g1 ⟨i,tt,t,rfl,hi,e1,e2,e3,e4,h1,h2,h3,tk,told,⟨b1,b2,b3,b4,b5,b6,b7,b8⟩,hx,st,fresh⟩
   by_cases d1:i < 2
   ·have d1':((i:Nat):Int) < ((2:Nat):Int):=by omega
    have hwi:=succ_wrap (k:=i) (by omega)
    have hC1:g1.hp C = some (.cells [.sl (intsC c0) c0.length t0,.sl (intsC c1) c1.length t1] false):=(st C hC).trans hc
    have hpt:∃ tw,part [AV.sl (intsC c0) c0.length t0,AV.sl (intsC c1) c1.length t1] (i * 1) none = some (.sl (intsC (([c0,c1]:List (List Int)).getD i [])) (([c0,c1]:List (List Int)).getD i []).length tw)∧(([c0,c1]:List (List Int)).getD i []).length≤1000∧([c0,c1]:List (List Int)).take (i + 1) = ([c0,c1]:List (List Int)).take i ++ [([c0,c1]:List (List Int)).getD i []]:=by
     have:i = 0∨i = 1:=by omega
     rcases this with rfl | rfl
     ·exact ⟨t0,rfl,hc0,rfl⟩
     ·exact ⟨t1,rfl,hc1,rfl⟩
    obtain ⟨tw,hpt,hcl,hnx⟩:=hpt
    have htl:(([c0,c1]:List (List Int)).take i).length≤2:=by rw[List.length_take];simp;omega
    generalize ([c0,c1]:List (List Int)).getD i [] = ci at hpt hcl hnx
    generalize hpre:([c0,c1]:List (List Int)).take i = pre at h3 htl hnx
    have hil:(intsC ci).length = ci.length * 1:=by rw[intsC_len,Nat.mul_one]
    have hpl:(coC pre).length = pre.length * 1:=by rw[coC_len,Nat.mul_one]
    have h10:=h1
    rw[gfC] at h1
    rw[gcC] at h3
    simp (disch:=omega) only[wp,qa,qb,qc,gl,e1,e2,e3,e4,h1,h3,d1',hC1,hpt]
    refine bindO_app (.inl rfl) (fun i h => by cases h) ⟨by omega,by omega,rfl,hil⟩ ?_
    intro ta hpa ara
    simp (disch:=omega) only[wp,qa,qb,qc,gl,e1,e2,e3,e4]
    have live:∀ i2,t = .own i2 1→i2 < g1.nx∧g.nx≤i2∧hpa i2 = g1.hp i2∧g1.hp i2 = some (.tok true):=fun i2 h2' => by
     rcases tk with h | ⟨i',h,h1',h3'⟩
     ·rw[h] at h2';cases h2'
     ·rw[h] at h2';cases h2'
      exact ⟨h3',told _ h,by rw[ara.keep i2 (by omega) (fun e h => by cases h)],h1'⟩
    refine bindO_app1 (esz:=1) (tk.mono (fun i2 h2 => (live i2 h2).2.2.1) (by first | omega | (dsimp only;omega))) (fun i2 h2 => allow_lt _ (by have:=(live i2 h2).1;first | omega | (dsimp only;omega))) ⟨by omega,by omega,hpl,rfl⟩ ?_
    intro tb hpb arb hpos
    obtain ⟨rfl,hlv⟩:=hpos (by omega)
    have kp:∀ i2 cs ro,i2 < g1.nx→g1.hp i2 = some (.cells cs ro)→hpb i2 = some (.cells cs ro):=fun i2 cs ro hi2 hh => by
     rw[arb.keep i2 (by omega) (fun e h => by
      rcases tk with h4 | ⟨i',h4,h5,h6⟩
      ·rw[h4] at h;cases h
      ·rw[h4] at h;cases h;rw[hh] at h5;cases h5)]
     dsimp only
     rw[ara.keep i2 (by omega) (fun e h => by cases h)]
     exact hh
    have k3:=kp _ _ _ b6 h3
    simp (disch:=omega) only[wp,qa,qb,qc,gl,e3,e4,k3,hwi]
    refine ⟨2 - (i + 1),by omega,i + 1,tt,.own (g1.nx + 5 + 9) 1,rfl,by omega,e1,e2,e3,rfl,?_,?_,?_,.inr ⟨_,rfl,?_,?_⟩,(fun j h => by cases h;omega),⟨b1,b2,b3,by first | omega | (dsimp only;omega),by first | omega | (dsimp only;omega),by first | omega | (dsimp only;omega),b7,b8⟩,by first | omega | (dsimp only;omega),fun j hj => ?_,fun j hj => ?_⟩
    ·show upd _ _ _ _ = _
     rw[upd_ne _ _ b7];exact kp _ _ _ b4 h10
    ·show upd _ _ _ _ = _
     rw[upd_ne _ _ b8];exact kp _ _ _ b5 h2
    ·show upd _ _ _ _ = _
     rw[upd_same,hnx,gcC,coC_app,List.length_append]
     simp[coC]
    ·show upd _ _ _ _ = _
     rw[upd_ne _ _ (by omega)];exact hlv
    ·first | omega | (dsimp only;omega)
    ·show upd _ _ _ _ = _
     rw[upd_ne _ _ (by omega),arb.keep j (by omega) (fun e h => by
      have:=told j
      rcases tk with h4 | ⟨i',h4,h5,h6⟩
      ·rw[h4] at h;cases h
      ·have:=told i' h4
       rw[h4] at h;cases h;omega)]
     dsimp only
     rw[ara.keep j (by omega) (fun e h => by cases h)]
     exact st j hj
    ·try dsimp only at hj
     simp (disch:=omega) only[upd_ne]
     rw[arb.keep j (by omega) (fun e h => by
      rcases tk with h4 | ⟨i',h4,h5,h6⟩
      ·rw[h4] at h;cases h
      ·rw[h4] at h;cases h;omega)]
     dsimp only
     rw[ara.keep j (by omega) (fun e h => by cases h)]
     exact fresh j (by omega)
   ·have d1':¬ ((i:Nat):Int) < ((2:Nat):Int):=by omega
    obtain rfl:i = 2:=by omega
    have h10:=h1
    rw[gfC] at h1
    simp (disch:=omega) only[wp,qa,qb,qc,gl,e1,e2,e3,e4,h1,d1']
    exact ⟨tt,t,by omega,e1,e2,e3,e4,h10,h2,h3,tk.mono (fun i hi => rfl) (by first | omega | (dsimp only;omega)),told,⟨b1,b2,b3,by first | omega | (dsimp only;omega),by first | omega | (dsimp only;omega),by first | omega | (dsimp only;omega),b7,b8⟩,by first | omega | (dsimp only;omega),st,fun j hj => fresh j (by first | omega | (dsimp only at hj;omega))⟩
 ·rintro e g1 ⟨tt,t,hi,e1,e2,e3,e4,h1,h2,h3,tk,told,⟨b1,b2,b3,b4,b5,b6,b7,b8⟩,hx,st,fresh⟩
  rw[show ([c0,c1]:List (List Int)).take 2 = [c0,c1] from rfl,gcC] at h3
  simp (disch:=omega) only[wp,qa,qb,qc,gl,e1,e2,e3,h2,h3,s8,p8,res_cell,resC]
  refine ⟨_,rfl,⟨tt,t,rfl⟩,by first | omega | (dsimp only;omega),fun j hj => ?_,fun j hj => ?_⟩
  ·show upd _ _ _ _ = _
   rw[upd_ne _ _ (by omega)]
   exact st j hj
  ·try dsimp only at hj
   simp (disch:=omega) only[upd_ne]
   exact fresh j (by omega)
end Go.Ab
end
section
set_option linter.unusedVariables false
set_option linter.unusedSimpArgs false
namespace Go.Ab
variable {F:Funs}
def gsC (L:List Gr):List AV:=L.flatMap grC
theorem gsC_len (L:List Gr):(gsC L).length = L.length * 8:=by
 induction L with
 | nil => rfl
 | cons X L ih => simp only[gsC,List.flatMap_cons,List.length_append,List.length_cons,grC_len] at ih ⊢;omega
theorem gsC_snoc (L:List Gr) (Y:Gr):gsC (L ++ [Y]) = gsC L ++ grC Y:=by simp[gsC]
structure EnS (P:Gr→Prop) (Eb:Nat) (L:List Gr) (t:Tok) (g:G):Prop where
 he:g.hp Eb = some (.cells [.sl (gsC L) L.length t,.b (decide (20000 < L.length))] false)
 tk:TkOk 8 g t
 ll:L.length≤20001
 ok:∀ Y∈L,P Y
 lt:Eb < g.nx
 fresh:∀ i,g.nx≤i→g.hp i = none
structure CoPre (X:Gr) (j:Nat) (l:List Int):Prop where
 wr:∀ v∈l,0≤v∧v < X.evs.length∧isWr (j:Int) (X.evs.getD v.toNat ev0) = true
 nd:l.Nodup
 hd:∃ r,l = (j:Int) :: r
def CoFull (X:Gr) (j:Nat) (l:List Int):Prop:=∀ w:Nat,w < X.evs.length→isWr (j:Int) (X.evs.getD w ev0) = true→(w:Int)∈l
theorem nat_nodup {l:List Int} (hn:l.Nodup) (hb:∀ v∈l,0≤v):(l.map Int.toNat).Nodup:=by
 rw[List.Nodup,List.pairwise_map]
 refine List.Pairwise.imp_of_mem (fun {a b} ha hb' hab => ?_) hn
 have:=hb a ha
 have:=hb b hb'
 omega
theorem nodup_filter {l:List Int} {n:Nat} {p:Nat→Bool} (hn:l.Nodup) (hb:∀ v∈l,0≤v∧v < (n:Int)) (hp:∀ w,w < n→((w:Int)∈l↔p w = true)):l.length = ((List.range n).filter p).length:=by
 have h1:=nat_nodup hn fun v hv => (hb v hv).1
 have h2:((List.range n).filter p).Nodup:=List.Nodup.sublist List.filter_sublist List.nodup_range
 have h3:(l.map Int.toNat).Perm ((List.range n).filter p):=(List.perm_ext_iff_of_nodup h1 h2).2 fun a => by
  rw[List.mem_map,List.mem_filter,List.mem_range]
  constructor
  ·rintro ⟨v,hv,rfl⟩
   obtain ⟨b1,b2⟩:=hb v hv
   refine ⟨by omega,(hp _ (by omega)).1 ?_⟩
   rw[Int.toNat_of_nonneg b1];exact hv
  ·rintro ⟨ha,hpa⟩
   exact ⟨(a:Int),(hp a ha).2 hpa,by simp⟩
 have:=h3.length_eq
 rwa [List.length_map] at this
theorem nodup_len {l:List Int} {n:Nat} (hn:l.Nodup) (hb:∀ v∈l,0≤v∧v < (n:Int)):l.length≤n:=by
 have h:=nodup_filter (p:=fun (w:Nat) => decide ((w:Int)∈l)) hn hb (fun w _ => by simp)
 have:=List.length_filter_le (fun (w:Nat) => decide ((w:Int)∈l)) (List.range n)
 rw[List.length_range] at this
 omega
theorem evs_map (l:List Ev):l = (List.range l.length).map fun i => l.getD i ev0:=by
 refine List.ext_getElem (by simp) fun i h1 h2 => ?_
 rw[List.getElem_map,List.getElem_range,List.getD_eq_getElem?_getD,List.getElem?_eq_getElem h1];rfl
theorem wr_count (l:List Ev) (p:Ev→Bool):(l.filter p).length = ((List.range l.length).filter fun i => p (l.getD i ev0)).length:=by
 conv => lhs;rw[evs_map l]
 rw[List.filter_map,List.length_map]
 rfl
theorem CoPre.len {X:Gr} {j:Nat} {l:List Int} (h:CoPre X j l):l.length≤X.evs.length:=nodup_len h.nd fun v hv => ⟨(h.wr v hv).1,(h.wr v hv).2.1⟩
theorem CoPre.snoc {X:Gr} {j:Nat} {l:List Int} (h:CoPre X j l) {w:Nat} (hw:w < X.evs.length) (hk:isWr (j:Int) (X.evs.getD w ev0) = true) (hn:(w:Int) ∉ l):CoPre X j (l ++ [(w:Int)]):=by
 obtain ⟨r,hr⟩:=h.hd
 refine ⟨fun v hv => ?_,?_,r ++ [(w:Int)],by rw[hr];rfl⟩
 ·rcases List.mem_append.1 hv with hv | hv
  ·exact h.wr v hv
  ·obtain rfl:v = (w:Int):=by simpa using hv
   exact ⟨by omega,by omega,by simpa using hk⟩
 ·rw[List.nodup_append]
  exact ⟨h.nd,by simp,fun a ha b hb => by
   obtain rfl:b = (w:Int):=by simpa using hb
   exact fun he => hn (he ▸ ha)⟩
theorem CoPre.ok {X Y:Gr} {j:Nat} {l:List Int} (he:Y.evs = X.evs) (h:CoPre X j l) (hf:CoFull X j l) (hl:Y.co.getD j [] = l):CoOk Y j:=by
 obtain ⟨r,hr⟩:=h.hd
 have hat:∀ i,i < l.length→l.getD i 0∈l:=fun i hi => getD_mem hi
 refine ⟨fun i hi => ?_,fun i hi k hk => ?_,?_,?_,?_⟩
 ·rw[hl] at hi ⊢
  obtain ⟨a,b,c⟩:=h.wr _ (hat i hi)
  rw[he]
  simp only[isWr,Bool.and_eq_true,beq_iff_eq] at c
  exact ⟨a,b,c.1,c.2⟩
 ·rw[hl] at hi ⊢
  have hp:=List.pairwise_iff_getElem.1 h.nd k i (by omega) hi hk
  rw[List.getD_eq_getElem?_getD,List.getD_eq_getElem?_getD,List.getElem?_eq_getElem hi,List.getElem?_eq_getElem (show k < l.length by omega)]
  exact hp
 ·rw[hl]
  unfold cntW
  rw[List.take_length,he,wr_count]
  refine nodup_filter h.nd (fun v hv => ⟨(h.wr v hv).1,(h.wr v hv).2.1⟩) fun w hw => ⟨fun hm => ?_,fun hp => hf w hw hp⟩
  have:=(h.wr _ hm).2.2
  simpa using this
 ·rw[hl,hr];simp
 ·rw[hl,hr];rfl
end Go.Ab
end
section
set_option linter.unusedVariables false
set_option linter.unusedSimpArgs false
namespace Go.Ab
variable {F:Funs}
def coC2 (cs:Nat→List Int) (ts:Nat→Tok):List AV:=[.sl (intsC (cs 0)) (cs 0).length (ts 0),.sl (intsC (cs 1)) (cs 1).length (ts 1)]
theorem co2_part {cs:Nat→List Int} {ts:Nat→Tok} {j:Nat} (h:j < 2):part [AV.sl (intsC (cs 0)) (cs 0).length (ts 0),.sl (intsC (cs 1)) (cs 1).length (ts 1)] (j * 1) none = some (.sl (intsC (cs j)) (cs j).length (ts j)):=by
 have:j = 0∨j = 1:=by omega
 rcases this with rfl | rfl<;>rfl
theorem co2_set {cs:Nat→List Int} {ts:Nat→Tok} {j:Nat} (h:j < 2) (l:List Int) (n:Nat) (t:Tok) (hn:n = l.length):[AV.sl (intsC (cs 0)) (cs 0).length (ts 0),.sl (intsC (cs 1)) (cs 1).length (ts 1)].set (j * 1) (.sl (intsC l) n t) = coC2 (upd cs j l) (upd ts j t):=by
 subst hn
 have:j = 0∨j = 1:=by omega
 rcases this with rfl | rfl<;>simp[coC2,upd]
theorem upd_upd {α:Type} (f:Nat→α) (j:Nat) (a b:α):upd (upd f j a) j b = upd f j b:=by
 funext k;unfold upd;split<;>rfl
theorem upd_id {α:Type} (f:Nat→α) (j:Nat):upd f j (f j) = f:=by
 funext k;unfold upd;split
 ·rename_i h;rw[h]
 ·rfl
structure Frm2 (A B:Nat) (g g':G):Prop where
 nx:g.nx≤g'.nx
 keep:∀ i,i < g.nx→i≠A→i≠B→(∀ b,g.hp i≠some (.tok b))→g'.hp i = g.hp i
def CoP (P:Gr→Prop) (Eb:Nat) (g g':G):Prop:=∃ L t,EnS P Eb L t g'∧Frm1 Eb g g'
structure CoW (P:Gr→Prop) (X:Gr) (Eb R C B4 loc:Nat) (rf was:List Int) (cs:Nat→List Int) (ts:Nat→Tok) (g0:G) (w:Nat) (more:Bool) (L:List Gr) (t:Tok) (l':List Int) (t':Tok) (e:Env) (g:G):Prop where
 hw:2≤w∧w≤X.evs.length
 e0:e 0 = .mp Eb 0
 e2:e 2 = .i .i64 ((loc:Nat):Int)
 e4:e 4 = .mp B4 0
 e6:e 6 = .b more
 e7:e 7 = .sl (intsC was) was.length (ts loc)
 e8:e 8 = .i .i64 ((w:Nat):Int)
 h4:g.hp B4 = some (.cells (gfC X R C) false)
 hr:g.hp R = some (.cells (intsC rf) false)
 hc:g.hp C = some (.cells (coC2 (upd cs loc l') (upd ts loc t')) false)
 en:EnS P Eb L t g
 fr:Frm2 Eb C g0 g
 b4:g0.nx≤B4∧B4 < g.nx
 no:more = false→∀ v:Nat,2≤v→v < w→isWr (loc:Int) (X.evs.getD v ev0) = true→(v:Int)∈was
theorem CoW.rc {P:Gr→Prop} {X:Gr} {Eb R C B4 loc:Nat} {rf was:List Int} {cs:Nat→List Int} {ts:Nat→Tok} {g0:G} {w:Nat} {more:Bool} {L:List Gr} {t:Tok} {l':List Int} {t':Tok} {e:Env} {g:G} (I:CoW P X Eb R C B4 loc rf was cs ts g0 w more L t l' t' e g):R < g.nx∧C < g.nx:=by
 constructor
 ·by_cases h:R < g.nx
  ·exact h
  ·have:=I.en.fresh R (by omega);rw[I.hr] at this;cases this
 ·by_cases h:C < g.nx
  ·exact h
  ·have:=I.en.fresh C (by omega);rw[I.hc] at this;cases this
theorem EnS.mv {P:Gr→Prop} {Eb:Nat} {L:List Gr} {t:Tok} {g:G} (h:EnS P Eb L t g) {hp':Nat→Option Blk} {m:Nat} (hk:∀ i,i < g.nx→hp' i = g.hp i) (hm:g.nx≤m) (hf:∀ i,m≤i→hp' i = none):EnS P Eb L t ⟨hp',m⟩:=
 ⟨(hk _ h.lt).trans h.he,h.tk.mono (fun i hi => hk i (by
   rcases h.tk with h1 | ⟨i',h1,h2,h3⟩
   ·rw[hi] at h1;cases h1
   ·rw[hi] at h1;cases h1;exact h3)) hm,h.ll,h.ok,Nat.lt_of_lt_of_le h.lt hm,hf⟩
theorem CoW.mv {P:Gr→Prop} {X:Gr} {Eb R C B4 loc:Nat} {rf was:List Int} {cs:Nat→List Int} {ts:Nat→Tok} {g0:G} {w:Nat} {more:Bool} {L:List Gr} {t:Tok} {l':List Int} {t':Tok} {e:Env} {g:G} (I:CoW P X Eb R C B4 loc rf was cs ts g0 w more L t l' t' e g)
  {e':Env} {hp':Nat→Option Blk} {m:Nat} (h0:e' 0 = e 0) (h2:e' 2 = e 2) (h4:e' 4 = e 4) (h6:e' 6 = e 6) (h7:e' 7 = e 7) (h8:e' 8 = e 8) (hk:∀ i,i < g.nx→hp' i = g.hp i) (hm:g.nx≤m) (hf:∀ i,m≤i→hp' i = none):CoW P X Eb R C B4 loc rf was cs ts g0 w more L t l' t' e' ⟨hp',m⟩:=
 ⟨I.hw,h0.trans I.e0,h2.trans I.e2,h4.trans I.e4,h6.trans I.e6,h7.trans I.e7,h8.trans I.e8,(hk _ I.b4.2).trans I.h4,(hk _ I.rc.1).trans I.hr,(hk _ I.rc.2).trans I.hc,I.en.mv hk hm hf,
  ⟨Nat.le_trans I.fr.nx hm,fun i hi a b c => by show hp' i = _;rw[hk i (Nat.lt_of_lt_of_le hi I.fr.nx)];exact I.fr.keep i hi a b c⟩,⟨I.b4.1,Nat.lt_of_lt_of_le I.b4.2 hm⟩,I.no⟩
theorem rp_co (h122:F 122 = some A_xref13_E_co) (h131:F 131 = some A_xref13_copied) {P:Gr→Prop} {X:Gr} {Eb R C:Nat} {rf:List Int} (hlocs:X.locs = 2) (hn:X.evs.length≤100) (hn2:2≤X.evs.length) (hfst:∀ w:Nat,w < 2→(X.evs.getD w ev0).lc = (w:Int)) (hrl:rf.length = X.evs.length)
  (hP:∀ cs:Nat→List Int,(∀ j,j < 2→CoPre X j (cs j)∧CoFull X j (cs j))→P (putX X rf [cs 0,cs 1])) (hne:Eb≠R∧Eb≠C∧R≠C):
  ∀ (k loc:Nat) (cs:Nat→List Int) (ts:Nat→Tok) (L:List Gr) (t:Tok) (g:G),(2 - loc) * (X.evs.length + 2) + (X.evs.length + 1 - (cs loc).length)≤k→loc≤2→EnS P Eb L t g→g.hp R = some (.cells (intsC rf) false)→g.hp C = some (.cells (coC2 cs ts) false)→R < g.nx→C < g.nx →
    (∀ j,j < 2→CoPre X j (cs j))→(∀ j,j < loc→CoFull X j (cs j)) →
    ∃ v g',callS F 122 [.mp Eb 0,.agg (gfC X R C),.i .i64 ((loc:Nat):Int)] g = some (v,g')∧CoP P Eb g g':=by
 intro k
 induction k using Nat.strongRecOn with
 | _ k ih =>
   intro loc cs ts L t g hk hloc en hr hc hR hC hpre hful
   obtain ⟨ne1,ne2,ne3⟩:=hne
   refine raw_of (P:=fun v g' => CoP P Eb g g') h122 ?_
   have he:=en.he
   have hEl:=en.lt
   have hgf:gfC X R C = [.i .i64 2,.sl (evsC X.evs) X.evs.length .non,.ms R 0 X.evs.length,.ms C 0 2,.sl (pairsC X.rmw) X.rmw.length .non,.sl (pairsC X.data) X.data.length .non,.sl (pairsC X.ctrl) X.ctrl.length .non,.sl (pairsC X.ctrli) X.ctrli.length .non]:=by rw[gfC,hlocs]
   have hcp:=fun g1 (a1:g1.hp R = some (.cells (intsC rf) false)) (a2:g1.hp C = some (.cells (coC2 cs ts) false)) (a3:R < g1.nx) (a4:C < g1.nx) (a5:∀ i,g1.nx≤i→g1.hp i = none) => rp_copied h131 (X:=X) (g:=g1) a1 a2 hrl a3 a4 (by omega) (by have:=(hpre 0 (by omega)).len;omega) (by have:=(hpre 1 (by omega)).len;omega) a5
   have l7:∀ x:AV,List.replicate 7 x = [x,x,x,x,x,x,x]:=fun _ => rfl
   have s8:∀ b1 b2 b3 b4 b5 b6 b7 b8 c1 c2 c3 c4 c5 c6 c7 c8:AV,splice [b1,b2,b3,b4,b5,b6,b7,b8] 0 [c1,c2,c3,c4,c5,c6,c7,c8] = [c1,c2,c3,c4,c5,c6,c7,c8]:=fun _ _ _ _ _ _ _ _ _ _ _ _ _ _ _ _ => rfl
   have tkl:∀ i,t = .own i 8→i < g.nx∧g.hp i = some (.tok true):=fun i hi => by
    rcases en.tk with h | ⟨i',h,h1,h2⟩
    ·rw[h] at hi;cases hi
    ·rw[h] at hi;cases hi;exact ⟨h2,h1⟩
   have p8:∀ c1 c2 c3 c4 c5 c6 c7 c8:AV,part [c1,c2,c3,c4,c5,c6,c7,c8] 0 (some 8) = some (.agg [c1,c2,c3,c4,c5,c6,c7,c8]):=fun _ _ _ _ _ _ _ _ => rfl
   by_cases cb:20000 < L.length
   ·rw[decide_eq_true cb] at he
    rw[hgf]
    simp (disch:=omega) only[A_xref13_E_co,wp,qa,qb,qc,gl,he]
    refine ⟨_,rfl,L,t,⟨?_,en.tk.mono (fun i hi => ?_) (by first | omega | (dsimp only;omega)),en.ll,en.ok,by first | omega | (dsimp only;omega),fun i hi => ?_⟩,⟨by first | omega | (dsimp only;omega),fun i hi _ _ => ?_⟩⟩
    ·simp (disch:=omega) only[upd_ne];exact en.he
    ·have:=(tkl i hi).1
     simp (disch:=omega) only[upd_ne]
    ·dsimp only at hi
     simp (disch:=omega) only[upd_ne]
     exact en.fresh i (by omega)
    ·simp (disch:=omega) only[upd_ne]
   ·rw[decide_eq_false cb] at he
    by_cases c2:loc = 2
    ·subst c2
     have c2':((((2:Nat):Int)) == (2:Int)) = true:=rfl
     have hgl:=gsC_len L
     rw[hgf]
     rw[hgf] at hcp
     simp (disch:=omega) only[A_xref13_E_co,wp,qa,qb,qc,gl,he,c2',p8,l7]
     refine bindO_see _ (hcp _ ?_ ?_ (by first | omega | (dsimp only;omega)) (by first | omega | (dsimp only;omega)) (fun i hi => ?_)) (fun v g' hv i b hb => ?_) ?_
     ·simp (disch:=omega) only[upd_ne];exact hr
     ·simp (disch:=omega) only[upd_ne];exact hc
     ·dsimp only at hi
      simp (disch:=omega) only[upd_ne];exact en.fresh i (by omega)
     ·by_cases hi:i < g.nx + 1 + 4 + 4 + 12
      ·rw[hv.2.2.1 i hi];exact hb
      ·dsimp only at hb
       rw[upd_ne _ _ (by omega),en.fresh i (by omega)] at hb
       cases hb
     rintro v g2 ⟨⟨t1,t2,rfl⟩,hx,hkeep,hfr2⟩
     dsimp only at hx hkeep
     rw[gcC]
     simp (disch:=omega) only[wp,qa,qb,qc,gl,s8]
     have lv:∀ i,i < g.nx→g2.hp i = g.hp i:=fun i hi => by rw[hkeep i (by omega),upd_ne _ _ (by omega)]
     refine bindO_app1 (esz:=8) (en.tk.mono (fun i hi => lv i (tkl i hi).1) (by omega)) (fun i hi => allow_lt _ (by have:=(tkl i hi).1;omega)) ⟨by omega,by omega,hgl,rfl⟩ ?_
     intro t3 hp3 ar3 hpos
     obtain ⟨rfl,hlv⟩:=hpos (by omega)
     have k3:∀ i,i < g.nx→(∀ e,t≠.own i e)→hp3 i = g.hp i:=fun i hi hne => by
      rw[ar3.keep i (by omega) hne];exact lv i hi
     have ne3:∀ i cs ro,g.hp i = some (.cells cs ro)→∀ e,t≠.own i e:=fun i cs ro hh e h => by
      rcases en.tk with h4 | ⟨i',h4,h5,h6⟩
      ·rw[h4] at h;cases h
      ·rw[h4] at h;cases h;rw[hh] at h5;cases h5
     have he3:=(k3 Eb hEl (ne3 _ _ _ he)).trans he
     simp (disch:=omega) only[wp,qa,qb,qc,gl,he3]
     refine ⟨_,rfl,L ++ [putX X rf [cs 0,cs 1]],.own (g.nx + 1 + 4 + 4 + 8) 8,⟨?_,.inr ⟨_,rfl,?_,?_⟩,by simp;omega,fun Y hY => ?_,by first | omega | (dsimp only;omega),fun i hi => ?_⟩,⟨by first | omega | (dsimp only;omega),fun i hi hb ht => ?_⟩⟩
     ·show upd _ _ _ _ = _
      rw[upd_same,gsC_snoc,List.length_append]
      have hdec:(decide ((20000:Int) < ((L.length + 1:Nat):Int))) = decide (20000 < L.length + [putX X rf [cs 0,cs 1]].length):=by
       rw[decide_eq_decide];simp;omega
      rw[hdec]
      rfl
     ·simp (disch:=omega) only[upd_ne];exact hlv
     ·first | omega | (dsimp only;omega)
     ·rcases List.mem_append.1 hY with hY | hY
      ·exact en.ok Y hY
      ·obtain rfl:Y = putX X rf [cs 0,cs 1]:=by simpa using hY
       exact hP cs fun j hj => ⟨hpre j hj,hful j hj⟩
     ·dsimp only at hi
      simp (disch:=omega) only[upd_ne]
      rw[ar3.keep i (by omega) (fun e h => by have:=(tkl i (by rcases en.tk with h4 | ⟨i',h4,_,_⟩<;>rw[h4] at h<;>cases h;exact h4)).1;omega)]
      exact hfr2 i (by omega)
     ·simp (disch:=omega) only[upd_ne]
      rw[ar3.keep i (by omega) (fun e h => ht true (tkl i (by rcases en.tk with h4 | ⟨i',h4,_,_⟩<;>rw[h4] at h<;>cases h;exact h4)).2)]
      exact lv i hi
    ·have c2':(((loc:Nat):Int) == (2:Int)) = false:=by simp;omega
     have hc':=hc
     rw[coC2] at hc'
     have hl2:loc < 2:=by omega
     have hpt:=co2_part (cs:=cs) (ts:=ts) hl2
     rw[hgf]
     have hmul:(2 - loc) * (X.evs.length + 2) = (2 - (loc + 1)) * (X.evs.length + 2) + (X.evs.length + 2):=by
      rw[←Nat.succ_mul];congr 1;omega
     have hcl:=(hpre loc hl2).len
     have enr:∀ (cs':Nat→List Int) (loc':Nat),(2 - loc') * (X.evs.length + 2) + (X.evs.length + 1 - (cs' loc').length) < (2 - loc) * (X.evs.length + 2) + (X.evs.length + 1 - (cs loc).length)→_:=fun cs' loc' hm => ih _ (Nat.lt_of_lt_of_le hm hk) loc' cs'
     simp (disch:=omega) only[A_xref13_E_co,wp,qa,qb,qc,gl,he,c2',p8,hc',hpt]
     refine blk_cut (fun e g' => ∃ more L1 t1 l' t',CoW P X Eb R C g.nx loc rf (cs loc) cs ts g X.evs.length more L1 t1 l' t' e g') ?_ ?_
     ·refine W_loop (fun q e g' => ∃ (w:Nat) (more:Bool) (L1:List Gr) (t1:Tok) (l':List Int) (t':Tok),q = X.evs.length - w∧CoW P X Eb R C g.nx loc rf (cs loc) cs ts g w more L1 t1 l' t' e g') (X.evs.length - 2) ?_ ?_
      ·refine ⟨2,false,L,t,cs loc,ts loc,rfl,⟨by omega,hn2⟩,rfl,rfl,rfl,rfl,rfl,rfl,?_,?_,?_,⟨?_,en.tk.mono (fun i hi => ?_) (by first | omega | (dsimp only;omega)),en.ll,en.ok,by first | omega | (dsimp only;omega),fun i hi => ?_⟩,⟨by first | omega | (dsimp only;omega),fun i hi _ _ _ => ?_⟩,⟨Nat.le_refl _,by first | omega | (dsimp only;omega)⟩,fun _ v h1 h2 => by omega⟩
       ·simp (disch:=omega) only[upd_same];rw[hgf]
       ·simp (disch:=omega) only[upd_ne];exact hr
       ·simp (disch:=omega) only[upd_ne];rw[upd_id,upd_id];exact hc
       ·simp (disch:=omega) only[upd_ne];exact en.he
       ·have:=(tkl i hi).1
        simp (disch:=omega) only[upd_ne]
       ·try dsimp only at hi
        simp (disch:=omega) only[upd_ne]
        exact en.fresh i (by omega)
       ·simp (disch:=omega) only[upd_ne]
      ·rintro q e g1 ⟨w,more,L1,t1,l',t',rfl,I⟩
       have e0:=I.e0
       have e2:=I.e2
       have e4:=I.e4
       have e6:=I.e6
       have e7:=I.e7
       have e8:=I.e8
       have h4:=I.h4
       have hx1:=I.fr.nx
       obtain ⟨b41,b42⟩:=I.b4
       rw[hgf] at h4
       by_cases d1:w < X.evs.length
       ·have d1':((w:Nat):Int) < ((X.evs.length:Nat):Int):=by omega
        have hev:=ev_part d1
        have hww:=succ_wrap (k:=w) (by omega)
        have hwx:isWr (loc:Int) (X.evs.getD w ev0) = isWr (loc:Int) (X.evs.getD w ev0):=rfl
        generalize hxe:X.evs.getD w ev0 = x at hev hwx
        have hRC:R < g1.nx∧C < g1.nx:=by
         constructor
         ·by_cases h:R < g1.nx
          ·exact h
          ·have:=I.en.fresh R (by omega);rw[I.hr] at this;cases this
         ·by_cases h:C < g1.nx
          ·exact h
          ·have:=I.en.fresh C (by omega);rw[I.hc] at this;cases this
        -- one more event
        rw[W_seq]
        refine W_cut (fun e g2 => CoW P X Eb R C g.nx loc rf (cs loc) cs ts g w more L1 t1 l' t' e g2) ?_ ?_
        ·simp (disch:=omega) only[wp,qa,qb,qc,gl,e0,e2,e4,e6,e7,e8,h4,d1']
         exact I.mv rfl rfl rfl rfl rfl rfl (fun i hi => rfl) (by first | omega | (dsimp only;omega)) (fun i hi => I.en.fresh i (by first | omega | (dsimp only at hi;omega)))
        clear I e0 e2 e4 e6 e7 e8 h4 hx1 b41 b42 hRC
        clear e g1
        rintro e g1 I
        have hRC:=I.rc
        rw[W_seq,W_blk,W_seq]
        have h4:=I.h4
        rw[hgf] at h4
        obtain ⟨b41,b42⟩:=I.b4
        have e4:=I.e4
        have e8:=I.e8
        have d1':((w:Nat):Int) < ((X.evs.length:Nat):Int):=by omega
        have l5:∀ y:AV,List.replicate 5 y = [y,y,y,y,y]:=fun _ => rfl
        have s6:∀ b1 b2 b3 b4 b5 b6 c1 c2 c3 c4 c5 c6:AV,splice [b1,b2,b3,b4,b5,b6] 0 [c1,c2,c3,c4,c5,c6] = [c1,c2,c3,c4,c5,c6]:=fun _ _ _ _ _ _ _ _ _ _ _ _ => rfl
        refine W_cut (fun e g2 => CoW P X Eb R C g.nx loc rf (cs loc) cs ts g w more L1 t1 l' t' e g2∧∃ b,e 9 = .mp b 0∧g2.hp b = some (.cells (evC x) false)∧b < g2.nx) ?_ ?_
        ·rw[evC] at hev
         simp (disch:=omega) only[wp,qa,qb,qc,gl,e4,e8,h4,d1',hev,l5,s6]
         refine ⟨I.mv rfl rfl rfl rfl rfl rfl (fun i hi => ?_) (by first | omega | (dsimp only;omega)) (fun i hi => ?_),_,rfl,upd_same _ _ _,by first | omega | (dsimp only;omega)⟩
         ·simp (disch:=omega) only[upd_ne]
         ·try dsimp only at hi
          simp (disch:=omega) only[upd_ne]
          exact I.en.fresh i (by omega)
        clear e4 e8 h4 b41 b42 hRC I
        clear e g1
        rintro e g1 ⟨I,b,e9,h9,b9⟩
        rw[W_seq]
        have e2:=I.e2
        refine W_cut (fun e g2 => CoW P X Eb R C g.nx loc rf (cs loc) cs ts g w more L1 t1 l' t' e g2∧e 10 = .b (!isWr (loc:Int) x)) ?_ ?_
        ·cases hk2:(x.kd == 2) with
         | false =>
           have hk2':(x.kd != 2) = true:=by rw[bne,hk2];rfl
           have hw0:isWr (loc:Int) x = false:=by rw[isWr,hk2];rfl
           simp (disch:=omega) only[wp,qa,qb,qc,gl,e2,e9,h9,hk2',hw0]
           exact I.mv rfl rfl rfl rfl rfl rfl (fun i hi => rfl) (by first | omega | (dsimp only;omega)) (fun i hi => I.en.fresh i (by first | omega | (dsimp only at hi;omega)))
         | true =>
           have hk2':(x.kd != 2) = false:=by rw[bne,hk2];rfl
           have hw0:isWr (loc:Int) x = (x.lc == (loc:Int)):=by rw[isWr,hk2];rfl
           simp (disch:=omega) only[wp,qa,qb,qc,gl,e2,e9,h9,hk2',hw0]
           exact ⟨I.mv rfl rfl rfl rfl rfl rfl (fun i hi => rfl) (by first | omega | (dsimp only;omega)) (fun i hi => I.en.fresh i (by first | omega | (dsimp only at hi;omega))),rfl⟩
        clear e9 h9 b9 e2 I hev
        clear e g1
        rintro e g1 ⟨I,e10⟩
        rw[W_seq]
        refine W_cut (fun e g2 => CoW P X Eb R C g.nx loc rf (cs loc) cs ts g w more L1 t1 l' t' e g2∧e 10 = .b (!isWr (loc:Int) x || decide ((w:Int)∈cs loc))) ?_ ?_
        ·have e7:=I.e7
         have e8:=I.e8
         simp (disch:=omega) only[wp,qa,qb,qc,gl]
         refine blk_end (fun e g2 => CoW P X Eb R C g.nx loc rf (cs loc) cs ts g w more L1 t1 l' t' e g2∧e 10 = .b (!isWr (loc:Int) x || decide ((w:Int)∈cs loc))) ?_ ?_
         ·refine W_loop (fun q e g2 => ∃ k:Nat,q = (cs loc).length - k∧k≤(cs loc).length∧CoW P X Eb R C g.nx loc rf (cs loc) cs ts g w more L1 t1 l' t' e g2∧e 10 = .b (!isWr (loc:Int) x || decide ((w:Int)∈(cs loc).take k))∧e 11 = .i .i64 ((k:Nat):Int)) (cs loc).length ?_ ?_
          ·refine ⟨0,rfl,Nat.zero_le _,I.mv rfl rfl rfl rfl rfl rfl (fun i hi => rfl) (by first | omega | (dsimp only;omega)) (fun i hi => I.en.fresh i (by first | omega | (dsimp only at hi;omega))),?_,rfl⟩
           simp (disch:=omega) only[wp,qa,qb,qc,e10,List.take_zero,List.not_mem_nil]
          ·rintro q e g2 ⟨k2,rfl,hk2,I,e10,e11⟩
           have e7:=I.e7
           have e8:=I.e8
           by_cases d2:k2 < (cs loc).length
           ·have d2':((k2:Nat):Int) < (((cs loc).length:Nat):Int):=by omega
            have hip:=ints_part d2
            have hwk:=succ_wrap (k:=k2) (by omega)
            have hmem:decide ((w:Int)∈(cs loc).take (k2 + 1)) = (decide ((w:Int)∈(cs loc).take k2) || ((cs loc).getD k2 0 == (w:Int))):=by
             rw[take_getD d2]
             generalize (cs loc).getD k2 0 = y
             by_cases h1:(w:Int)∈(cs loc).take k2
             ·rw[decide_eq_true h1,decide_eq_true (List.mem_append_left _ h1)];rfl
             ·by_cases h2:y = (w:Int)
              ·subst h2
               rw[decide_eq_true (List.mem_append_right _ (List.mem_singleton.2 rfl))];simp
              ·rw[decide_eq_false h1,decide_eq_false (fun h => by
                rcases List.mem_append.1 h with h | h
                ·exact h1 h
                ·exact h2 (List.mem_singleton.1 h).symm)]
               simp[h2]
            generalize (cs loc).getD k2 0 = y at hip hmem
            cases hb:(!isWr (loc:Int) x || decide ((w:Int)∈(cs loc).take k2)) with
            | true =>
              rw[hb] at e10
              simp (disch:=omega) only[wp,qa,qb,qc,gl,e7,e8,e10,e11,d2',hwk]
              exact ⟨(cs loc).length - (k2 + 1),by omega,k2 + 1,rfl,by omega,I.mv rfl rfl rfl rfl rfl rfl (fun i hi => rfl) (by first | omega | (dsimp only;omega)) (fun i hi => I.en.fresh i (by first | omega | (dsimp only at hi;omega))),by rw[hmem,←Bool.or_assoc,hb];rfl,rfl⟩
            | false =>
              rw[hb] at e10
              simp (disch:=omega) only[wp,qa,qb,qc,gl,e7,e8,e10,e11,d2',hwk,hip]
              exact ⟨(cs loc).length - (k2 + 1),by omega,k2 + 1,rfl,by omega,I.mv rfl rfl rfl rfl rfl rfl (fun i hi => rfl) (by first | omega | (dsimp only;omega)) (fun i hi => I.en.fresh i (by first | omega | (dsimp only at hi;omega))),by rw[hmem,←Bool.or_assoc,hb];rfl,rfl⟩
           ·have d2':¬ ((k2:Nat):Int) < (((cs loc).length:Nat):Int):=by omega
            obtain rfl:k2 = (cs loc).length:=by omega
            rw[List.take_length] at e10
            simp (disch:=omega) only[wp,qa,qb,qc,gl,e7,e8,e10,e11,d2']
            exact I.mv rfl rfl rfl rfl rfl rfl (fun i hi => rfl) (by first | omega | (dsimp only;omega)) (fun i hi => I.en.fresh i (by first | omega | (dsimp only at hi;omega)))
         ·rintro e g2 ⟨I,e10⟩
          simp (disch:=omega) only[wp,qa,qb,qc]
          exact ⟨I,e10⟩
        clear e10 I
        clear e g1
        rintro e g1 ⟨I,e10⟩
        have e0:=I.e0
        have e2:=I.e2
        have e4:=I.e4
        have e7:=I.e7
        have e8:=I.e8
        have h4:=I.h4
        rw[hgf] at h4
        obtain ⟨b41,b42⟩:=I.b4
        cases hb:(!isWr (loc:Int) x || decide ((w:Int)∈cs loc)) with
        | true =>
          rw[hb] at e10
          simp (disch:=omega) only[wp,qa,qb,qc,gl,e8,e10,hww]
          have I2:∀ e' m,e' 0 = e 0→e' 2 = e 2→e' 4 = e 4→e' 6 = e 6→e' 7 = e 7→e' 8 = .i .i64 ((w + 1:Nat):Int)→g1.nx≤m→CoW P X Eb R C g.nx loc rf (cs loc) cs ts g (w + 1) more L1 t1 l' t' e' ⟨g1.hp,m⟩:=fun e' m a0 a2 a4 a6 a7 a8 hm =>
           ⟨⟨by have:=I.hw.1;omega,by omega⟩,a0.trans I.e0,a2.trans I.e2,a4.trans I.e4,a6.trans I.e6,a7.trans I.e7,a8,I.h4,I.hr,I.hc,I.en.mv (fun i hi => rfl) hm (fun i hi => I.en.fresh i (by omega)),⟨Nat.le_trans I.fr.nx hm,I.fr.keep⟩,⟨b41,Nat.lt_of_lt_of_le b42 hm⟩,fun hmo v h2 hv hvw => by
             by_cases hvw2:v = w
             ·subst hvw2
              rw[hxe] at hvw
              rw[hvw] at hb
              simpa using hb
             ·exact I.no hmo v h2 (by omega) hvw⟩
          exact ⟨X.evs.length - (w + 1),by omega,w + 1,more,L1,t1,l',t',rfl,I2 _ _ rfl rfl rfl rfl rfl rfl (by first | omega | (dsimp only;omega))⟩
        | false =>
          rw[hb] at e10
          simp only[Bool.or_eq_false_iff,Bool.not_eq_false',decide_eq_false_iff_not] at hb
          have hc1:=I.hc
          rw[coC2] at hc1
          have hil:(intsC (cs loc)).length = (cs loc).length * 1:=by rw[intsC_len,Nat.mul_one]
          simp (disch:=omega) only[wp,qa,qb,qc,gl,e0,e2,e4,e7,e8,e10,h4]
          refine bindO_app (.inl rfl) (fun i h => by cases h) ⟨by omega,by omega,rfl,hil⟩ ?_
          intro ta hpa ara
          simp (disch:=omega) only[wp,qa,qb,qc,gl,e0,e2,e4,e7,e8]
          refine bindO_app (esz:=1) (ara.ok (by first | omega | (dsimp only;omega))) ?_ ⟨by omega,by omega,hil,rfl⟩ ?_
          ·intro i2 h2
           rcases ara.tok with h | ⟨h,_⟩
           ·rw[h] at h2;cases h2
           ·rw[h] at h2;cases h2
            exact allow_hd _ rfl
          intro tb hpb arb
          have kp:∀ i,i < g1.nx→hpb i = g1.hp i:=fun i hi => by
           rw[arb.keep i (by omega) (fun e h => by
            rcases ara.tok with h4 | ⟨h4,_⟩
            ·rw[h4] at h;cases h
            ·rw[h4] at h;cases h;omega)]
           dsimp only
           rw[ara.keep i (by omega) (fun e h => by cases h)]
          have kf:∀ i,g1.nx + 2 + 1 + 8≤i→hpb i = none:=fun i hi => by
           rw[arb.keep i (by omega) (fun e h => by
            rcases ara.tok with h4 | ⟨h4,_⟩
            ·rw[h4] at h;cases h
            ·rw[h4] at h;cases h;omega)]
           dsimp only
           rw[ara.keep i (by omega) (fun e h => by cases h)]
           exact I.en.fresh i (by omega)
          have hcb:=(kp C I.rc.2).trans hc1
          have h4b:=(kp g.nx b42).trans h4
          have hset:=co2_set (cs:=upd cs loc l') (ts:=upd ts loc t') hl2 (cs loc ++ [(w:Int)]) ((cs loc).length + 1) tb (by simp)
          rw[upd_upd,upd_upd,show intsC (cs loc ++ [(w:Int)]) = intsC (cs loc) ++ [.i .i64 (w:Int)] by simp[intsC]] at hset
          have hlen1:(upd cs loc (cs loc ++ [(w:Int)]) loc).length = (cs loc).length + 1:=by rw[upd_same];simp
          have hrec:=enr (upd cs loc (cs loc ++ [(w:Int)])) loc (by rw[hlen1];omega) (upd ts loc tb) L1 t1
          rw[hgf] at hrec
          have hpre2:∀ j,j < 2→CoPre X j (upd cs loc (cs loc ++ [(w:Int)]) j):=fun j hj => by
           by_cases hjl:j = loc
           ·subst hjl
            rw[upd_same]
            exact (hpre j hj).snoc d1 (by rw[hxe];exact hb.1) hb.2
           ·rw[upd_ne _ _ hjl];exact hpre j hj
          have hful2:∀ j,j < loc→CoFull X j (upd cs loc (cs loc ++ [(w:Int)]) j):=fun j hj => by
           rw[upd_ne _ _ (by omega)];exact hful j hj
          have tk1:∀ i e,t1 = .own i e→i < g1.nx∧i≠C:=fun i e hi => by
           rcases I.en.tk with h | ⟨i',h,h1,h2⟩
           ·rw[h] at hi;cases hi
           ·rw[h] at hi;cases hi
            exact ⟨h2,fun hh => by rw[hh,I.hc] at h1;cases h1⟩
          simp (disch:=omega) only[wp,qa,qb,qc,gl,e0,e2,e4,hcb,h4b,hset,p8]
          refine bindO_call _ (hrec _ (Nat.le_refl _) (by omega) ⟨(upd_ne _ _ ne2).trans ((kp Eb I.en.lt).trans I.en.he),I.en.tk.mono (fun i hi => (upd_ne _ _ (tk1 i _ hi).2).trans (kp i (tk1 i _ hi).1)) ?_,I.en.ll,I.en.ok,?_,fun i hi => ?_⟩ ((upd_ne _ _ ne3).trans ((kp R I.rc.1).trans I.hr)) (upd_same _ _ _) ?_ ?_ hpre2 hful2) ?_
          ·first | omega | (dsimp only;omega)
          ·have:=I.en.lt
           first | omega | (dsimp only;omega)
          ·try dsimp only at hi
           simp (disch:=omega) only[upd_ne]
           exact kf i (by omega)
          ·have:=I.rc.1
           first | omega | (dsimp only;omega)
          ·have:=I.rc.2
           first | omega | (dsimp only;omega)
          ·rintro v g3 ⟨L3,t3,en3,fr3⟩
           have fx:=fr3.nx
           dsimp only at fx
           have hx1:=I.fr.nx
           have hrc:=I.rc
           simp (disch:=omega) only[wp,qa,qb,qc,gl,e8,hww]
           refine ⟨X.evs.length - (w + 1),by omega,w + 1,true,L3,t3,cs loc ++ [(w:Int)],tb,rfl,⟨by have:=I.hw.1;omega,by omega⟩,e0,e2,e4,rfl,e7,rfl,?_,?_,?_,en3.mv (fun i hi => rfl) (by first | omega | (dsimp only;omega)) (fun i hi => en3.fresh i (by first | omega | (dsimp only at hi;omega))),⟨by first | omega | (dsimp only;omega),fun i hi a b c => ?_⟩,⟨b41,by first | omega | (dsimp only;omega)⟩,fun h => by cases h⟩
           ·refine fr3.cells (by first | omega | (dsimp only;omega)) (by omega) ?_
            rw[hgf]
            exact (upd_ne _ _ (by omega)).trans h4b
           ·exact fr3.cells (by first | omega | (dsimp only;omega)) (by omega) ((upd_ne _ _ ne3).trans ((kp R hrc.1).trans I.hr))
           ·exact fr3.cells (by first | omega | (dsimp only;omega)) (by omega) (upd_same _ _ _)
           ·have h1:=I.fr.keep i hi a b c
            have h2:upd hpb C (some (.cells (coC2 (upd cs loc (cs loc ++ [(w:Int)])) (upd ts loc tb)) false)) i = g.hp i:=by
             rw[upd_ne _ _ b,kp i (by omega),h1]
            exact (fr3.keep i (by first | omega | (dsimp only;omega)) a (fun b' hb' => c b' (h2 ▸ hb'))).trans h2
       ·have d1':¬ ((w:Nat):Int) < ((X.evs.length:Nat):Int):=by omega
        obtain rfl:w = X.evs.length:=by have:=I.hw;omega
        simp (disch:=omega) only[wp,qa,qb,qc,gl,e0,e2,e4,e6,e7,e8,h4,d1']
        exact ⟨more,L1,t1,l',t',I.hw,e0,e2,e4,e6,e7,e8,I.h4,I.hr,I.hc,⟨I.en.he,I.en.tk.mono (fun i hi => rfl) (by first | omega | (dsimp only;omega)),I.en.ll,I.en.ok,by have:=I.en.lt;first | omega | (dsimp only;omega),fun i hi => I.en.fresh i (by first | omega | (dsimp only at hi;omega))⟩,⟨by first | omega | (dsimp only;omega),I.fr.keep⟩,⟨b41,by first | omega | (dsimp only;omega)⟩,I.no⟩
     ·rintro e g1 ⟨more,L1,t1,l',t',I⟩
      have e0:=I.e0
      have e2:=I.e2
      have e4:=I.e4
      have e6:=I.e6
      have e7:=I.e7
      have h4:=I.h4
      have hc1:=I.hc
      have hx1:=I.fr.nx
      obtain ⟨b41,b42⟩:=I.b4
      rw[hgf] at h4
      rw[coC2] at hc1
      have hset:=co2_set (cs:=upd cs loc l') (ts:=upd ts loc t') hl2 (cs loc) _ (ts loc) rfl
      rw[upd_upd,upd_upd,upd_id,upd_id] at hset
      have hwl:IntKind.i64.wrap (((loc:Nat):Int) + 1) = ((loc + 1:Nat):Int):=succ_wrap (by omega)
      have hC1:C < g1.nx:=by omega
      have tkl1:∀ i e,t1 = .own i e→i < g1.nx∧g1.hp i = some (.tok true):=fun i e hi => by
       rcases I.en.tk with h | ⟨i',h,h1,h2⟩
       ·rw[h] at hi;cases hi
       ·rw[h] at hi;cases hi;exact ⟨h2,h1⟩
      have tkC:∀ i e,t1 = .own i e→i≠C:=fun i e hi h => by
       have:=(tkl1 i e hi).2
       rw[h,I.hc] at this;cases this
      -- the state with the order put back
      have EN:∀ m,g1.nx≤m→EnS P Eb L1 t1 ⟨upd g1.hp C (some (.cells (coC2 cs ts) false)),m⟩∧Frm1 Eb g ⟨upd g1.hp C (some (.cells (coC2 cs ts) false)),m⟩:=fun m hm => by
       refine ⟨⟨(upd_ne _ _ ne2).trans I.en.he,I.en.tk.mono (fun i hi => upd_ne _ _ (tkC i 8 hi)) hm,I.en.ll,I.en.ok,by have:=I.en.lt;first | omega | (dsimp only;omega),fun i hi => ?_⟩,⟨by first | omega | (dsimp only;omega),fun i hi hb ht => ?_⟩⟩
       ·try dsimp only at hi
        simp (disch:=omega) only[upd_ne]
        exact I.en.fresh i (by omega)
       ·by_cases hiC:i = C
        ·subst hiC;exact (upd_same _ _ _).trans hc.symm
        ·exact (upd_ne _ _ hiC).trans (I.fr.keep i hi hb hiC ht)
      cases hmr:more with
      | true =>
        rw[hmr] at e6
        simp (disch:=omega) only[wp,qa,qb,qc,gl,e0,e2,e4,e6,e7,h4,hc1,hset]
        exact ⟨_,rfl,L1,t1,(EN _ (by first | omega | (dsimp only;omega))).1,(EN _ (by first | omega | (dsimp only;omega))).2⟩
      | false =>
        rw[hmr] at e6
        have hrec:=enr cs (loc + 1) (by omega) ts L1 t1
        rw[hgf] at hrec
        have hfull:∀ j,j < loc + 1→CoFull X j (cs j):=fun j hj => by
         by_cases hjl:j = loc
         ·subst hjl
          intro v hv hvw
          by_cases hv2:v < 2
          ·have h1:=hfst v hv2
           simp only[isWr,Bool.and_eq_true,beq_iff_eq] at hvw
           obtain ⟨r,hr'⟩:=(hpre j hl2).hd
           rw[hr',show (v:Int) = (j:Int) by omega]
           exact List.mem_cons_self ..
          ·exact I.no hmr v (by omega) hv hvw
         ·exact hful j (by omega)
        simp (disch:=omega) only[wp,qa,qb,qc,gl,e0,e2,e4,e6,e7,h4,hc1,hset,p8,hwl]
        refine bindO_call _ (hrec _ (Nat.le_refl _) (by omega) (EN _ ?_).1 ?_ (upd_same _ _ _) ?_ ?_ hpre hfull) ?_
        ·first | omega | (dsimp only;omega)
        ·exact (upd_ne _ _ ne3).trans I.hr
        ·first | omega | (dsimp only;omega)
        ·first | omega | (dsimp only;omega)
        ·rintro v g3 ⟨L3,t3,en3,fr3⟩
         simp (disch:=omega) only[wp,qa,qb,qc,gl]
         exact ⟨_,rfl,L3,t3,en3,(EN _ (by first | omega | (dsimp only;omega))).2.trans fr3⟩
end Go.Ab
end
section
set_option linter.unusedVariables false
set_option linter.unusedSimpArgs false
namespace Go.Ab
variable {F:Funs}
theorem RfOk.congr {X:Gr} {rf rf':List Int} {co co':List (List Int)} {i:Nat} (h:RfOk (putX X rf co) i) (he:rf'.getD i 0 = rf.getD i 0):RfOk (putX X rf' co') i:=by
 unfold RfOk at h ⊢
 have e1:(putX X rf' co').rf.getD i 0 = (putX X rf co).rf.getD i 0:=he
 rw[e1]
 exact h
def cs0:Nat→List Int:=fun j => [(j:Int)]
theorem EnS.mvR {P:Gr→Prop} {Eb R:Nat} {L:List Gr} {t:Tok} {g:G} {cs:List AV} {ro:Bool} (h:EnS P Eb L t g) (hR:g.hp R = some (.cells cs ro)) (hne:Eb≠R) {hp':Nat→Option Blk} {m:Nat} (hk:∀ i,i < g.nx→i≠R→hp' i = g.hp i) (hm:g.nx≤m) (hf:∀ i,m≤i→hp' i = none):EnS P Eb L t ⟨hp',m⟩:=
 ⟨(hk _ h.lt hne).trans h.he,h.tk.mono (fun i hi => by
   rcases h.tk with h1 | ⟨i',h1,h2,h3⟩
   ·rw[hi] at h1;cases h1
   ·rw[hi] at h1;cases h1
    exact hk i h3 (fun hh => by rw[hh,hR] at h2;cases h2)) hm,h.ll,h.ok,Nat.lt_of_lt_of_le h.lt hm,hf⟩
structure RfR (P:Gr→Prop) (X:Gr) (Eb R:Nat) (rf:List Int) (i:Nat) (g g':G):Prop where
 en:∃ L t,EnS P Eb L t g'
 hr:∃ rf',g'.hp R = some (.cells (intsC rf') false)∧rf'.length = X.evs.length∧∀ j,j < i→rf'.getD j 0 = rf.getD j 0
 fr:Frm2 Eb R g g'
structure RfW (P:Gr→Prop) (X:Gr) (Eb R C B4 b:Nat) (ts:Nat→Tok) (rf:List Int) (i:Nat) (g0:G) (w:Nat) (L:List Gr) (t:Tok) (rf1:List Int) (e:Env) (g:G):Prop where
 hw:w≤X.evs.length
 e0:e 0 = .mp Eb 0
 e2:e 2 = .i .i64 ((i:Nat):Int)
 e4:e 4 = .mp B4 0
 e6:e 6 = .mp b 0
 e7:e 7 = .i .i64 ((w:Nat):Int)
 h4:g.hp B4 = some (.cells (gfC X R C) false)
 h6:g.hp b = some (.cells (evC (X.evs.getD i ev0)) false)
 hr:g.hp R = some (.cells (intsC rf1) false)
 rl:rf1.length = X.evs.length
 rp:∀ j,j < i→rf1.getD j 0 = rf.getD j 0
 hc:g.hp C = some (.cells (coC2 cs0 ts) false)
 en:EnS P Eb L t g
 fr:Frm2 Eb R g0 g
 bs:g0.nx≤B4∧g0.nx≤b∧B4 < g.nx∧b < g.nx
 rc:R < g0.nx∧C < g0.nx∧Eb < g0.nx
theorem RfW.mv {P:Gr→Prop} {X:Gr} {Eb R C B4 b:Nat} {ts:Nat→Tok} {rf:List Int} {i:Nat} {g0:G} {w:Nat} {L:List Gr} {t:Tok} {rf1:List Int} {e:Env} {g:G} (I:RfW P X Eb R C B4 b ts rf i g0 w L t rf1 e g)
  {e':Env} {hp':Nat→Option Blk} {m:Nat} (h0:e' 0 = e 0) (h2:e' 2 = e 2) (h4:e' 4 = e 4) (h6:e' 6 = e 6) (h7:e' 7 = e 7) (hk:∀ i,i < g.nx→hp' i = g.hp i) (hm:g.nx≤m) (hf:∀ i,m≤i→hp' i = none):RfW P X Eb R C B4 b ts rf i g0 w L t rf1 e' ⟨hp',m⟩:=
 have hx:=I.fr.nx
 ⟨I.hw,h0.trans I.e0,h2.trans I.e2,h4.trans I.e4,h6.trans I.e6,h7.trans I.e7,(hk _ I.bs.2.2.1).trans I.h4,(hk _ I.bs.2.2.2).trans I.h6,(hk _ (Nat.lt_of_lt_of_le I.rc.1 hx)).trans I.hr,I.rl,I.rp,(hk _ (Nat.lt_of_lt_of_le I.rc.2.1 hx)).trans I.hc,I.en.mv hk hm hf,
  ⟨Nat.le_trans I.fr.nx hm,fun i hi a b c => by show hp' i = _;rw[hk i (Nat.lt_of_lt_of_le hi I.fr.nx)];exact I.fr.keep i hi a b c⟩,⟨I.bs.1,I.bs.2.1,Nat.lt_of_lt_of_le I.bs.2.2.1 hm,Nat.lt_of_lt_of_le I.bs.2.2.2 hm⟩,I.rc⟩
theorem rp_rf (h106:F 106 = some A_xref13_E_rf) (h122:F 122 = some A_xref13_E_co) (h131:F 131 = some A_xref13_copied) {P:Gr→Prop} {X:Gr} {Eb R C:Nat} {ts:Nat→Tok} (hlocs:X.locs = 2) (hn:X.evs.length≤100) (hn2:2≤X.evs.length) (hfst:∀ w:Nat,w < 2→X.evs.getD w ev0 = wE w)
  (hP:∀ (rf:List Int) (cs:Nat→List Int),rf.length = X.evs.length→(∀ i,i < X.evs.length→RfOk (putX X rf []) i)→(∀ j,j < 2→CoPre X j (cs j)∧CoFull X j (cs j))→P (putX X rf [cs 0,cs 1])) (hne:Eb≠R∧Eb≠C∧R≠C):
  ∀ (d i:Nat) (rf:List Int) (L:List Gr) (t:Tok) (g:G),X.evs.length - i≤d→i≤X.evs.length→EnS P Eb L t g→g.hp R = some (.cells (intsC rf) false)→rf.length = X.evs.length→g.hp C = some (.cells (coC2 cs0 ts) false)→R < g.nx→C < g.nx→(∀ j,j < i→RfOk (putX X rf []) j) →
    ∃ v g',callS F 106 [.mp Eb 0,.agg (gfC X R C),.i .i64 ((i:Nat):Int)] g = some (v,g')∧RfR P X Eb R rf i g g':=by
 intro d
 induction d using Nat.strongRecOn with
 | _ d ih =>
   intro i rf L t g hd hi en hr hrl hc hR hC hok
   obtain ⟨ne1,ne2,ne3⟩:=hne
   refine raw_of (P:=fun v g' => RfR P X Eb R rf i g g') h106 ?_
   have he:=en.he
   have hEl:=en.lt
   have hgf:gfC X R C = [.i .i64 2,.sl (evsC X.evs) X.evs.length .non,.ms R 0 X.evs.length,.ms C 0 2,.sl (pairsC X.rmw) X.rmw.length .non,.sl (pairsC X.data) X.data.length .non,.sl (pairsC X.ctrl) X.ctrl.length .non,.sl (pairsC X.ctrli) X.ctrli.length .non]:=by rw[gfC,hlocs]
   have p8:∀ c1 c2 c3 c4 c5 c6 c7 c8:AV,part [c1,c2,c3,c4,c5,c6,c7,c8] 0 (some 8) = some (.agg [c1,c2,c3,c4,c5,c6,c7,c8]):=fun _ _ _ _ _ _ _ _ => rfl
   have l5:∀ y:AV,List.replicate 5 y = [y,y,y,y,y]:=fun _ => rfl
   have s6:∀ b1 b2 b3 b4 b5 b6 c1 c2 c3 c4 c5 c6:AV,splice [b1,b2,b3,b4,b5,b6] 0 [c1,c2,c3,c4,c5,c6] = [c1,c2,c3,c4,c5,c6]:=fun _ _ _ _ _ _ _ _ _ _ _ _ => rfl
   have ret0:∀ m,g.nx + 1≤m→RfR P X Eb R rf i g ⟨upd g.hp g.nx (some (.cells (gfC X R C) false)),m⟩:=fun m hm =>
    ⟨⟨L,t,en.mv (fun i hi => upd_ne _ _ (by omega)) (by omega) (fun i hi => by rw[upd_ne _ _ (by omega)];exact en.fresh i (by omega))⟩,⟨rf,(upd_ne _ _ (by omega)).trans hr,hrl,fun _ _ => rfl⟩,⟨by show g.nx≤m;omega,fun i hi _ _ _ => upd_ne _ _ (by omega)⟩⟩
   by_cases cb:20000 < L.length
   ·rw[decide_eq_true cb] at he
    rw[hgf] at ret0 ⊢
    simp (disch:=omega) only[A_xref13_E_rf,wp,qa,qb,qc,gl,he]
    exact ⟨_,rfl,ret0 _ (by omega)⟩
   ·rw[decide_eq_false cb] at he
    by_cases ci:i = X.evs.length
    ·have ci':(((i:Nat):Int) == ((X.evs.length:Nat):Int)) = true:=by rw[ci];simp
     have hpre:∀ j,j < 2→CoPre X j (cs0 j):=fun j hj => by
      refine ⟨fun v hv => ?_,by simp[cs0],[],rfl⟩
      obtain rfl:v = (j:Int):=by simpa [cs0] using hv
      refine ⟨by omega,by omega,?_⟩
      rw[Int.toNat_natCast,hfst j hj]
      simp[isWr,wE]
     have hco:=fun g1 e1 e2 e3 e4 e5 => rp_co h122 h131 (P:=P) (X:=X) (Eb:=Eb) (R:=R) (C:=C) (rf:=rf) hlocs hn hn2 (fun w hw => by rw[hfst w hw];rfl) hrl (fun cs h => hP rf cs hrl (fun j hj => hok j (by omega)) h) ⟨ne1,ne2,ne3⟩ _ 0 cs0 ts L t g1 (Nat.le_refl _) (by omega) e1 e2 e3 e4 e5 hpre (fun j hj => absurd hj (Nat.not_lt_zero j))
     rw[hgf] at hco
     simp (disch:=omega) only[A_xref13_E_rf,wp,qa,qb,qc,gl,he,ci',p8,hgf]
     refine bindO_call _ (hco _ (en.mv (fun i hi => upd_ne _ _ (by omega)) ?_ (fun i hi => ?_)) ((upd_ne _ _ (by omega)).trans hr) ((upd_ne _ _ (by omega)).trans hc) ?_ ?_) ?_
     ·first | omega | (dsimp only;omega)
     ·try dsimp only at hi
      rw[upd_ne _ _ (by omega)];exact en.fresh i (by omega)
     ·first | omega | (dsimp only;omega)
     ·first | omega | (dsimp only;omega)
     ·rintro v g2 ⟨L2,t2,en2,fr2⟩
      have fx:=fr2.nx
      dsimp only at fx
      simp (disch:=omega) only[wp,qa,qb,qc,gl]
      exact ⟨_,rfl,⟨L2,t2,en2⟩,⟨rf,fr2.cells (by first | omega | (dsimp only;omega)) (by omega) ((upd_ne _ _ (by omega)).trans hr),hrl,fun _ _ => rfl⟩,⟨by omega,fun i hi a b c => by
       have h1:upd g.hp g.nx (some (.cells [.i .i64 2,.sl (evsC X.evs) X.evs.length .non,.ms R 0 X.evs.length,.ms C 0 2,.sl (pairsC X.rmw) X.rmw.length .non,.sl (pairsC X.data) X.data.length .non,.sl (pairsC X.ctrl) X.ctrl.length .non,.sl (pairsC X.ctrli) X.ctrli.length .non] false)) i = g.hp i:=upd_ne _ _ (by omega)
       exact (fr2.keep i (by first | omega | (dsimp only;omega)) a (fun b' hb' => c b' (h1 ▸ hb'))).trans h1⟩⟩
    ·have ci':(((i:Nat):Int) == ((X.evs.length:Nat):Int)) = false:=by rw[beq_eq_false_iff_ne];omega
     have hev:=ev_part (l:=X.evs) (k:=i) (by omega)
     have hwi:=succ_wrap (k:=i) (by omega)
     have hil:(intsC rf).length = X.evs.length:=by rw[intsC_len,hrl]
     have hrec:=fun rf2 => ih (X.evs.length - (i + 1)) (by omega) (i + 1) rf2
     generalize hre:X.evs.getD i ev0 = r at hev
     by_cases ck:r.kd = 1
     ·have ck':(r.kd != 1) = false:=by simpa using ck
      rw[evC] at hev
      simp (disch:=omega) only[A_xref13_E_rf,wp,qa,qb,qc,gl,he,ci',p8,hgf,hev,l5,s6,ck']
      refine blk_end (fun e g' => ∃ L1 t1 rf1,RfW P X Eb R C g.nx (g.nx + 1 + 4 + 5 + 5) ts rf i g X.evs.length L1 t1 rf1 e g') ?_ ?_
      ·refine W_loop (fun q e g' => ∃ (w:Nat) (L1:List Gr) (t1:Tok) (rf1:List Int),q = X.evs.length - w∧RfW P X Eb R C g.nx (g.nx + 1 + 4 + 5 + 5) ts rf i g w L1 t1 rf1 e g') X.evs.length ?_ ?_
       ·refine ⟨0,L,t,rf,rfl,Nat.zero_le _,rfl,rfl,rfl,rfl,rfl,?_,?_,?_,hrl,fun _ _ => rfl,?_,en.mv (fun i2 h2 => ?_) ?_ (fun i2 h2 => ?_),⟨by first | omega | (dsimp only;omega),fun i2 h2 _ _ _ => ?_⟩,⟨by omega,by omega,by first | omega | (dsimp only;omega),by first | omega | (dsimp only;omega)⟩,⟨hR,hC,hEl⟩⟩
        ·simp (disch:=omega) only[upd_ne,upd_same];rw[hgf]
        ·rw[hre];exact upd_same _ _ _
        ·simp (disch:=omega) only[upd_ne];exact hr
        ·simp (disch:=omega) only[upd_ne];exact hc
        ·simp (disch:=omega) only[upd_ne]
        ·first | omega | (dsimp only;omega)
        ·try dsimp only at h2
         simp (disch:=omega) only[upd_ne]
         exact en.fresh i2 (by omega)
        ·simp (disch:=omega) only[upd_ne]
       ·rintro q e g1 ⟨w,L1,t1,rf1,rfl,I⟩
        have e0:=I.e0
        have e2:=I.e2
        have e4:=I.e4
        have e6:=I.e6
        have e7:=I.e7
        have h4:=I.h4
        have h6:=I.h6
        have hr1:=I.hr
        have hc1:=I.hc
        have hx1:=I.fr.nx
        obtain ⟨b1,b2,b3,b4⟩:=I.bs
        rw[hgf] at h4
        rw[hre,evC] at h6
        by_cases d1:w < X.evs.length
        ·have d1':((w:Nat):Int) < ((X.evs.length:Nat):Int):=by omega
         have hevx:=ev_part d1
         have hww:=succ_wrap (k:=w) (by omega)
         have hil1:(intsC rf1).length = X.evs.length:=by rw[intsC_len,I.rl]
         generalize hxe:X.evs.getD w ev0 = x at hevx
         rw[evC] at hevx
         have next:∀ (e':Env) (hp':Nat→Option Blk) (m:Nat),e' 0 = e 0→e' 2 = e 2→e' 4 = e 4→e' 6 = e 6→e' 7 = .i .i64 ((w + 1:Nat):Int)→(∀ i,i < g1.nx→hp' i = g1.hp i)→g1.nx≤m→(∀ i,m≤i→hp' i = none) →
           ∃ m',m' < X.evs.length - w∧∃ (w:Nat) (L1:List Gr) (t1:Tok) (rf1:List Int),m' = X.evs.length - w∧RfW P X Eb R C g.nx (g.nx + 1 + 4 + 5 + 5) ts rf i g w L1 t1 rf1 e' ⟨hp',m⟩:=fun e' hp' m a0 a2 a4 a6 a7 hk hm hf => by
          have J:=I.mv (e':=upd e' 7 (e 7)) a0 a2 a4 a6 rfl hk hm hf
          exact ⟨X.evs.length - (w + 1),by omega,w + 1,L1,t1,rf1,rfl,⟨by omega,J.e0,J.e2,J.e4,J.e6,a7,J.h4,J.h6,J.hr,J.rl,J.rp,J.hc,J.en,J.fr,J.bs,J.rc⟩⟩
         cases k1:(x.kd == 2) with
         | false =>
           simp (disch:=omega) only[wp,qa,qb,qc,gl,e0,e2,e4,e6,e7,h4,h6,d1',hevx,l5,s6,k1,hww]
           refine next _ _ _ rfl rfl rfl rfl rfl (fun i2 h2 => ?_) (by omega) (fun i2 h2 => ?_)
           ·simp (disch:=omega) only[upd_ne]
           ·simp (disch:=omega) only[upd_ne];exact I.en.fresh i2 (by omega)
         | true =>
         cases k2:(x.lc == r.lc) with
         | false =>
           simp (disch:=omega) only[wp,qa,qb,qc,gl,e0,e2,e4,e6,e7,h4,h6,d1',hevx,l5,s6,k1,k2,hww]
           refine next _ _ _ rfl rfl rfl rfl rfl (fun i2 h2 => ?_) (by omega) (fun i2 h2 => ?_)
           ·simp (disch:=omega) only[upd_ne]
           ·simp (disch:=omega) only[upd_ne];exact I.en.fresh i2 (by omega)
         | true =>
         cases k3:(x.vl == r.vl) with
         | false =>
           simp (disch:=omega) only[wp,qa,qb,qc,gl,e0,e2,e4,e6,e7,h4,h6,d1',hevx,l5,s6,k1,k2,k3,hww]
           refine next _ _ _ rfl rfl rfl rfl rfl (fun i2 h2 => ?_) (by omega) (fun i2 h2 => ?_)
           ·simp (disch:=omega) only[upd_ne]
           ·simp (disch:=omega) only[upd_ne];exact I.en.fresh i2 (by omega)
         | true =>
           have hrec:=hrec (rf1.set i (w:Int)) L1 t1
           rw[hgf] at hrec
           have hok2:∀ j,j < i + 1→RfOk (putX X (rf1.set i (w:Int)) []) j:=fun j hj => by
            by_cases hji:j = i
            ·subst hji
             have hs:(rf1.set j (w:Int)).getD j 0 = (w:Int):=by
              rw[List.getD_eq_getElem?_getD,List.getElem?_set_self (by have:=I.rl;omega)];rfl
             refine ⟨fun h => absurd ?_ h,fun _ => ?_⟩
             ·show (X.evs.getD j ev0).kd = 1
              rw[hre];exact ck
             ·show 0≤(rf1.set j (w:Int)).getD j 0∧(rf1.set j (w:Int)).getD j 0 < X.evs.length∧(X.evs.getD ((rf1.set j (w:Int)).getD j 0).toNat ev0).kd = 2∧(X.evs.getD ((rf1.set j (w:Int)).getD j 0).toNat ev0).lc = (X.evs.getD j ev0).lc∧(X.evs.getD ((rf1.set j (w:Int)).getD j 0).toNat ev0).vl = (X.evs.getD j ev0).vl
              rw[hs,Int.toNat_natCast,hxe,hre]
              exact ⟨by omega,by omega,by simpa using k1,by simpa using k2,by simpa using k3⟩
            ·exact (hok j (by omega)).congr (by rw[List.getD_eq_getElem?_getD,List.getElem?_set_ne (by omega),←List.getD_eq_getElem?_getD,I.rp j (by omega)])
           simp (disch:=omega) only[wp,qa,qb,qc,gl,e0,e2,e4,e6,e7,h4,h6,d1',hevx,l5,s6,k1,k2,k3,hr1,hil1,intsC_set,hwi,p8]
           have hR1:R < g1.nx:=by omega
           have hC1:C < g1.nx:=by omega
           refine bindO_call _ (hrec _ (Nat.le_refl _) (by omega) (I.en.mvR I.hr ne1 (fun i2 h2 h3 => ?_) ?_ (fun i2 h2 => ?_)) (upd_same _ _ _) (by rw[List.length_set,I.rl]) ?_ ?_ ?_ hok2) ?_
           ·simp (disch:=omega) only[upd_ne]
           ·first | omega | (dsimp only;omega)
           ·try dsimp only at h2
            simp (disch:=omega) only[upd_ne]
            exact I.en.fresh i2 (by omega)
           ·simp (disch:=omega) only[upd_ne];exact I.hc
           ·first | omega | (dsimp only;omega)
           ·first | omega | (dsimp only;omega)
           ·rintro v g3 ⟨⟨L3,t3,en3⟩,⟨rf3,hr3,rl3,rp3⟩,fr3⟩
            have fx:=fr3.nx
            dsimp only at fx
            have hEl1:=I.en.lt
            have k3:∀ i2,i2 < g1.nx→i2≠Eb→i2≠R→(∀ b,g1.hp i2≠some (.tok b))→g3.hp i2 = g1.hp i2:=fun i2 h2 a b c => by
             rw[fr3.keep i2 (by first | omega | (dsimp only;omega)) a b (fun b' hb' => by
              simp (disch:=omega) only[upd_ne] at hb'
              exact c b' hb')]
             simp (disch:=omega) only[upd_ne]
            have kc:∀ i2 cs ro,i2 < g1.nx→i2≠Eb→i2≠R→g1.hp i2 = some (.cells cs ro)→g3.hp i2 = some (.cells cs ro):=fun i2 cs ro h2 a b h => by
             rw[k3 i2 h2 a b (fun b' hb' => by rw[h] at hb';cases hb'),h]
            simp (disch:=omega) only[wp,qa,qb,qc,gl,e7,hww]
            refine ⟨X.evs.length - (w + 1),by omega,w + 1,L3,t3,rf3,rfl,by omega,e0,e2,e4,e6,rfl,?_,?_,hr3,rl3,fun j hj => ?_,kc C _ _ hC1 (by omega) (by omega) I.hc,en3.mv (fun i hi => rfl) (by first | omega | (dsimp only;omega)) (fun i hi => en3.fresh i (by first | omega | (dsimp only at hi;omega))),⟨by first | omega | (dsimp only;omega),fun i2 h2 a b c => ?_⟩,⟨by omega,by omega,by first | omega | (dsimp only;omega),by first | omega | (dsimp only;omega)⟩,⟨hR,hC,hEl⟩⟩
            ·exact kc _ _ _ b3 (by omega) (by omega) I.h4
            ·exact kc _ _ _ b4 (by omega) (by omega) I.h6
            ·rw[rp3 j (by omega),List.getD_eq_getElem?_getD,List.getElem?_set_ne (by omega),←List.getD_eq_getElem?_getD,I.rp j hj]
            ·have h1:=I.fr.keep i2 h2 a b c
             exact (k3 i2 (by omega) a b (fun b' hb' => c b' (h1 ▸ hb'))).trans h1
        ·have d1':¬ ((w:Nat):Int) < ((X.evs.length:Nat):Int):=by omega
         obtain rfl:w = X.evs.length:=by have:=I.hw;omega
         simp (disch:=omega) only[wp,qa,qb,qc,gl,e0,e2,e4,e6,e7,h4,d1']
         exact ⟨L1,t1,rf1,I.mv rfl rfl rfl rfl rfl (fun i hi => rfl) (by first | omega | (dsimp only;omega)) (fun i hi => I.en.fresh i (by first | omega | (dsimp only at hi;omega)))⟩
      ·rintro e g1 ⟨L1,t1,rf1,I⟩
       simp (disch:=omega) only[wp,qa,qb,qc,gl]
       exact ⟨_,rfl,⟨L1,t1,I.en⟩,⟨rf1,I.hr,I.rl,I.rp⟩,I.fr⟩
     ·have ck':(r.kd != 1) = true:=by simpa using ck
      have hrec:=hrec (rf.set i (-1)) L t
      rw[hgf] at hrec
      have hok2:∀ j,j < i + 1→RfOk (putX X (rf.set i (-1)) []) j:=fun j hj => by
       by_cases hji:j = i
       ·subst hji
        refine ⟨fun _ => ?_,fun h => absurd h ?_⟩
        ·show (rf.set j (-1)).getD j 0 = -1
         rw[List.getD_eq_getElem?_getD,List.getElem?_set_self (by omega)];rfl
        ·show ¬ (X.evs.getD j ev0).kd = 1
         rw[hre];exact ck
       ·exact (hok j (by omega)).congr (by rw[List.getD_eq_getElem?_getD,List.getD_eq_getElem?_getD,List.getElem?_set_ne (by omega)])
      rw[evC] at hev
      simp (disch:=omega) only[A_xref13_E_rf,wp,qa,qb,qc,gl,he,ci',p8,hgf,hev,l5,s6,ck',hr,hil,intsC_set,hwi]
      refine bindO_call _ (hrec _ (Nat.le_refl _) (by omega) (EnS.mv (g:=⟨upd g.hp R (some (.cells (intsC (rf.set i (-1))) false)),g.nx⟩) ⟨(upd_ne _ _ ne1).trans en.he,en.tk.mono (fun i2 h2 => upd_ne _ _ (fun hh => by
        rcases en.tk with h | ⟨i',h,h1,h3⟩
        ·rw[h] at h2;cases h2
        ·rw[h] at h2;cases h2;rw[hh,hr] at h1;cases h1)) (Nat.le_refl _),en.ll,en.ok,hEl,fun i2 h2 => (upd_ne _ _ (by dsimp only at h2;omega)).trans (en.fresh i2 h2)⟩ (fun i2 h2 => ?_) ?_ (fun i2 h2 => ?_)) (upd_same _ _ _) (by rw[List.length_set,hrl]) ?_ ?_ ?_ hok2) ?_
      ·dsimp only at h2
       by_cases hh:i2 = R
       ·subst hh;simp (disch:=omega) only[upd_same]
       ·simp (disch:=omega) only[upd_ne]
      ·first | omega | (dsimp only;omega)
      ·try dsimp only at h2
       simp (disch:=omega) only[upd_ne]
       exact en.fresh i2 (by omega)
      ·simp (disch:=omega) only[upd_ne];exact hc
      ·first | omega | (dsimp only;omega)
      ·first | omega | (dsimp only;omega)
      ·rintro v g2 ⟨⟨L2,t2,en2⟩,⟨rf2,hr2,rl2,rp2⟩,fr2⟩
       have fx:=fr2.nx
       dsimp only at fx
       simp (disch:=omega) only[wp,qa,qb,qc,gl]
       refine ⟨_,rfl,⟨L2,t2,en2⟩,⟨rf2,hr2,rl2,fun j hj => (rp2 j (by omega)).trans (by rw[List.getD_eq_getElem?_getD,List.getD_eq_getElem?_getD,List.getElem?_set_ne (by omega)])⟩,⟨by omega,fun i2 h2 a b c => ?_⟩⟩
       rw[fr2.keep i2 (by first | omega | (dsimp only;omega)) a b (fun b' hb' => by
        simp (disch:=omega) only[upd_ne] at hb'
        exact c b' hb')]
       simp (disch:=omega) only[upd_ne]
end Go.Ab
end
section
set_option linter.unusedVariables false
set_option linter.unusedSimpArgs false
namespace Go.Ab
variable {F:Funs}
structure GrP (X Y:Gr):Prop where
 is:∃ (rf:List Int) (cs:Nat→List Int),Y = putX X rf [cs 0,cs 1]∧rf.length = X.evs.length∧(∀ i,i < X.evs.length→RfOk (putX X rf []) i)∧∀ j,j < 2→CoPre X j (cs j)∧CoFull X j (cs j)
def coFn (i:Nat):List AV:=[if 0 < i then .sl [.i .i64 0] 1 .rig else .sl [] 0 .rig,if 1 < i then .sl [.i .i64 1] 1 .rig else .sl [] 0 .rig]
theorem flat_rep (n:Nat):(List.replicate n [AV.i .i64 0]).flatten = intsC (List.replicate n 0):=by
 induction n with
 | zero => rfl
 | succ n ih => rw[List.replicate_succ,List.flatten_cons,ih,List.replicate_succ];rfl
structure FnI (X:Gr) (B3 R C Eb:Nat) (i:Nat) (e:Env) (g0 g:G):Prop where
 hi:i≤2
 e0:e 0 = .mp Eb 0
 e3:e 3 = .mp B3 0
 e4:e 4 = .i .i64 ((i:Nat):Int)
 h3:g.hp B3 = some (.cells (gfC X R C) false)
 hr:g.hp R = some (.cells (intsC (List.replicate X.evs.length 0)) false)
 hc:g.hp C = some (.cells (coFn i) false)
 ol:∀ i,i < g0.nx→g.hp i = g0.hp i
 lt:g0.nx≤B3∧g0.nx≤R∧g0.nx≤C∧B3 < g.nx∧R < g.nx∧C < g.nx∧B3≠C∧R≠C
 fresh:∀ i,g.nx≤i→g.hp i = none
 nx:g0.nx≤g.nx
theorem rp_finish (h91:F 91 = some A_xref13_E_Finish) (h106:F 106 = some A_xref13_E_rf) (h122:F 122 = some A_xref13_E_co) (h131:F 131 = some A_xref13_copied) {P:Gr→Prop} {X:Gr} {Eb:Nat} {L:List Gr} {t:Tok} {g:G}
  (hlocs:X.locs = 2) (hrf:X.rf = []) (hco:X.co = []) (hn:X.evs.length≤100) (hn2:2≤X.evs.length) (hfst:∀ w:Nat,w < 2→X.evs.getD w ev0 = wE w) (hP:∀ Y,GrP X Y→P Y) (en:EnS P Eb L t g):
  ∃ v g',callS F 91 [.mp Eb 0,.agg (grC X)] g = some (v,g')∧CoP P Eb g g':=by
 refine raw_of (P:=fun v g' => CoP P Eb g g') h91 ?_
 have hEl:=en.lt
 have hgr:grC X = [.i .i64 2,.sl (evsC X.evs) X.evs.length .non,.sl [] 0 .non,.sl [] 0 .non,.sl (pairsC X.rmw) X.rmw.length .non,.sl (pairsC X.data) X.data.length .non,.sl (pairsC X.ctrl) X.ctrl.length .non,.sl (pairsC X.ctrli) X.ctrli.length .non]:=by rw[grC,hlocs,hrf,hco];rfl
 have hgf:∀ R C,gfC X R C = [.i .i64 2,.sl (evsC X.evs) X.evs.length .non,.ms R 0 X.evs.length,.ms C 0 2,.sl (pairsC X.rmw) X.rmw.length .non,.sl (pairsC X.data) X.data.length .non,.sl (pairsC X.ctrl) X.ctrl.length .non,.sl (pairsC X.ctrli) X.ctrli.length .non]:=fun R C => by rw[gfC,hlocs]
 have p8:∀ c1 c2 c3 c4 c5 c6 c7 c8:AV,part [c1,c2,c3,c4,c5,c6,c7,c8] 0 (some 8) = some (.agg [c1,c2,c3,c4,c5,c6,c7,c8]):=fun _ _ _ _ _ _ _ _ => rfl
 have mk2:∀ (id:Nat) (g:G),vMksl id [.sl [] 0 .rig] 1 24 (.i .i64 2) (.i .i64 2) g = some (.ms id 0 2,⟨upd g.hp id (some (.cells [.sl [] 0 .rig,.sl [] 0 .rig] false)),g.nx⟩):=fun id g => by
  have:=vMksl_ms (id:=id) (z:=[.sl [] 0 .rig]) (b:=24) (n:=2) (g:=g) (by omega) (by omega) (by omega) rfl
  exact this
 have mk1:∀ (id:Nat) (g:G),vMksl id [.i .i64 0] 1 8 (.i .i64 ((X.evs.length:Nat):Int)) (.i .i64 ((X.evs.length:Nat):Int)) g = some (.ms id 0 X.evs.length,⟨upd g.hp id (some (.cells (intsC (List.replicate X.evs.length 0)) false)),g.nx⟩):=fun id g => by
  have:=vMksl_ms (id:=id) (z:=[.i .i64 0]) (b:=8) (n:=X.evs.length) (g:=g) (by omega) (by omega) (by omega) rfl
  rw[flat_rep] at this
  exact this
 rw[hgr]
 simp (disch:=omega) only[A_xref13_E_Finish,wp,qa,qb,qc,gl,o_mksl,mk1,mk2]
 refine blk_cut (fun e g' => FnI X g.nx (g.nx + 1 + 3) (g.nx + 1 + 6 + 2) Eb 2 e g g') ?_ ?_
 ·refine W_loop (fun q e g' => ∃ i:Nat,q = 2 - i∧FnI X g.nx (g.nx + 1 + 3) (g.nx + 1 + 6 + 2) Eb i e g g') 2 ?_ ?_
  ·refine ⟨0,rfl,by omega,rfl,rfl,rfl,?_,?_,?_,fun i hi => ?_,⟨by omega,by omega,by omega,by first | omega | (dsimp only;omega),by first | omega | (dsimp only;omega),by first | omega | (dsimp only;omega),by omega,by omega⟩,fun i hi => ?_,by first | omega | (dsimp only;omega)⟩
   ·simp (disch:=omega) only[upd_ne,upd_same];rw[hgf]
   ·simp (disch:=omega) only[upd_ne,upd_same]
   ·simp (disch:=omega) only[upd_ne,upd_same];rfl
   ·simp (disch:=omega) only[upd_ne]
   ·try dsimp only at hi
    simp (disch:=omega) only[upd_ne]
    exact en.fresh i (by omega)
  ·rintro q e g1 ⟨i,rfl,hi,e0,e3,e4,h3,hr,hc,ol,⟨l1,l2,l3,l4,l5,l6,l7,l8⟩,fresh,hx⟩
   rw[hgf] at h3
   have hwi:=succ_wrap (k:=i) (by omega)
   by_cases d1:i < 2
   ·have d1':((i:Nat):Int) < 2:=by omega
    have hset:(coFn i).length = 2∧(coFn i).set (i * 1) (.sl [.i .i64 ((i:Nat):Int)] 1 .rig) = coFn (i + 1):=by
     have:i = 0∨i = 1:=by omega
     rcases this with rfl | rfl<;>exact ⟨rfl,rfl⟩
    obtain ⟨hcl,hset⟩:=hset
    simp (disch:=omega) only[wp,qa,qb,qc,gl,e0,e3,e4,h3,hc,d1',hcl,hset,hwi]
    refine ⟨2 - (i + 1),by omega,i + 1,rfl,by omega,e0,e3,rfl,?_,?_,upd_same _ _ _,fun j hj => ?_,⟨l1,l2,l3,by first | omega | (dsimp only;omega),by first | omega | (dsimp only;omega),by first | omega | (dsimp only;omega),l7,l8⟩,fun j hj => ?_,by first | omega | (dsimp only;omega)⟩
    ·rw[hgf];exact (upd_ne _ _ l7).trans h3
    ·exact (upd_ne _ _ l8).trans hr
    ·exact (upd_ne _ _ (by omega)).trans (ol j hj)
    ·try dsimp only at hj
     exact (upd_ne _ _ (by omega)).trans (fresh j (by omega))
   ·have d1':¬ ((i:Nat):Int) < 2:=by omega
    obtain rfl:i = 2:=by omega
    simp (disch:=omega) only[wp,qa,qb,qc,gl,e0,e3,e4,h3,d1']
    exact ⟨Nat.le_refl _,e0,e3,e4,by rw[hgf];exact h3,hr,hc,ol,⟨l1,l2,l3,by first | omega | (dsimp only;omega),by first | omega | (dsimp only;omega),by first | omega | (dsimp only;omega),l7,l8⟩,fun j hj => fresh j (by first | omega | (dsimp only at hj;omega)),by first | omega | (dsimp only;omega)⟩
 ·rintro e g1 ⟨_,e0,e3,e4,h3,hr,hc,ol,⟨l1,l2,l3,l4,l5,l6,l7,l8⟩,fresh,hx⟩
  have hrun:=fun g2 a1 a2 a3 a4 a5 => rp_rf h106 h122 h131 (P:=P) (X:=X) (Eb:=Eb) (R:=g.nx + 1 + 3) (C:=g.nx + 1 + 6 + 2) (ts:=fun _ => .rig) hlocs hn hn2 hfst (fun rf cs h1 h2 h3 => hP _ ⟨rf,cs,rfl,h1,h2,h3⟩) ⟨by omega,by omega,by omega⟩ X.evs.length 0 (List.replicate X.evs.length 0) L t g2 (by omega) (by omega) a1 a2 (by simp) a3 a4 a5 (fun j hj => absurd hj (Nat.not_lt_zero j))
  rw[hgf] at h3 hrun
  simp (disch:=omega) only[wp,qa,qb,qc,gl,e0,e3,h3,p8]
  refine bindO_call _ (hrun _ (en.mv ol ?_ (fun i hi => ?_)) hr hc ?_ ?_) ?_
  ·first | omega | (dsimp only;omega)
  ·exact fresh i (by first | omega | (dsimp only at hi;omega))
  ·first | omega | (dsimp only;omega)
  ·first | omega | (dsimp only;omega)
  ·rintro v g3 ⟨⟨L3,t3,en3⟩,_,fr3⟩
   have fx:=fr3.nx
   dsimp only at fx
   simp (disch:=omega) only[wp,qa,qb,qc,gl]
   exact ⟨_,rfl,L3,t3,en3,⟨by omega,fun i hi hb ht => by
    have h1:=ol i hi
    exact (fr3.keep i (by first | omega | (dsimp only;omega)) hb (by omega) (fun b hb' => ht b (h1 ▸ hb'))).trans h1⟩⟩
end Go.Ab
end
section
set_option linter.unusedVariables false
set_option linter.unusedSimpArgs false
namespace Go.Ab
variable {F:Funs}
structure EnF (F:Funs):Prop where
 ch:ChF F
 run:RunF F
 skel:F 90 = some A_xref07_Skeleton
 first:F 103 = some A_xref07_First
 lay:F 105 = some A_xref07_Lay
 moved:F 121 = some A_xref07_moved
 all:F 78 = some A_xref13_All
 vals:F 88 = some A_xref13_Values
 lots:F 89 = some A_xref13_Lots
 fin:F 91 = some A_xref13_E_Finish
 vrec:F 101 = some A_xref13_values
 dom:F 102 = some A_xref13_Domain
 rf:F 106 = some A_xref13_E_rf
 co:F 122 = some A_xref13_E_co
 cop:F 131 = some A_xref13_copied
def PgG (ths:List (List Ins)) (dom:List Int) (Y:Gr):Prop:=∃ lots,LotOk ths lots∧(∀ i,i < ths.length→∀ x∈lots.getD i [],x∈domF dom)∧GrP (skX ths lots ths.length) Y
structure AlI (ths:List (List Ins)) (dom:List Int) (k:Nat) (all:List (List (List Int))) (t:Tok) (e:Env) (g:G):Prop where
 hk:k≤ths.length
 e1:e 1 = .sl (intsC dom) dom.length .non
 e2:e 2 = .mp 0 0
 e6:e 6 = .sl (ccC all) k t
 e7:e 7 = .i .i64 ((k:Nat):Int)
 h0:g.hp 0 = some (.cells [.i .i64 2,.sl (thsC ths) ths.length .non] false)
 tk:TkOk 1 g t
 al:all.length = k
 ok:∀ j,j < k→(∀ h∈all.getD j [],VlOk (ths.getD j []) (domF dom) h)∧(all.getD j []).length≤20001
 nx:0 < g.nx
 fresh:∀ i,g.nx≤i→g.hp i = none
theorem skX_two {ths lots} (hk:∀ i,i < ths.length→ThK (ths.getD i [])) {i:Nat} (hi:i≤ths.length):2≤(skX ths lots i).evs.length∧∀ w:Nat,w < 2→(skX ths lots i).evs.getD w ev0 = wE w:=by
 obtain ⟨rest,h2,_⟩:=(skX_inv (lots:=lots) hk i hi).1.two
 rw[h2]
 refine ⟨by simp,fun w hw => ?_⟩
 have:w = 0∨w = 1:=by omega
 rcases this with rfl | rfl<;>rfl
structure AlJ (ths:List (List Ins)) (dom:List Int) (ls:List (List (List Int))) (Eb i:Nat) (L:List Gr) (t:Tok) (e:Env) (g:G):Prop where
 hi:i≤ls.length
 e2:e 2 = .mp 0 0
 e8:e 8 = .mp Eb 0
 e9:e 9 = .sl (ccC ls) ls.length .non
 e10:e 10 = .i .i64 ((i:Nat):Int)
 h0:g.hp 0 = some (.cells [.i .i64 2,.sl (thsC ths) ths.length .non] false)
 en:EnS (PgG ths dom) Eb L t g
 ne:0 < Eb
theorem sp13_all (A:EnF F) {ths:List (List Ins)} {K:Nat} (PK:PgK ths K) (dom:List Int) (hd:dom.length≤1000000):
  ∃ (L:List Gr) (c:Int),pureS F 78 [.agg [.i .i64 2,.sl (thsC ths) ths.length .non],.sl (intsC dom) dom.length .non] = some (.tup [.sl (gsC L) L.length .non,.i .i64 c])∧(∀ Y∈L,PgG ths dom Y)∧L.length≤20001:=by
 have key:∃ v,pureS F 78 [.agg [.i .i64 2,.sl (thsC ths) ths.length .non],.sl (intsC dom) dom.length .non] = some v∧∃ (L:List Gr) (c:Int),v = .tup [.sl (gsC L) L.length .non,.i .i64 c]∧(∀ Y∈L,PgG ths dom Y)∧L.length≤20001:=by
  refine pureV_of A.all ?_
  have hck:=sp4_check A.ch PK
  have h4:=PK.four
  have f2:∀ hp,frz hp depth (.agg [.i .i64 2,.sl (thsC ths) ths.length .non]) = some (.agg [.i .i64 2,.sl (thsC ths) ths.length .non]):=fun hp => by
   refine frz_d_agg ?_
   show frzL _ (7 + 1) _ = _
   simp only[frzL,frz]
  have v2:∀ hp,vis hp depth (.agg [.i .i64 2,.sl (thsC ths) ths.length .non]) = []:=fun hp => by
   show vis hp (8 + 1) _ = _
   simp only[vis,List.flatMap_cons,List.flatMap_nil]
   rfl
  have l7:∀ x:AV,List.replicate 7 x = [x,x,x,x,x,x,x]:=fun _ => rfl
  have s8:∀ b1 b2 b3 b4 b5 b6 b7 b8 c1 c2 c3 c4 c5 c6 c7 c8:AV,splice [b1,b2,b3,b4,b5,b6,b7,b8] 0 [c1,c2,c3,c4,c5,c6,c7,c8] = [c1,c2,c3,c4,c5,c6,c7,c8]:=fun _ _ _ _ _ _ _ _ _ _ _ _ _ _ _ _ => rfl
  have p8:∀ c1 c2 c3 c4 c5 c6 c7 c8:AV,part [c1,c2,c3,c4,c5,c6,c7,c8] 0 (some 8) = some (.agg [c1,c2,c3,c4,c5,c6,c7,c8]):=fun _ _ _ _ _ _ _ _ => rfl
  simp (disch:=omega) only[A_xref13_All,wp,qa,qb,qc,gl,l7,hck,f2,Int.reduceBNe]
  refine blk_cut (fun e g => ∃ all t,AlI ths dom ths.length all t e g) ?_ ?_
  ·refine W_loop (fun q e g => ∃ (k:Nat) (all:List (List (List Int))) (t:Tok),q = ths.length - k∧AlI ths dom k all t e g) ths.length ?_ ?_
   ·refine ⟨0,[],.rig,rfl,Nat.zero_le _,rfl,rfl,rfl,rfl,rfl,.inl rfl,rfl,fun j hj => absurd hj (Nat.not_lt_zero j),by first | omega | (dsimp only;omega),fun i hi => ?_⟩
    try dsimp only at hi
    simp (disch:=omega) only[upd_ne]
   ·rintro q e g ⟨k,all,t,rfl,hk,e1,e2,e6,e7,h0,tk,al,ok,hx,fresh⟩
    by_cases c1:k < ths.length
    ·have c1':((k:Nat):Int) < ((ths.length:Nat):Int):=by omega
     have hth:=th_at c1
     have hwk:=succ_wrap (k:=k) (by omega)
     obtain ⟨V,hv,hvo,hvl⟩:=sp13_values A.ch A.run A.vals A.vrec A.dom (PK.th k c1) dom hd
     have hcl:(ccC all).length = k * 1:=by rw[ccC_len,al,Nat.mul_one]
     simp (disch:=omega) only[wp,qa,qb,qc,gl,e1,e2,e6,e7,h0,c1',hth,hv]
     refine bindO_app (esz:=1) (tk.mono (fun i hi => rfl) (by first | omega | (dsimp only;omega))) (fun i hi => allow_no _ _ _) ⟨by omega,by omega,hcl,rfl⟩ ?_
     intro t2 hp2 ar2
     have h02:hp2 0 = some (.cells [.i .i64 2,.sl (thsC ths) ths.length .non] false):=by
      rw[ar2.keep 0 (by omega) (fun e h => by
       rcases tk with h4 | ⟨i',h4,h5,h6⟩
       ·rw[h4] at h;cases h
       ·rw[h4] at h;cases h;rw[h0] at h5;cases h5)]
      exact h0
     simp (disch:=omega) only[wp,qa,qb,qc,gl,e7,hwk]
     refine ⟨ths.length - (k + 1),by omega,k + 1,all ++ [V],t2,rfl,by omega,e1,e2,?_,rfl,h02,ar2.ok (by first | omega | (dsimp only;omega)),by simp[al],fun j hj => ?_,by first | omega | (dsimp only;omega),fun i hi => ?_⟩
     ·show AV.sl _ _ _ = _
      rw[ccC_app];rfl
     ·by_cases hjk:j = k
      ·subst hjk
       have:(all ++ [V]).getD j [] = V:=by rw[List.getD_eq_getElem?_getD,List.getElem?_append_right (by omega),al,Nat.sub_self];rfl
       rw[this]
       exact ⟨hvo,hvl⟩
      ·have:(all ++ [V]).getD j [] = all.getD j []:=by rw[List.getD_eq_getElem?_getD,List.getElem?_append_left (by omega),←List.getD_eq_getElem?_getD]
       rw[this]
       exact ok j (by omega)
     ·try dsimp only at hi
      show hp2 i = none
      rw[ar2.keep i (by omega) (fun e h => by
       rcases tk with h4 | ⟨i',h4,h5,h6⟩
       ·rw[h4] at h;cases h
       ·rw[h4] at h;cases h;omega)]
      exact fresh i (by omega)
    ·have c1':¬ ((k:Nat):Int) < ((ths.length:Nat):Int):=by omega
     obtain rfl:k = ths.length:=by omega
     simp (disch:=omega) only[wp,qa,qb,qc,gl,e1,e2,e6,e7,h0,c1']
     exact ⟨all,t,hk,e1,e2,e6,e7,h0,tk.mono (fun i hi => rfl) (by first | omega | (dsimp only;omega)),al,ok,by first | omega | (dsimp only;omega),fun i hi => fresh i (by first | omega | (dsimp only at hi;omega))⟩
  ·rintro e g ⟨all,t,_,e1,e2,e6,e7,h0,tk,al,ok,hx,fresh⟩
   obtain ⟨ls,hlots,hlo,hll⟩:=sp13_lots A.lots all (by omega) (fun L hL => by
    obtain ⟨j,hj,rfl⟩:=List.mem_iff_getElem.1 hL
    have:=(ok j (by omega)).2
    rw[List.getD_eq_getElem?_getD,List.getElem?_eq_getElem hj] at this
    simp only[Option.getD_some] at this
    omega)
   rw[al] at hlots hlo
   have hlt:∀ lot∈ls,LotOk ths lot∧(∀ i,i < ths.length→∀ x∈lot.getD i [],x∈domF dom):=fun lot hl => ⟨⟨(hlo lot hl).len,fun i hi => ((ok i hi).1 _ ((hlo lot hl).mem i hi)).ok⟩,fun i hi => ((ok i hi).1 _ ((hlo lot hl).mem i hi)).dom⟩
   simp (disch:=omega) only[wp,qa,qb,qc,gl,e6,hlots]
   refine blk_cut (fun e g' => ∃ L t,AlJ ths dom ls (g.nx + 1) ls.length L t e g') ?_ ?_
   ·refine W_loop (fun q e g' => ∃ (i:Nat) (L:List Gr) (t:Tok),q = ls.length - i∧AlJ ths dom ls (g.nx + 1) i L t e g') ls.length ?_ ?_
    ·refine ⟨0,[],.rig,rfl,Nat.zero_le _,e2,rfl,rfl,rfl,?_,⟨?_,.inl rfl,by simp,fun Y hY => absurd hY (List.not_mem_nil),by first | omega | (dsimp only;omega),fun i hi => ?_⟩,by omega⟩
     ·simp (disch:=omega) only[upd_ne];exact h0
     ·simp (disch:=omega) only[upd_same];rfl
     ·try dsimp only at hi
      simp (disch:=omega) only[upd_ne]
      exact fresh i (by omega)
    ·rintro q e g1 ⟨i,L,t1,rfl,hi,e2,e8,e9,e10,h0,en,ne⟩
     have hEl:=en.lt
     by_cases d1:i < ls.length
     ·have d1':((i:Nat):Int) < ((ls.length:Nat):Int):=by omega
      have hwi:=succ_wrap (k:=i) (by omega)
      have hlp:=cc_part d1
      obtain ⟨hlot,hdm⟩:=hlt _ (getD_mem (d:=[]) d1)
      generalize ls.getD i [] = lot at hlp hlot hdm
      have hsk:=sp7_skel A.ch A.run A.skel A.first A.lay A.moved PK hlot
      obtain ⟨inv,hil,hrf,hco⟩:=skX_inv (lots:=lot) PK.th ths.length (Nat.le_refl _)
      obtain ⟨hn2,hfst⟩:=skX_two (lots:=lot) PK.th (Nat.le_refl _)
      have hPg:∀ Y,GrP (skX ths lot ths.length) Y→PgG ths dom Y:=fun Y hY => ⟨lot,hlot,hdm,hY⟩
      have hfn:=fun g2 a => rp_finish A.fin A.rf A.co A.cop (P:=PgG ths dom) (X:=skX ths lot ths.length) (Eb:=g.nx + 1) (L:=L) (t:=t1) (g:=g2) inv.locs hrf hco (by omega) hn2 hfst hPg a
      generalize skX ths lot ths.length = X at hsk hfn
      rw[grC] at hsk hfn
      simp (disch:=omega) only[wp,qa,qb,qc,gl,e2,e8,e9,e10,h0,d1',hlp,f2,v2,hsk,l7,s8,p8,List.getElem?_cons_zero,List.getElem?_cons_succ]
      refine bindO_call _ (hfn _ (en.mv (fun i hi => ?_) ?_ (fun i hi => ?_))) ?_
      ·simp (disch:=omega) only[upd_ne]
      ·first | omega | (dsimp only;omega)
      ·try dsimp only at hi
       simp (disch:=omega) only[upd_ne]
       exact en.fresh i (by omega)
      ·rintro v g3 ⟨L3,t3,en3,fr3⟩
       have h03:=fr3.cells (i:=0) (by first | omega | (dsimp only;omega)) (by omega) (by simp (disch:=omega) only[upd_ne];exact h0)
       simp (disch:=omega) only[wp,qa,qb,qc,gl,e10,hwi]
       exact ⟨ls.length - (i + 1),by omega,i + 1,L3,t3,rfl,by omega,e2,e8,e9,rfl,h03,en3.mv (fun i hi => rfl) (by first | omega | (dsimp only;omega)) (fun i hi => en3.fresh i (by first | omega | (dsimp only at hi;omega))),ne⟩
     ·have d1':¬ ((i:Nat):Int) < ((ls.length:Nat):Int):=by omega
      obtain rfl:i = ls.length:=by omega
      simp (disch:=omega) only[wp,qa,qb,qc,gl,e9,e10,d1']
      exact ⟨L,t1,hi,e2,e8,e9,e10,h0,en.mv (fun i hi => rfl) (by first | omega | (dsimp only;omega)) (fun i hi => en.fresh i (by first | omega | (dsimp only at hi;omega))),ne⟩
   ·rintro e g1 ⟨L,t1,_,e2,e8,e9,e10,h0,en,ne⟩
    have he:=en.he
    by_cases cb:20000 < L.length
    ·rw[decide_eq_true cb] at he
     simp (disch:=omega) only[wp,qa,qb,qc,gl,e8,he]
     refine ⟨.tup [.sl [] 0 .non,.i .i64 4],?_,[],4,rfl,fun Y hY => absurd hY (List.not_mem_nil),by simp⟩
     rw[retQ_ret,res_2]
     show frz _ (8 + 1) (.tup [.sl [] 0 .rig,.i .i64 4]) = _
     simp only[frz,frzL]
     rfl
    ·rw[decide_eq_false cb] at he
     simp (disch:=omega) only[wp,qa,qb,qc,gl,e8,he]
     refine ⟨.tup [.sl (gsC L) L.length .non,.i .i64 0],?_,L,0,rfl,en.ok,en.ll⟩
     rw[retQ_ret,res_2]
     show frz _ (8 + 1) (.tup [.sl (gsC L) L.length t1,.i .i64 0]) = _
     simp only[frz,frzL]
     rfl
 obtain ⟨v,h1,L,c,rfl,h2,h3⟩:=key
 exact ⟨L,c,h1,h2,h3⟩
end Go.Ab
end
section
set_option linter.unusedVariables false
set_option linter.unusedSimpArgs false
namespace Go.Ab
variable {F:Funs}
structure LdI (ths:List (List Ins)) (i n:Nat) (e:Env) (g:G):Prop where
 hi:i≤ths.length
 hn:n≤12 * i
 e1:e 1 = .mp 0 0
 e3:e 3 = .i .i64 ((n:Nat):Int)
 e4:e 4 = .i .i64 ((i:Nat):Int)
 h0:g.hp 0 = some (.cells [.i .i64 2,.sl (thsC ths) ths.length .non] false)
 nx:0 < g.nx
structure LdJ (ths:List (List Ins)) (i k n:Nat) (e:Env) (g:G):Prop where
 hk:k≤(ths.getD i []).length
 hn:n≤12 * i + k
 e1:e 1 = .mp 0 0
 e3:e 3 = .i .i64 ((n:Nat):Int)
 e4:e 4 = .i .i64 ((i:Nat):Int)
 e5:e 5 = .i .i64 ((k:Nat):Int)
 h0:g.hp 0 = some (.cells [.i .i64 2,.sl (thsC ths) ths.length .non] false)
 nx:0 < g.nx
theorem sp_loads (h77:F 77 = some A_xlaw00_Loads) {ths:List (List Ins)} {K:Nat} (PK:PgK ths K):∃ n:Nat,pureS F 77 [.agg [.i .i64 2,.sl (thsC ths) ths.length .non]] = some (.i .i64 ((n:Nat):Int)):=by
 have key:∃ v,pureS F 77 [.agg [.i .i64 2,.sl (thsC ths) ths.length .non]] = some v∧∃ n:Nat,v = .i .i64 ((n:Nat):Int):=by
  refine pureV_of h77 ?_
  have h4:=PK.four
  have l5:∀ x:AV,List.replicate 5 x = [x,x,x,x,x]:=fun _ => rfl
  have s7:∀ b1 b2 b3 b4 b5 b6 b7 c1 c2 c3 c4 c5 c6 c7:AV,splice [b1,b2,b3,b4,b5,b6,b7] 0 [c1,c2,c3,c4,c5,c6,c7] = [c1,c2,c3,c4,c5,c6,c7]:=fun _ _ _ _ _ _ _ _ _ _ _ _ _ _ => rfl
  simp (disch:=omega) only[A_xlaw00_Loads,wp,qa,qb,qc,gl]
  refine blk_cut (fun e g => ∃ n,LdI ths ths.length n e g) ?_ ?_
  ·refine W_loop (fun q e g => ∃ i n:Nat,q = ths.length - i∧LdI ths i n e g) ths.length ?_ ?_
   ·exact ⟨0,0,rfl,Nat.zero_le _,Nat.le_refl _,rfl,rfl,rfl,rfl,by first | omega | (dsimp only;omega)⟩
   ·rintro q e g ⟨i,n,rfl,hi,hn,e1,e3,e4,h0,hx⟩
    by_cases c1:i < ths.length
    ·have c1':((i:Nat):Int) < ((ths.length:Nat):Int):=by omega
     have hth:=th_at c1
     have hwi:=succ_wrap (k:=i) (by omega)
     have hlen:=(PK.th i c1).len
     simp (disch:=omega) only[wp,qa,qb,qc,gl,e1,e3,e4,h0,c1']
     refine blk_end (fun e g => ∃ n,LdJ ths i (ths.getD i []).length n e g) ?_ ?_
     ·refine W_loop (fun q e g => ∃ k n:Nat,q = (ths.getD i []).length - k∧LdJ ths i k n e g) (ths.getD i []).length ?_ ?_
      ·exact ⟨0,n,rfl,Nat.zero_le _,by omega,e1,e3,e4,rfl,h0,by first | omega | (dsimp only;omega)⟩
      ·rintro q e g ⟨k,n,rfl,hk,hn,e1,e3,e4,e5,h0,hx⟩
       by_cases c2:k < (ths.getD i []).length
       ·have c2':((k:Nat):Int) < (((ths.getD i []).length:Nat):Int):=by omega
        have hins:=ins_at c2
        have hln:=ins_ln c2
        have hwk:=succ_wrap (k:=k) (by omega)
        have hwn:=succ_wrap (k:=n) (by omega)
        generalize (ths.getD i []).getD k fence0 = x at hins
        have next:∀ (m:Nat) (e':Env) (hp':Nat→Option Blk) (nx':Nat),m≤n + 1→e' 1 = .mp 0 0→e' 3 = .i .i64 ((m:Nat):Int)→e' 4 = .i .i64 ((i:Nat):Int)→e' 5 = .i .i64 ((k + 1:Nat):Int)→hp' 0 = some (.cells [.i .i64 2,.sl (thsC ths) ths.length .non] false)→0 < nx' →
          ∃ m',m' < (ths.getD i []).length - k∧∃ k n:Nat,m' = (ths.getD i []).length - k∧LdJ ths i k n e' ⟨hp',nx'⟩:=fun m e' hp' nx' a0 a1 a3 a4 a5 ah an =>
         ⟨(ths.getD i []).length - (k + 1),by omega,k + 1,m,rfl,by omega,by omega,a1,a3,a4,a5,ah,an⟩
        unfold insC exV at hins
        cases k1:(x.kd == 1) with
        | true =>
          simp (disch:=omega) only[wp,qa,qb,qc,gl,e1,e3,e4,e5,h0,hth,c2',hins,l5,s7,k1,hwk,hwn]
          exact next (n + 1) _ _ _ (by omega) e1 rfl e4 rfl (by simp (disch:=omega) only[upd_ne];exact h0) (by omega)
        | false =>
          cases k4:(x.kd == 4) with
          | true =>
            simp (disch:=omega) only[wp,qa,qb,qc,gl,e1,e3,e4,e5,h0,hth,c2',hins,l5,s7,k1,k4,hwk,hwn]
            exact next (n + 1) _ _ _ (by omega) e1 rfl e4 rfl (by simp (disch:=omega) only[upd_ne];exact h0) (by omega)
          | false =>
            simp (disch:=omega) only[wp,qa,qb,qc,gl,e1,e3,e4,e5,h0,hth,c2',hins,l5,s7,k1,k4,hwk,hwn]
            exact next n _ _ _ (by omega) e1 e3 e4 rfl (by simp (disch:=omega) only[upd_ne];exact h0) (by omega)
       ·have c2':¬ ((k:Nat):Int) < (((ths.getD i []).length:Nat):Int):=by omega
        obtain rfl:k = (ths.getD i []).length:=by omega
        simp (disch:=omega) only[wp,qa,qb,qc,gl,e1,e3,e4,e5,h0,hth,c2']
        exact ⟨n,hk,hn,e1,e3,e4,e5,h0,by first | omega | (dsimp only;omega)⟩
     ·rintro e g ⟨n,hk,hn,e1,e3,e4,e5,h0,hx⟩
      simp (disch:=omega) only[wp,qa,qb,qc,gl,e4,hwi]
      exact ⟨ths.length - (i + 1),by omega,i + 1,n,rfl,by omega,by omega,e1,e3,rfl,h0,by first | omega | (dsimp only;omega)⟩
    ·have c1':¬ ((i:Nat):Int) < ((ths.length:Nat):Int):=by omega
     obtain rfl:i = ths.length:=by omega
     simp (disch:=omega) only[wp,qa,qb,qc,gl,e1,e3,e4,h0,c1']
     exact ⟨n,hi,hn,e1,e3,e4,h0,by first | omega | (dsimp only;omega)⟩
  ·rintro e g ⟨n,hi,hn,e1,e3,e4,h0,hx⟩
   simp (disch:=omega) only[wp,qa,qb,qc,gl,e3]
   refine ⟨_,?_,n,rfl⟩
   simp (disch:=omega) only[wp,qa,qb,qc]
 obtain ⟨v,h1,n,rfl⟩:=key
 exact ⟨n,h1⟩
end Go.Ab
end
section
set_option linter.unusedVariables false
set_option linter.unusedSimpArgs false
namespace Go.Ab
variable {F:Funs}
structure NumF (F:Funs):Prop where
 en:EnF F
 pg:ProgF F
 prog:F 86 = some A_xlaw00_Prog
 small:F 76 = some A_xlaw00_Small
 loads:F 77 = some A_xlaw00_Loads
 dom:F 79 = some A_xlaw00_Domain
theorem skX_len {ths lots} {K:Nat} (PK:PgK ths K):∀ i,i≤ths.length→(skX ths lots i).evs.length≤2 + 2 * K * i
 | 0,_ => by simp[skX,sk0]
 | i + 1,h => by
   have h1:=skX_len PK i (by omega) (lots:=lots)
   have hth:=PK.th i (by omega)
   have hl:=PK.len i (by omega)
   obtain ⟨r1,r2⟩:=doR_inv (V:=evX) (th:=ths.getD i []) (reads:=lots.getD i []) (fun k hkk => ⟨_,hth.ins k hkk⟩)
   show ((skX ths lots i).evs ++ (doR evX (ths.getD i []) (lots.getD i [])).evs.map (thE ((i:Int) + 1))).length≤_
   rw[List.length_append,List.length_map,Nat.mul_add,Nat.mul_one]
   omega
theorem PgG.evs {ths dom Y} (h:PgG ths dom Y):∃ lots,LotOk ths lots∧GrP (skX ths lots ths.length) Y:=by
 obtain ⟨lots,h1,_,h3⟩:=h
 exact ⟨lots,h1,h3⟩
theorem PgG.ok {ths:List (List Ins)} {dom:List Int} {Y:Gr} {K:Nat} (PK:PgK ths K) (hb:2 + 2 * K * ths.length≤14) (h:PgG ths dom Y):FewG Y∧GraphOk Y∧∃ t:Int,t≤4∧SkInv Y t:=by
 obtain ⟨lots,hlot,rf,cs,rfl,hrl,hok,hcs⟩:=h.evs
 obtain ⟨inv,_,_,_⟩:=skX_inv (lots:=lots) PK.th ths.length (Nat.le_refl _)
 have hlen:=skX_len PK ths.length (Nat.le_refl _) (lots:=lots)
 have h4:=PK.four
 generalize skX ths lots ths.length = X at inv hlen hrl hok hcs
 have inv2:SkInv (putX X rf [cs 0,cs 1]) (ths.length:Int):=⟨inv.locs,inv.two,inv.th,inv.rmw,inv.data,inv.ctrl,inv.ctrli,inv.dl,inv.cl⟩
 have hc:∀ i,i < 2→CoOk (putX X rf [cs 0,cs 1]) i:=fun i hi => by
  refine CoPre.ok (X:=X) (Y:=putX X rf [cs 0,cs 1]) rfl (hcs i hi).1 (hcs i hi).2 ?_
  have:i = 0∨i = 1:=by omega
  rcases this with rfl | rfl<;>rfl
 obtain ⟨a,b⟩:=inv2.ok (by omega) (by show X.evs.length≤14;omega) hrl (fun i hi => hok i hi) rfl hc
 exact ⟨a,b,_,by omega,inv2⟩
theorem sp_dom (h79:F 79 = some A_xlaw00_Domain):pureS F 79 [] = some (.sl (intsC [0,1,2]) 3 .non):=by
 refine pure_of h79 ?_
 simp (disch:=omega) only[A_xlaw00_Domain,wp,qa,qb,qc,intsC]
structure SmK (l:List Int) (ths:List (List Ins)) (K:Nat):Prop where
 pk:PgK ths K
 b:2 + 2 * K * ths.length≤14
 th:∀ t,t < ths.length→ThrOk l ths.length t K (ths.getD t [])
theorem smK_of {l:List Int} {T K:Nat} {ths:List (List Ins)} (h:ths.length = T) (hT:1≤T) (hT4:T≤4) (hb:2 + 2 * K * T≤14) (hK:K≤12) (hth:∀ t,t < T→ThrOk l T t K (ths.getD t [])):SmK l ths K:=by
 subst h
 exact ⟨⟨hT,hT4,fun i hi => (hth i hi).most,fun i hi => (hth i hi).k hK,by omega⟩,hb,hth⟩
theorem sp_small (A:NumF F) (l:List Int) (hl:(l.length:Int)≤9223372036854775807):∃ ths K,pureS F 76 [.sl (intsC l) l.length .non] = some (.agg [.i .i64 2,.sl (thsC ths) ths.length .non])∧SmK l ths K:=by
 have s2:∀ b1 b2 c1 c2:AV,splice [b1,b2] 0 [c1,c2] = [c1,c2]:=fun _ _ _ _ => rfl
 obtain ⟨t3,hp3,hl3,ho3⟩:=sp_prog A.pg A.prog (l:=l) (T:=3) (most:=2) (by omega) (by omega) (by omega) hl
 obtain ⟨t2,hp2,hl2,ho2⟩:=sp_prog A.pg A.prog (l:=l) (T:=2) (most:=3) (by omega) (by omega) (by omega) hl
 have f2:∀ hp (ths:List (List Ins)) (n:Nat) (t:Tok),frz hp depth (.agg [.i .i64 2,.sl (thsC ths) n t]) = some (.agg [.i .i64 2,.sl (thsC ths) n .non]):=fun hp ths n t => by
  refine frz_d_agg ?_
  show frzL _ (7 + 1) _ = _
  simp only[frzL,frz]
 have r3:(pureS F 76 [.sl (intsC l) l.length .non] = some (.agg [.i .i64 2,.sl (thsC t3) 3 .non]))∨(pureS F 76 [.sl (intsC l) l.length .non] = some (.agg [.i .i64 2,.sl (thsC t2) 2 .non])):=by
  by_cases c0:0 < l.length
  ·have c0':(0:Int) < ((l.length:Nat):Int):=by omega
   have hip:part (intsC l) 0 none = some (.i .i64 (l.getD 0 0)):=by have:=ints_part c0;simpa using this
   have hpl:=sp_place A.pg.place (v:=l.getD 0 0) (n:=4) (by omega) (by omega)
   generalize place (l.getD 0 0) 4 = p at hpl
   cases c1:(p == 0) with
   | true =>
     refine .inl (pure_of A.small ?_)
     have hp3':pureS F 86 [.sl (intsC l) l.length .non,.i .i64 3,.i .i64 2] = some (.agg [.i .i64 2,.sl (thsC t3) 3 .non]):=hp3
     simp (disch:=omega) only[A_xlaw00_Small,wp,qa,qb,qc,gl,c0',hip,hpl,c1,hp3',s2,f2,res_cell,resC]
   | false =>
     refine .inr (pure_of A.small ?_)
     have hp2':pureS F 86 [.sl (intsC l) l.length .non,.i .i64 2,.i .i64 3] = some (.agg [.i .i64 2,.sl (thsC t2) 2 .non]):=hp2
     simp (disch:=omega) only[A_xlaw00_Small,wp,qa,qb,qc,gl,c0',hip,hpl,c1,hp2',s2,f2,res_cell,resC]
  ·have c0':¬ (0:Int) < ((l.length:Nat):Int):=by omega
   refine .inr (pure_of A.small ?_)
   have hp2':pureS F 86 [.sl (intsC l) l.length .non,.i .i64 2,.i .i64 3] = some (.agg [.i .i64 2,.sl (thsC t2) 2 .non]):=hp2
   simp (disch:=omega) only[A_xlaw00_Small,wp,qa,qb,qc,gl,c0',hp2',s2,f2,res_cell,resC]
 rcases r3 with h | h
 ·exact ⟨t3,2,by rw[hl3];exact h,smK_of hl3 (by omega) (by omega) (by omega) (by omega) ho3⟩
 ·exact ⟨t2,3,by rw[hl2];exact h,smK_of hl2 (by omega) (by omega) (by omega) (by omega) ho2⟩
theorem gs_part:∀ {L:List Gr} {k:Nat} {d:Gr} (h:k < L.length),part ((gsC L).drop (k * 8)) 0 (some 8) = some (.agg (grC (L.getD k d)))
 | X :: L,0,d,_ => by
   simp only[gsC,List.flatMap_cons,Nat.zero_mul,List.drop_zero,part,Nat.zero_add,List.length_append,grC_len]
   rw[if_pos (by omega),List.take_left' (grC_len X)]
   simp
 | X :: L,k + 1,d,h => by
   have:=gs_part (L:=L) (k:=k) (d:=d) (by simpa using h)
   simp only[gsC,List.flatMap_cons] at this ⊢
   rw[Nat.add_mul,Nat.one_mul,Nat.add_comm,←List.drop_drop,List.drop_left' (by rw[grC_len])]
   simpa using this
def gr0:Gr:=⟨0,[],[],[],[],[],[],[]⟩
def SmG (l:List Int) (Y:Gr):Prop:=∃ ths K,SmK l ths K∧PgG ths [0,1,2] Y
end Go.Ab
end
section
namespace Go.Ab
theorem SmG.ok {l:List Int} {Y:Gr} (h:SmG l Y):FewG Y∧GraphOk Y:=by
 obtain ⟨ths,K,SK,hY⟩:=h
 obtain ⟨a,b,_⟩:=hY.ok SK.pk SK.b
 exact ⟨a,b⟩
end Go.Ab
end
section
set_option linter.unusedVariables false
set_option linter.unusedSimpArgs false
namespace Go.Ab
def sumN:Nat→(Nat→Nat)→Nat
 | 0,_ => 0
 | n + 1,f => sumN n f + f n
theorem sumN_le {f g:Nat→Nat}:∀ n,(∀ i,i < n→f i≤g i)→sumN n f≤sumN n g
 | 0,_ => Nat.le_refl _
 | n + 1,h => Nat.add_le_add (sumN_le n fun i hi => h i (by omega)) (h n (by omega))
theorem sumN_eq {f g:Nat→Nat}:∀ n,(∀ i,i < n→f i≤g i)→sumN n f = sumN n g→∀ i,i < n→f i = g i
 | 0,_,_,i,hi => absurd hi (Nat.not_lt_zero _)
 | n + 1,h,e,i,hi => by
   have h1:=sumN_le n fun i hi => h i (by omega)
   have h2:=h n (by omega)
   simp only[sumN] at e
   by_cases hin:i = n
   ·subst hin;omega
   ·exact sumN_eq n (fun i hi => h i (by omega)) (by omega) i (by omega)
theorem sumN_congr {f g:Nat→Nat}:∀ n,(∀ i,i < n→f i = g i)→sumN n f = sumN n g
 | 0,_ => rfl
 | n + 1,h => by simp only[sumN];rw[sumN_congr n fun i hi => h i (by omega),h n (by omega)]
theorem sumN_add (f g:Nat→Nat):∀ n,sumN n (fun i => f i + g i) = sumN n f + sumN n g
 | 0 => rfl
 | n + 1 => by simp only[sumN];rw[sumN_add f g n];omega
theorem sumN_zero:∀ n,sumN n (fun _ => 0) = 0
 | 0 => rfl
 | n + 1 => by simp only[sumN,sumN_zero n]
def at1 (b:Bool):Nat:=if b then 1 else 0
theorem sumN_one {a:Nat}:∀ n,a < n→sumN n (fun i => at1 (decide (a = i))) = 1
 | 0,h => absurd h (Nat.not_lt_zero _)
 | n + 1,h => by
   simp only[sumN]
   by_cases hn:a = n
   ·have:sumN n (fun i => at1 (decide (a = i))) = sumN n (fun _ => 0):=sumN_congr n fun i hi => by
     have:¬ a = i:=by omega
     simp[at1,this]
    rw[this,sumN_zero]
    simp[at1,hn]
   ·rw[sumN_one n (by omega)]
    simp[at1,hn]
def cntL (l:List Int) (i:Nat):Nat:=(l.filter (· == (i:Int))).length
theorem cntL_sum {n:Nat}:∀ {l:List Int},(∀ w∈l,0≤w∧w < n)→sumN n (cntL l) = l.length
 | [],_ => sumN_zero n
 | w :: l,h => by
   obtain ⟨w0,wn⟩:=h w (List.mem_cons_self ..)
   have ih:=cntL_sum (n:=n) (l:=l) fun x hx => h x (List.mem_cons_of_mem _ hx)
   have e:∀ i,i < n→cntL (w :: l) i = cntL l i + at1 (decide (w.toNat = i)):=by
    intro i hi
    unfold cntL at1
    rw[List.filter_cons]
    by_cases hw:w.toNat = i
    ·have:(w == (i:Int)) = true:=by simp;omega
     rw[if_pos this,hw];simp
    ·have:¬ (w == (i:Int)) = true:=by simp;omega
     rw[if_neg this];simp[hw]
   rw[sumN_congr n e,sumN_add,ih,sumN_one n (by omega)]
   rfl
theorem cntL_pos {l:List Int} {i:Nat} (h:0 < cntL l i):(i:Int)∈l:=by
 unfold cntL at h
 obtain ⟨x,hx⟩:=List.exists_mem_of_length_pos h
 rw[List.mem_filter] at hx
 have:x = (i:Int):=by simpa using hx.2
 rw[←this];exact hx.1
theorem cntL_one:∀ {l:List Int} {i:Nat},(∀ j,j < l.length→∀ k,k < j→l.getD k 0≠l.getD j 0)→cntL l i≤1
 | [],_,_ => by simp[cntL]
 | w :: l,i,h => by
   have ih:=cntL_one (l:=l) (i:=i) fun j hj k hk => by
    have:=h (j + 1) (by simpa using hj) (k + 1) (by omega)
    simpa using this
   unfold cntL
   rw[List.filter_cons]
   by_cases hw:(w == (i:Int)) = true
   ·rw[if_pos hw,List.length_cons]
    have hwi:w = (i:Int):=by simpa using hw
    have h0:cntL l i = 0:=by
     by_cases hp:0 < cntL l i
     ·exfalso
      obtain ⟨j,hj,he⟩:=List.mem_iff_getElem.1 (cntL_pos hp)
      have:=h (j + 1) (by simpa using hj) 0 (by omega)
      apply this
      rw[List.getD_cons_zero,List.getD_cons_succ,List.getD_eq_getElem?_getD,List.getElem?_eq_getElem hj,hwi,he];rfl
     ·omega
    unfold cntL at h0
    omega
   ·rw[if_neg hw];exact ih
theorem cntW_sum (X:Gr) (loc:Int):∀ n,n≤X.evs.length→cntW X loc n = sumN n (fun i => at1 (isWr loc (X.evs.getD i ev0)))
 | 0,_ => rfl
 | n + 1,h => by
   simp only[sumN]
   rw[cntW_succ (by omega),←cntW_sum X loc n (by omega)]
   unfold at1
   split<;>rfl
theorem nEx_sum (X:Gr):∀ n,n≤X.evs.length→nEx X n = sumN n (fun i => at1 ((X.evs.getD i ev0).ex))
 | 0,_ => rfl
 | n + 1,h => by
   simp only[sumN]
   rw[nEx_succ (by omega),←nEx_sum X n (by omega)]
   unfold at1
   split<;>rfl
theorem sum_wr {m:Nat} {e:Ev} (h:e.kd = 2→0≤e.lc∧e.lc < m):sumN m (fun k => at1 (isWr k e)) = at1 (e.kd == 2):=by
 cases c:(e.kd == 2)
 ·have:sumN m (fun k => at1 (isWr k e)) = sumN m (fun _ => 0):=sumN_congr m fun i hi => by
   unfold isWr;rw[c];rfl
  rw[this,sumN_zero];rfl
 ·obtain ⟨h0,h1⟩:=h (by simpa using c)
  have:sumN m (fun k => at1 (isWr k e)) = sumN m (fun i => at1 (decide (e.lc.toNat = i))):=sumN_congr m fun i hi => by
   unfold isWr;rw[c,Bool.true_and]
   congr 1
   rw[Bool.eq_iff_iff]
   simp
   omega
  rw[this,sumN_one m (by omega)];rfl
theorem sum_swap (X:Gr) (m:Nat) (h:∀ i,i < X.evs.length→(X.evs.getD i ev0).kd = 2→0≤(X.evs.getD i ev0).lc∧(X.evs.getD i ev0).lc < m):∀ n,n≤X.evs.length→sumN m (fun k => cntW X k n) = nWr X n
 | 0,_ => by
   have:sumN m (fun k => cntW X k 0) = sumN m (fun _ => 0):=sumN_congr m fun i hi => rfl
   rw[this,sumN_zero];rfl
 | n + 1,hn => by
   have ih:=sum_swap X m h n (by omega)
   have e:∀ k,k < m→cntW X k (n + 1) = cntW X k n + at1 (isWr k (X.evs.getD n ev0)):=by
    intro k hk
    rw[cntW_succ (by omega)]
    unfold at1
    split<;>rfl
   rw[sumN_congr m e,sumN_add,ih,sum_wr (h n (by omega)),nWr_succ (by omega)]
   unfold at1
   split<;>rfl
theorem coS'_len (X:Gr):∀ k,k≤X.co.length→(coS' X k 0).length = sumN k (fun i => (X.co.getD i []).length)
 | 0,_ => by simp[coS',sumN]
 | k + 1,h => by
   simp only[sumN]
   rw[←coS'_next (by omega),←coS'_len X k (by omega)]
   unfold coS'
   simp
end Go.Ab
end
section
set_option linter.unusedVariables false
set_option linter.unusedSimpArgs false
namespace Go.Ab
theorem evIs_iff {a:Ev} {i:Int}:evIs a ⟨0,2,0,i,0,false⟩ = true↔a.th = 0∧a.kd = 2∧a.md = 0∧a.lc = i∧a.vl = 0∧a.ex = false:=by
 unfold evIs
 simp
def KindOk (locs:Int) (e:Ev):Prop:=(e.kd = 1∧0≤e.lc∧e.lc < locs∧(e.md = 0∨e.md = 1))∨(e.kd = 2∧0≤e.lc∧e.lc < locs∧(e.md = 0∨e.md = 2))∨(e.kd = 3∧1≤e.md∧e.md≤4∧e.lc = 0∧e.vl = 0∧e.ex = false)
theorem gEv_iff {locs:Int} {e:Ev}:gEv locs e = true↔KindOk locs e:=by
 unfold gEv KindOk
 by_cases c1:e.kd = 1
 ·simp[c1,and_assoc]
 by_cases c2:e.kd = 2
 ·simp[c2,and_assoc]
 ·simp[c1,c2,and_assoc]
theorem drop_getD (X:Gr) (L k:Nat):(X.evs.drop L).getD k ev0 = X.evs.getD (L + k) ev0:=by
 rw[List.getD_eq_getElem?_getD,List.getD_eq_getElem?_getD,List.getElem?_drop]
section
variable {X:Gr}
theorem evs_iff (h1:1≤X.locs) (h2:X.locs≤X.evs.length):(gFirst X = true∧gThr X = true)↔∀ i,i < X.evs.length→EvOk X.locs i (X.evs.getD (i - 1) ev0) (X.evs.getD i ev0):=by
 unfold gFirst gThr
 rw[allN_iff,allN_iff]
 have hL:((X.locs.toNat:Nat):Int) = X.locs:=by omega
 generalize X.locs.toNat = L at hL
 constructor
 ·rintro ⟨hf,ht⟩
  have ht':∀ k,k < X.evs.length - L→thrWas (X.evs.drop L) k≤(X.evs.getD (L + k) ev0).th∧(X.evs.getD (L + k) ev0).th≤4∧KindOk X.locs (X.evs.getD (L + k) ev0):=by
   intro k hk
   have:=ht k hk
   unfold thrK at this
   simp only[Bool.and_eq_true,Bool.not_eq_true',decide_eq_false_iff_not,drop_getD,gEv_iff] at this
   exact ⟨by omega,by omega,this.2.2⟩
  have hone:∀ k,k < X.evs.length - L→1≤(X.evs.getD (L + k) ev0).th:=by
   intro k
   induction k with
   | zero =>
     intro hk
     have:=(ht' 0 hk).1
     simpa [thrWas] using this
   | succ k ih =>
     intro hk
     have h0:=ih (by omega)
     have:=(ht' (k + 1) hk).1
     unfold thrWas at this
     rw[if_neg (by omega),drop_getD,Nat.add_sub_cancel] at this
     omega
  intro i hi
  constructor
  ·intro hl
   have:=evIs_iff.1 (hf i (by omega))
   exact this
  ·intro hl
   have e:L + (i - L) = i:=by omega
   have hk:=ht' (i - L) (by omega)
   have ho:=hone (i - L) (by omega)
   rw[e] at hk ho
   refine ⟨ho,hk.2.1,?_,hk.2.2⟩
   by_cases hz:i - L = 0
   ·have hf':=evIs_iff.1 (hf (i - 1) (by omega))
    omega
   ·have:=hk.1
    unfold thrWas at this
    rw[if_neg hz,drop_getD] at this
    have e2:L + (i - L - 1) = i - 1:=by omega
    rwa [e2] at this
 ·intro hev
  constructor
  ·intro i hi
   exact evIs_iff.2 ((hev i (by omega)).1 (by omega))
  ·intro k hk
   have h:=(hev (L + k) (by omega)).2 (by omega)
   unfold thrK
   simp only[Bool.and_eq_true,Bool.not_eq_true',decide_eq_false_iff_not,drop_getD,gEv_iff]
   refine ⟨?_,by omega,h.2.2.2⟩
   unfold thrWas
   by_cases hz:k = 0
   ·rw[if_pos hz];omega
   ·rw[if_neg hz,drop_getD]
    have e2:L + (k - 1) = L + k - 1:=by omega
    rw[e2]
    have:=h.2.2.1
    omega
theorem gWr_iff {i loc:Int}:gWr X i loc = true↔0≤i∧i < X.evs.length∧(X.evs.getD i.toNat ev0).kd = 2∧(X.evs.getD i.toNat ev0).lc = loc:=by
 unfold gWr
 simp only[Bool.and_eq_true,decide_eq_true_eq,beq_iff_eq,and_assoc]
theorem rf_iff:gRf X = true↔X.rf.length = X.evs.length∧∀ i,i < X.evs.length→RfOk X i:=by
 unfold gRf
 rw[Bool.and_eq_true,allN_iff,beq_iff_eq]
 have key:∀ i,rfK X i = true↔RfOk X i:=by
  intro i
  unfold rfK RfOk
  generalize X.evs.getD i ev0 = e
  have hg:=gWr_iff (X:=X) (i:=X.rf.getD i 0) (loc:=e.lc)
  generalize X.rf.getD i 0 = w at hg
  generalize X.evs.getD w.toNat ev0 = x at hg
  by_cases c1:e.kd = 1
  ·cases c2:gWr X w e.lc
   ·rw[c2] at hg
    simp only[c1,bne_self_eq_false,Bool.false_and,Bool.not_false,beq_self_eq_true,Bool.true_and,Bool.true_or,Bool.not_true]
    constructor
    ·intro h;cases h
    ·rintro ⟨_,h⟩
     obtain ⟨h1,h2,h3,h4,h5⟩:=h trivial
     exact hg.2 ⟨h1,h2,h3,h4⟩
   ·rw[c2] at hg
    obtain ⟨h1,h2,h3,h4⟩:=hg.1 rfl
    simp[c1,h1,h2,h3,h4]
  ·simp[c1]
 constructor
 ·rintro ⟨h1,h2⟩
  exact ⟨by omega,fun i hi => (key i).1 (h2 i hi)⟩
 ·rintro ⟨h1,h2⟩
  exact ⟨by omega,fun i hi => (key i).2 (h2 i hi)⟩
theorem ordP_lt {p q:Int × Int}:¬ 0≤ordP p q↔lessP p q:=by
 unfold ordP cmpI lessP
 by_cases c1:p.1 < q.1
 ·simp[c1]
 ·by_cases c2:q.1 < p.1
  ·simp[c1,c2];omega
  ·have c3:p.1 = q.1:=by omega
   by_cases c4:p.2 < q.2
   ·simp[c3,c4]
   ·by_cases c5:q.2 < p.2
    ·simp[c3,c4,c5]
    ·simp[c3,c4,c5]
theorem list_iff {may:Ev→Ev→Bool} {l:List (Int × Int)}:gList X may l = true↔(∀ i,i < l.length→0≤(l.getD i (0,0)).1∧(l.getD i (0,0)).1 < (l.getD i (0,0)).2∧(l.getD i (0,0)).2 < X.evs.length∧may (X.evs.getD (l.getD i (0,0)).1.toNat ev0) (X.evs.getD (l.getD i (0,0)).2.toNat ev0) = true)∧Rising l:=by
 unfold gList
 rw[allN_iff]
 have key:∀ i,lsK X may l i = true↔(0≤(l.getD i (0,0)).1∧(l.getD i (0,0)).1 < (l.getD i (0,0)).2∧(l.getD i (0,0)).2 < X.evs.length∧may (X.evs.getD (l.getD i (0,0)).1.toNat ev0) (X.evs.getD (l.getD i (0,0)).2.toNat ev0) = true)∧(0 < i→lessP (l.getD (i - 1) (0,0)) (l.getD i (0,0))):=by
  intro i
  have ho:=ordP_lt (p:=l.getD (i - 1) (0,0)) (q:=l.getD i (0,0))
  unfold lsK
  simp only[Bool.and_eq_true,Bool.not_eq_true',decide_eq_false_iff_not,Bool.and_eq_false_iff]
  constructor
  ·rintro ⟨h1,h2,h3,h4,h5⟩
   exact ⟨⟨by omega,by omega,by omega,h5⟩,fun hi => ho.1 (h4.resolve_left (by omega))⟩
  ·rintro ⟨⟨h1,h2,h3,h5⟩,h4⟩
   refine ⟨by omega,by omega,by omega,?_,h5⟩
   by_cases hi:0 < i
   ·exact .inr (ho.2 (h4 hi))
   ·exact .inl hi
 constructor
 ·intro h
  refine ⟨fun i hi => ((key i).1 (h i hi)).1,fun i hi => ?_⟩
  have:=((key (i + 1)).1 (h (i + 1) hi)).2 (by omega)
  rwa [Nat.add_sub_cancel] at this
 ·rintro ⟨h1,h2⟩ i hi
  refine (key i).2 ⟨h1 i hi,fun h0 => ?_⟩
  have:=h2 (i - 1) (by omega)
  have e:i - 1 + 1 = i:=by omega
  rwa [e] at this
theorem deps_iff {l:List (Int × Int)}:gList X mayD l = true↔DepsOk X l:=by
 rw[list_iff]
 unfold DepsOk DepOk mayD
 simp only[Bool.and_eq_true,beq_iff_eq]
end
theorem gd {l:List Int} {j:Nat} (hj:j < l.length):l.getD j 0 = l[j]:=by rw[List.getD_eq_getElem?_getD,List.getElem?_eq_getElem hj];rfl
theorem gd_take {l:List Int} {m j:Nat} (hm:m < j) (hj:j≤l.length):l.getD m 0∈l.take j:=by
 rw[gd (by omega)]
 exact List.mem_take_iff_getElem.2 ⟨m,by omega,rfl⟩
section
variable {X:Gr} (hE:∀ i,i < X.evs.length→EvOk X.locs i (X.evs.getD (i - 1) ev0) (X.evs.getD i ev0))
include hE
theorem wr_loc (hl:(X.co.length:Int) = X.locs) {i:Nat} (hi:i < X.evs.length) (hk:(X.evs.getD i ev0).kd = 2):0≤(X.evs.getD i ev0).lc∧(X.evs.getD i ev0).lc < X.co.length:=by
 obtain ⟨h1,h2⟩:=hE i hi
 by_cases h:(i:Int) < X.locs
 ·have:=(h1 h).2.2.2.1
  omega
 ·have:=(h2 h).2.2.2
  omega
theorem co_iff:gCo X = true↔(X.co.length:Int) = X.locs∧∀ k,k < X.co.length→CoOk X k:=by
 unfold gCo
 rw[Bool.and_eq_true,Bool.and_eq_true,allN_iff,beq_iff_eq,beq_iff_eq]
 have hflat:X.co.flatten.length = sumN X.co.length (fun i => (X.co.getD i []).length):=by
  rw[←coS'_end X,coS'_len X _ (Nat.le_refl _)]
 constructor
 ·rintro ⟨hl,hK,hT⟩
  refine ⟨hl,?_⟩
  have hsw:=sum_swap X X.co.length (fun i hi hk => wr_loc hE hl hi hk) X.evs.length (Nat.le_refl _)
  have hk:∀ k,k < X.co.length→0 < (X.co.getD k []).length∧(X.co.getD k []).getD 0 0 = (k:Int)∧∀ j,j < (X.co.getD k []).length→(0≤(X.co.getD k []).getD j 0∧(X.co.getD k []).getD j 0 < X.evs.length∧(X.evs.getD ((X.co.getD k []).getD j 0).toNat ev0).kd = 2∧(X.evs.getD ((X.co.getD k []).getD j 0).toNat ev0).lc = k)∧¬ (X.co.getD k []).getD j 0∈coS' X k j:=by
   intro k hk
   have:=hK k hk
   unfold coK at this
   simp only[Bool.and_eq_true,Bool.not_eq_true',beq_eq_false_iff_ne,ne_eq,bne_eq_false_iff_eq,allN_iff] at this
   obtain ⟨h1,h2,h3⟩:=this
   refine ⟨by omega,h2,fun j hj => ?_⟩
   have:=h3 j hj
   unfold ciK at this
   simp only[Bool.and_eq_true,Bool.not_eq_true',gWr_iff] at this
   refine ⟨this.1,fun hm => ?_⟩
   have h4:=this.2
   rw[List.contains_iff_mem.2 hm] at h4
   cases h4
  have hne:∀ k,k < X.co.length→∀ j,j < (X.co.getD k []).length→∀ m,m < j→(X.co.getD k []).getD m 0≠(X.co.getD k []).getD j 0:=by
   intro k hk' j hj m hm he
   apply ((hk k hk').2.2 j hj).2
   rw[←he]
   unfold coS'
   exact List.mem_append_right _ (gd_take hm (by omega))
  have hle:∀ k,k < X.co.length→(X.co.getD k []).length≤cntW X k X.evs.length:=by
   intro k hk'
   have hin:∀ w∈X.co.getD k [],0≤w∧w < (X.evs.length:Int):=by
    intro w hw
    obtain ⟨j,hj,he⟩:=List.mem_iff_getElem.1 hw
    have:=((hk k hk').2.2 j hj).1
    rw[gd hj,he] at this
    exact ⟨this.1,this.2.1⟩
   rw[←cntL_sum hin,cntW_sum X k _ (Nat.le_refl _)]
   refine sumN_le _ fun i hi => ?_
   by_cases hp:0 < cntL (X.co.getD k []) i
   ·have h1:=cntL_one (i:=i) (hne k hk')
    obtain ⟨j,hj,he⟩:=List.mem_iff_getElem.1 (cntL_pos hp)
    have:=((hk k hk').2.2 j hj).1
    rw[gd hj,he,Int.toNat_natCast] at this
    have hw:isWr k (X.evs.getD i ev0) = true:=by
     unfold isWr
     rw[this.2.2.1,this.2.2.2]
     simp
    rw[hw]
    exact h1
   ·omega
  have heq:=sumN_eq X.co.length hle (by omega)
  intro k hk'
  obtain ⟨h1,h2,h3⟩:=hk k hk'
  exact ⟨fun j hj => (h3 j hj).1,hne k hk',heq k hk',h1,h2⟩
 ·rintro ⟨hl,hK⟩
  have hsw:=sum_swap X X.co.length (fun i hi hk => wr_loc hE hl hi hk) X.evs.length (Nat.le_refl _)
  refine ⟨hl,fun k hk => ?_,?_⟩
  ·obtain ⟨h1,h2,h3,h4,h5⟩:=hK k hk
   unfold coK
   simp only[Bool.and_eq_true,Bool.not_eq_true',beq_eq_false_iff_ne,ne_eq,bne_eq_false_iff_eq,allN_iff]
   refine ⟨by omega,h5,fun j hj => ?_⟩
   unfold ciK
   simp only[Bool.and_eq_true,Bool.not_eq_true',gWr_iff]
   refine ⟨h1 j hj,?_⟩
   cases c:(coS' X k j).contains ((X.co.getD k []).getD j 0)
   ·rfl
   ·exfalso
    have hm:=List.contains_iff_mem.1 c
    unfold coS' at hm
    rcases List.mem_append.1 hm with hm | hm
    ·obtain ⟨l,hl',hm⟩:=List.mem_flatten.1 hm
     obtain ⟨k',hk',he⟩:=List.mem_take_iff_getElem.1 hl'
     obtain ⟨m,hm',he'⟩:=List.mem_iff_getElem.1 hm
     have hkk:k' < X.co.length:=by omega
     have hg:X.co.getD k' [] = l:=by rw[List.getD_eq_getElem?_getD,List.getElem?_eq_getElem hkk];exact he
     have h6:=(hK k' hkk).wr m (by rw[hg];exact hm')
     rw[hg,gd hm',he'] at h6
     have h7:=(h1 j hj).2.2.2
     rw[h6.2.2.2] at h7
     omega
    ·obtain ⟨m,hm',he⟩:=List.mem_take_iff_getElem.1 hm
     have:=h2 j hj m (by omega)
     apply this
     rw[←he,gd (by omega)]
  ·have:=sumN_congr (f:=fun i => (X.co.getD i []).length) (g:=fun k => cntW X k X.evs.length) X.co.length fun k hk => (hK k hk).len
   omega
end
theorem inC_sum {n:Nat}:∀ {l:List (Int × Int)},(∀ p∈l,0≤p.1∧p.2 = p.1 + 1∧p.2 < n)→sumN n (inC l) = 2 * l.length
 | [],_ => sumN_zero n
 | p :: l,h => by
   obtain ⟨p0,p1,p2⟩:=h p (List.mem_cons_self ..)
   have ih:=inC_sum (n:=n) (l:=l) fun x hx => h x (List.mem_cons_of_mem _ hx)
   have e:∀ i,i < n→inC (p :: l) i = inC l i + (at1 (decide (p.1.toNat = i)) + at1 (decide (p.2.toNat = i))):=by
    intro i hi
    unfold inC inB at1
    rw[List.filter_cons]
    by_cases h1:p.1 = (i:Int)
    ·have h2:¬ p.2 = (i:Int):=by omega
     have h3:p.1.toNat = i:=by omega
     have h4:¬ p.2.toNat = i:=by omega
     simp[h1,h4]
    ·have h3:¬ p.1.toNat = i:=by omega
     by_cases h2:p.2 = (i:Int)
     ·have h4:p.2.toNat = i:=by omega
      simp[h2,h3]
     ·have h4:¬ p.2.toNat = i:=by omega
      simp[h1,h2,h3,h4]
   rw[sumN_congr n e,sumN_add,sumN_add,ih,sumN_one n (by omega),sumN_one n (by omega),List.length_cons]
   omega
theorem inC_pos {l:List (Int × Int)} {i:Nat} (h:0 < inC l i):∃ j,j < l.length∧inB i (l.getD j (0,0)) = true:=by
 unfold inC at h
 obtain ⟨x,hx⟩:=List.exists_mem_of_length_pos h
 rw[List.mem_filter] at hx
 obtain ⟨j,hj,he⟩:=List.mem_iff_getElem.1 hx.1
 refine ⟨j,hj,?_⟩
 rw[List.getD_eq_getElem?_getD,List.getElem?_eq_getElem hj,Option.getD_some,he]
 exact hx.2
theorem inC_one:∀ {l:List (Int × Int)} {i:Nat},(∀ j,j < l.length→∀ k,k < j→inB i (l.getD k (0,0)) = true→inB i (l.getD j (0,0)) = true→False)→inC l i≤1
 | [],_,_ => by simp[inC]
 | p :: l,i,h => by
   have ih:=inC_one (l:=l) (i:=i) fun j hj k hk => by
    have:=h (j + 1) (by simpa using hj) (k + 1) (by omega)
    simpa using this
   unfold inC
   rw[List.filter_cons]
   by_cases hp:inB i p = true
   ·rw[if_pos hp,List.length_cons]
    have h0:inC l i = 0:=by
     by_cases hq:0 < inC l i
     ·exfalso
      obtain ⟨j,hj,he⟩:=inC_pos hq
      exact h (j + 1) (by simpa using hj) 0 (by omega) hp he
     ·omega
    unfold inC at h0
    omega
   ·rw[if_neg hp];exact ih
theorem inC_two {l:List (Int × Int)} {i k:Nat} (hk:k + 1 < l.length) (h1:inB i (l.getD k (0,0)) = true) (h2:inB i (l.getD (k + 1) (0,0)) = true):2≤inC l i:=by
 have e1:=inC_take (l:=l) (k:=k) (by omega) i
 have e2:=inC_take hk i
 rw[h1,if_pos rfl] at e1
 rw[h2,if_pos rfl] at e2
 have:inC (l.take (k + 1 + 1)) i≤inC l i:=by
  unfold inC
  exact ((List.take_sublist _ _).filter _).length_le
 omega
theorem inB_iff {i:Nat} {p:Int × Int}:inB i p = true↔p.1 = i∨p.2 = i:=by
 unfold inB
 rw[Bool.or_eq_true,beq_iff_eq,beq_iff_eq]
theorem mayR_iff {a b:Ev}:mayR a b = true↔a.th = b.th∧a.kd = 1∧b.kd = 2∧a.lc = b.lc∧a.ex = true∧b.ex = true:=by
 unfold mayR
 simp only[Bool.and_eq_true,beq_iff_eq]
 constructor
 ·rintro ⟨⟨⟨⟨⟨h1,h2⟩,h3⟩,h4⟩,h5⟩,h6⟩
  exact ⟨h6,h1,h2,h3,h4,h5⟩
 ·rintro ⟨h6,h1,h2,h3,h4,h5⟩
  exact ⟨⟨⟨⟨⟨h1,h2⟩,h3⟩,h4⟩,h5⟩,h6⟩
theorem rmw_iff {X:Gr}:gRmw X = true↔RmwOk X:=by
 unfold gRmw
 rw[Bool.and_eq_true,Bool.and_eq_true,allN_iff,beq_iff_eq,list_iff]
 have hmem:∀ {P:Int × Int→Prop},(∀ j,j < X.rmw.length→P (X.rmw.getD j (0,0)))→∀ p∈X.rmw,P p:=by
  intro P h p hp
  obtain ⟨j,hj,he⟩:=List.mem_iff_getElem.1 hp
  have:=h j hj
  rwa [List.getD_eq_getElem?_getD,List.getElem?_eq_getElem hj,Option.getD_some,he] at this
 constructor
 ·rintro ⟨⟨hL,hr⟩,hK,hE⟩
  have hK':∀ k,k < X.rmw.length→(X.rmw.getD k (0,0)).2 = (X.rmw.getD k (0,0)).1 + 1∧rmLast X k < (X.rmw.getD k (0,0)).1:=by
   intro k hk
   have:=hK k hk
   unfold rmK at this
   simp only[Bool.and_eq_true,Bool.not_eq_true',bne_eq_false_iff_eq,decide_eq_false_iff_not] at this
   exact ⟨this.1,by omega⟩
  have hpair:∀ j,j < X.rmw.length→PairOk X (X.rmw.getD j (0,0)):=by
   intro j hj
   obtain ⟨h1,h2,h3,h4⟩:=hL j hj
   obtain ⟨h5,h6,h7,h8,h9,h10⟩:=mayR_iff.1 h4
   have:=(hK' j hj).1
   exact ⟨h1,by omega,this,h5,h6,h7,h8,h9,h10⟩
  have hmono:∀ j,j < X.rmw.length→∀ k,k < j→(X.rmw.getD k (0,0)).2 < (X.rmw.getD j (0,0)).1:=by
   intro j
   induction j with
   | zero => intro _ k hk;omega
   | succ j ih =>
     intro hj k hk
     have h1:=(hK' (j + 1) hj).2
     unfold rmLast at h1
     rw[if_neg (by omega),Nat.add_sub_cancel] at h1
     by_cases hkj:k = j
     ·subst hkj;exact h1
     ·have h2:=ih (by omega) k (by omega)
      have h3:=(hK' j (by omega)).1
      omega
  have hone:∀ i,inC X.rmw i≤1:=fun i => inC_one fun j hj k hk h1 h2 => by
   have h3:=hmono j hj k hk
   have h4:=(hK' j hj).1
   have h5:=(hK' k (by omega)).1
   rw[inB_iff] at h1 h2
   omega
  have hsum:=inC_sum (n:=X.evs.length) (l:=X.rmw) (hmem fun j hj => ⟨(hL j hj).1,(hK' j hj).1,(hL j hj).2.2.1⟩)
  have hle:∀ i,i < X.evs.length→inC X.rmw i≤at1 ((X.evs.getD i ev0).ex):=by
   intro i hi
   by_cases hp:0 < inC X.rmw i
   ·obtain ⟨j,hj,hb'⟩:=inC_pos hp
    rw[inB_iff] at hb'
    obtain ⟨p1,p2,p3,p4,p5,p6,p7,p8,p9⟩:=hpair j hj
    have hex:(X.evs.getD i ev0).ex = true:=by
     rcases hb' with hb' | hb'
     ·rw[hb',Int.toNat_natCast] at p8;exact p8
     ·rw[hb',Int.toNat_natCast] at p9;exact p9
    rw[hex]
    exact hone i
   ·omega
  have heq:=sumN_eq X.evs.length hle (by rw[←nEx_sum X _ (Nat.le_refl _)];omega)
  refine ⟨hpair,fun i hi => ⟨hone i,?_⟩,hr⟩
  rw[heq i hi]
  cases (X.evs.getD i ev0).ex<;>rfl
 ·rintro ⟨hp,ho,hr⟩
  refine ⟨⟨fun j hj => ?_,hr⟩,fun k hk => ?_,?_⟩
  ·obtain ⟨p1,p2,p3,p4,p5,p6,p7,p8,p9⟩:=hp j hj
   exact ⟨p1,by omega,by omega,mayR_iff.2 ⟨p4,p5,p6,p7,p8,p9⟩⟩
  ·obtain ⟨p1,p2,p3,_⟩:=hp k hk
   unfold rmK
   simp only[Bool.and_eq_true,Bool.not_eq_true',bne_eq_false_iff_eq,decide_eq_false_iff_not]
   refine ⟨p3,?_⟩
   unfold rmLast
   by_cases h0:k = 0
   ·rw[if_pos h0];omega
   ·rw[if_neg h0]
    have e:k - 1 + 1 = k:=by omega
    have h1:=hr (k - 1) (by omega)
    rw[e] at h1
    obtain ⟨q1,q2,q3,_⟩:=hp (k - 1) (by omega)
    intro hle
    have h2:(X.rmw.getD (k - 1) (0,0)).2 = (X.rmw.getD k (0,0)).1:=by
     rcases h1 with h1 | h1
     ·omega
     ·omega
    have h3:=(ho (X.rmw.getD k (0,0)).1.toNat (by omega)).1
    have h4:=inC_two (l:=X.rmw) (i:=(X.rmw.getD k (0,0)).1.toNat) (k:=k - 1) (by omega) (inB_iff.2 (.inr (by omega))) (by rw[e];exact inB_iff.2 (.inl (by omega)))
    omega
  ·have hsum:=inC_sum (n:=X.evs.length) (l:=X.rmw) (hmem fun j hj => by
    obtain ⟨p1,p2,p3,_⟩:=hp j hj
    exact ⟨p1,p3,by omega⟩)
   have:sumN X.evs.length (fun i => at1 ((X.evs.getD i ev0).ex)) = sumN X.evs.length (inC X.rmw):=sumN_congr _ fun i hi => by
    obtain ⟨h1,h2⟩:=ho i hi
    rw[h2]
    have:inC X.rmw i = 0∨inC X.rmw i = 1:=by omega
    rcases this with h | h<;>rw[h]<;>rfl
   rw[nEx_sum X _ (Nat.le_refl _),this,hsum]
   omega
theorem gCheck_iff {X:Gr}:gCheck X = true↔GraphOk X:=by
 unfold gCheck
 simp only[Bool.and_eq_true,Bool.not_eq_true',decide_eq_false_iff_not]
 constructor
 ·rintro ⟨h1,h2,h3,h4,h5,h6,h7,h8,h9,h10,h11,h12⟩
  have hev:=(evs_iff (X:=X) (by omega) (by omega)).1 ⟨h5,h6⟩
  obtain ⟨hr1,hr2⟩:=rf_iff.1 h7
  obtain ⟨hc1,hc2⟩:=(co_iff hev).1 h8
  exact ⟨by omega,by omega,by omega,by omega,hr1,hc1,hev,hr2,hc2,rmw_iff.1 h9,deps_iff.1 h10,deps_iff.1 h11,deps_iff.1 h12⟩
 ·rintro ⟨l1,l4,nl,n40,hrl,hcl,hev,hrf,hco,hrm,hda,hct,hci⟩
  obtain ⟨h5,h6⟩:=(evs_iff (X:=X) (by omega) (by omega)).2 hev
  exact ⟨by omega,by omega,by omega,by omega,h5,h6,rf_iff.2 ⟨hrl,hrf⟩,(co_iff hev).2 ⟨hcl,hco⟩,rmw_iff.2 hrm,deps_iff.2 hda,deps_iff.2 hct,deps_iff.2 hci⟩
end Go.Ab
end
section
set_option linter.unusedVariables false
set_option linter.unusedSimpArgs false
namespace Go.Ab
variable {F:Funs}
theorem thaw27 (h27:F 27 = some A_xref01_New) {n:Nat} (hn:n≤40) (al:Nat→Bool) (id:Nat) (g:G):vThaw F al id (.fn 27 [] []) [.i .i64 n,.sl [] 0 .rig] g = some (.mp id 0,⟨upd g.hp id (some (.cells (matC n fun _ _ => false) false)),g.nx⟩):=
 vThaw_S (bs:=[.i .i64 n,.sl [] 0 .non]) (by rw[frzL_cons,frzL_cons,frzL_nil,frz_d_i,frz_d_sl];rfl) (sp_newT h27 hn .non) (by rw[List.flatMap_cons,List.flatMap_cons,vis_i,vis_sl];rfl)
def stM (φ:Bool→Bool→Bool) (A B:Mx) (N a b:Nat):Mx:=fun i j => if (i < a∧j < N)∨(i = a∧j < b) then φ (A i j) (B i j) else false
theorem stM_succ (φ A B N a b):upd2 (stM φ A B N a b) a b (φ (A a b) (B a b)) = stM φ A B N a (b + 1):=by
 funext i j
 unfold upd2 stM
 by_cases h:i = a∧j = b
 ·obtain ⟨rfl,rfl⟩:=h
  rw[if_pos ⟨rfl,rfl⟩,if_pos (.inr ⟨rfl,by omega⟩)]
 ·rw[if_neg h]
  by_cases h2:(i < a∧j < N)∨(i = a∧j < b)
  ·rw[if_pos h2,if_pos (by omega)]
  ·rw[if_neg h2,if_neg (by omega)]
theorem stM_row (φ A B N a):stM φ A B N a N = stM φ A B N (a + 1) 0:=by
 funext i j
 unfold stM
 by_cases h2:(i < a∧j < N)∨(i = a∧j < N)
 ·rw[if_pos h2,if_pos (by omega)]
 ·rw[if_neg h2,if_neg (by omega)]
theorem stM_0 (φ A B N):stM φ A B N 0 0 = fun _ _ => false:=by
 funext i j
 unfold stM
 rw[if_neg (by omega)]
def opM (φ:Bool→Bool→Bool) (A B:Mx) (N:Nat):Mx:=stM φ A B N N 0
theorem sp_mor (h:F 29 = some A_xref01_R_Or) (h27:F 27 = some A_xref01_New) {n m:Nat} (hn:n≤40) (hm:m≤40) (A B:Mx):pureS F 29 [.ptr (matC n A),.ptr (matC m B)] = some (.ptr (matC (max n m) (opM (fun x y => x || y) A B (max n m)))):=by
 refine pure_of_thaw h (matC_flat _ _) ?_
 have hN:max n m≤40:=by omega
 simp (disch:=omega) only[A_xref01_R_Or,wp,qa,qb,qc,ml,maxI,thaw27 h27]
 generalize max n m = N at hN
 refine W_loop (fun q e g => ∃ a,q = N - a∧a≤N∧e 0 = .ptr (matC n A)∧e 1 = .ptr (matC m B)∧e 5 = .mp 10 0∧e 6 = .i .i64 a∧g.hp 10 = some (.cells (matC N (stM (fun x y => x || y) A B N a 0)) false)∧10 < g.nx) N ?_ ?_
 ·refine ⟨0,rfl,Nat.zero_le _,?_⟩
  simp (disch:=omega) only[wp,qa,qb,qc,stM_0]
  exact ⟨rfl,by first | omega | (dsimp only;omega)⟩
 ·rintro q e g ⟨a,rfl,ha,h0,h1,h5,h6,hg,hnx⟩
  by_cases ha':a < N
  ·have ha1:(a:Int) < N:=by omega
   have hwa:=succ_wrap (k:=a) (by omega)
   simp (disch:=omega) only[wp,qa,qb,qc,ml,h0,h1,h5,h6,hg,ha1]
   refine W_loop (fun q e g => ∃ b,q = N - b∧b≤N∧e 0 = .ptr (matC n A)∧e 1 = .ptr (matC m B)∧e 5 = .mp 10 0∧e 6 = .i .i64 a∧e 7 = .i .i64 b∧g.hp 10 = some (.cells (matC N (stM (fun x y => x || y) A B N a b)) false)∧10 < g.nx) N ?_ ?_
   ·refine ⟨0,rfl,Nat.zero_le _,?_⟩
    simp (disch:=omega) only[wp,qa,qb,qc,h0,h1,h5,h6,hg]
    exact ⟨rfl,by first | omega | (dsimp only;omega)⟩
   ·rintro q e g ⟨b,rfl,hb,h0,h1,h5,h6,h7,hg,hnx⟩
    by_cases hb':b < N
    ·have hb1:(b:Int) < N:=by omega
     have hwb:=succ_wrap (k:=b) (by omega)
     have hs:=stM_succ (fun x y => x || y) A B N a b
     cases hA:A a b with
     | true =>
       simp only[hA,Bool.true_or,Bool.true_and] at hs
       simp (disch:=omega) only[wp,qa,qb,qc,ml,h0,h1,h5,h6,h7,hg,hb1,hA,hwb,hs]
       exact ⟨N - (b + 1),by omega,b + 1,rfl,by omega,rfl,rfl,by first | omega | (dsimp only;omega)⟩
     | false =>
       simp only[hA,Bool.false_or,Bool.false_and] at hs
       simp (disch:=omega) only[wp,qa,qb,qc,ml,h0,h1,h5,h6,h7,hg,hb1,hA,hwb,hs]
       exact ⟨N - (b + 1),by omega,b + 1,rfl,by omega,rfl,rfl,by first | omega | (dsimp only;omega)⟩
    ·obtain rfl:b = N:=by omega
     have hb1:¬ ((b:Int) < b):=by omega
     rw[stM_row] at hg
     simp (disch:=omega) only[wp,qa,qb,qc,ml,h0,h1,h5,h6,h7,hg,hb1,hwa]
     exact ⟨b - (a + 1),by omega,a + 1,rfl,by omega,rfl,rfl,by first | omega | (dsimp only;omega)⟩
  ·obtain rfl:a = N:=by omega
   have ha1:¬ ((a:Int) < a):=by omega
   simp (disch:=omega) only[wp,qa,qb,qc,ml,h0,h1,h5,h6,hg,ha1]
   exact ⟨10,rfl,hg⟩
theorem sp_mand (h:F 30 = some A_xref01_R_And) (h27:F 27 = some A_xref01_New) {n m:Nat} (hn:n≤40) (hm:m≤40) (A B:Mx):pureS F 30 [.ptr (matC n A),.ptr (matC m B)] = some (.ptr (matC (max n m) (opM (fun x y => x && y) A B (max n m)))):=by
 refine pure_of_thaw h (matC_flat _ _) ?_
 have hN:max n m≤40:=by omega
 simp (disch:=omega) only[A_xref01_R_And,wp,qa,qb,qc,ml,maxI,thaw27 h27]
 generalize max n m = N at hN
 refine W_loop (fun q e g => ∃ a,q = N - a∧a≤N∧e 0 = .ptr (matC n A)∧e 1 = .ptr (matC m B)∧e 5 = .mp 10 0∧e 6 = .i .i64 a∧g.hp 10 = some (.cells (matC N (stM (fun x y => x && y) A B N a 0)) false)∧10 < g.nx) N ?_ ?_
 ·refine ⟨0,rfl,Nat.zero_le _,?_⟩
  simp (disch:=omega) only[wp,qa,qb,qc,stM_0]
  exact ⟨rfl,by first | omega | (dsimp only;omega)⟩
 ·rintro q e g ⟨a,rfl,ha,h0,h1,h5,h6,hg,hnx⟩
  by_cases ha':a < N
  ·have ha1:(a:Int) < N:=by omega
   have hwa:=succ_wrap (k:=a) (by omega)
   simp (disch:=omega) only[wp,qa,qb,qc,ml,h0,h1,h5,h6,hg,ha1]
   refine W_loop (fun q e g => ∃ b,q = N - b∧b≤N∧e 0 = .ptr (matC n A)∧e 1 = .ptr (matC m B)∧e 5 = .mp 10 0∧e 6 = .i .i64 a∧e 7 = .i .i64 b∧g.hp 10 = some (.cells (matC N (stM (fun x y => x && y) A B N a b)) false)∧10 < g.nx) N ?_ ?_
   ·refine ⟨0,rfl,Nat.zero_le _,?_⟩
    simp (disch:=omega) only[wp,qa,qb,qc,h0,h1,h5,h6,hg]
    exact ⟨rfl,by first | omega | (dsimp only;omega)⟩
   ·rintro q e g ⟨b,rfl,hb,h0,h1,h5,h6,h7,hg,hnx⟩
    by_cases hb':b < N
    ·have hb1:(b:Int) < N:=by omega
     have hwb:=succ_wrap (k:=b) (by omega)
     have hs:=stM_succ (fun x y => x && y) A B N a b
     cases hA:A a b with
     | true =>
       simp only[hA,Bool.true_or,Bool.true_and] at hs
       simp (disch:=omega) only[wp,qa,qb,qc,ml,h0,h1,h5,h6,h7,hg,hb1,hA,hwb,hs]
       exact ⟨N - (b + 1),by omega,b + 1,rfl,by omega,rfl,rfl,by first | omega | (dsimp only;omega)⟩
     | false =>
       simp only[hA,Bool.false_or,Bool.false_and] at hs
       simp (disch:=omega) only[wp,qa,qb,qc,ml,h0,h1,h5,h6,h7,hg,hb1,hA,hwb,hs]
       exact ⟨N - (b + 1),by omega,b + 1,rfl,by omega,rfl,rfl,by first | omega | (dsimp only;omega)⟩
    ·obtain rfl:b = N:=by omega
     have hb1:¬ ((b:Int) < b):=by omega
     rw[stM_row] at hg
     simp (disch:=omega) only[wp,qa,qb,qc,ml,h0,h1,h5,h6,h7,hg,hb1,hwa]
     exact ⟨b - (a + 1),by omega,a + 1,rfl,by omega,rfl,rfl,by first | omega | (dsimp only;omega)⟩
  ·obtain rfl:a = N:=by omega
   have ha1:¬ ((a:Int) < a):=by omega
   simp (disch:=omega) only[wp,qa,qb,qc,ml,h0,h1,h5,h6,hg,ha1]
   exact ⟨10,rfl,hg⟩
end Go.Ab
end
section
set_option linter.unusedVariables false
set_option linter.unusedSimpArgs false
namespace Go.Ab
variable {F:Funs}
def t1M (A B:Mx) (a b c:Nat) (T:Mx):Mx:=fun i j => if i = a∧j < c then T i j || B b j else T i j
def t2M (A B:Mx) (N a:Nat) (T:Mx) (b:Nat):Mx:=if A a b then t1M A B a b N T else T
def t3M (A B:Mx) (N a k:Nat) (T:Mx):Mx:=(List.range k).foldl (t2M A B N a) T
def thM (A B:Mx) (N k:Nat):Mx:=(List.range k).foldl (fun T a => t3M A B N a N T) (fun _ _ => false)
theorem t3M_succ (A B N a k T):t3M A B N a (k + 1) T = t2M A B N a (t3M A B N a k T) k:=by simp[t3M,List.range_succ]
theorem thM_succ (A B N k):thM A B N (k + 1) = t3M A B N k N (thM A B N k):=by simp[thM,List.range_succ]
theorem t1M_succ (A B a b c T):upd2 (t1M A B a b c T) a c (T a c || B b c) = t1M A B a b (c + 1) T:=by
 funext i j
 unfold upd2 t1M
 by_cases h:i = a∧j = c
 ·obtain ⟨rfl,rfl⟩:=h;rw[if_pos ⟨rfl,rfl⟩,if_pos ⟨rfl,by omega⟩]
 ·rw[if_neg h]
  by_cases h2:i = a∧j < c
  ·rw[if_pos h2,if_pos (by omega)]
  ·rw[if_neg h2,if_neg (by omega)]
theorem t1M_at (A B a b c T):t1M A B a b c T a c = T a c:=by unfold t1M;rw[if_neg (by omega)]
theorem t1M_0 (A B a b T):t1M A B a b 0 T = T:=by funext i j;unfold t1M;rw[if_neg (by omega)]
theorem sp_mthen (h:F 32 = some A_xref01_R_Then) (h27:F 27 = some A_xref01_New) {n m:Nat} (hn:n≤40) (hm:m≤40) (A B:Mx):pureS F 32 [.ptr (matC n A),.ptr (matC m B)] = some (.ptr (matC (max n m) (thM A B (max n m) (max n m)))):=by
 refine pure_of_thaw h (matC_flat _ _) ?_
 have hN:max n m≤40:=by omega
 simp (disch:=omega) only[A_xref01_R_Then,wp,qa,qb,qc,ml,maxI,thaw27 h27]
 generalize max n m = N at hN
 refine W_loop (fun q e g => ∃ a,q = N - a∧a≤N∧e 0 = .ptr (matC n A)∧e 1 = .ptr (matC m B)∧e 5 = .mp 10 0∧e 6 = .i .i64 a∧g.hp 10 = some (.cells (matC N (thM A B N a)) false)∧10 < g.nx) N ?_ ?_
 ·refine ⟨0,rfl,Nat.zero_le _,?_⟩
  simp (disch:=omega) only[wp,qa,qb,qc]
  exact ⟨rfl,rfl,by first | omega | (dsimp only;omega)⟩
 ·rintro q e g ⟨a,rfl,ha,h0,h1,h5,h6,hg,hnx⟩
  by_cases ha':a < N
  ·have ha1:(a:Int) < N:=by omega
   have hwa:=succ_wrap (k:=a) (by omega)
   simp (disch:=omega) only[wp,qa,qb,qc,ml,h0,h1,h5,h6,hg,ha1]
   refine W_loop (fun q e g => ∃ b,q = N - b∧b≤N∧e 0 = .ptr (matC n A)∧e 1 = .ptr (matC m B)∧e 5 = .mp 10 0∧e 6 = .i .i64 a∧e 7 = .i .i64 b∧g.hp 10 = some (.cells (matC N (t3M A B N a b (thM A B N a))) false)∧10 < g.nx) N ?_ ?_
   ·refine ⟨0,rfl,Nat.zero_le _,?_⟩
    simp (disch:=omega) only[wp,qa,qb,qc,h0,h1,h5,h6,hg]
    exact ⟨rfl,rfl,by first | omega | (dsimp only;omega)⟩
   ·rintro q e g ⟨b,rfl,hb,h0,h1,h5,h6,h7,hg,hnx⟩
    by_cases hb':b < N
    ·have hb1:(b:Int) < N:=by omega
     have hwb:=succ_wrap (k:=b) (by omega)
     have hs:=t3M_succ A B N a b (thM A B N a)
     generalize t3M A B N a b (thM A B N a) = T at hg hs
     cases hA:A a b with
     | true =>
       rw[t2M,if_pos hA] at hs
       simp (disch:=omega) only[wp,qa,qb,qc,ml,h0,h1,h5,h6,h7,hg,hb1]
       refine W_loop (fun q e g => ∃ c,q = N - c∧c≤N∧e 0 = .ptr (matC n A)∧e 1 = .ptr (matC m B)∧e 5 = .mp 10 0∧e 6 = .i .i64 a∧e 7 = .i .i64 b∧e 8 = .i .i64 c∧g.hp 10 = some (.cells (matC N (t1M A B a b c T)) false)∧10 < g.nx) N ?_ ?_
       ·refine ⟨0,rfl,Nat.zero_le _,?_⟩
        simp (disch:=omega) only[wp,qa,qb,qc,h0,h1,h5,h6,h7,hg,t1M_0]
        exact ⟨rfl,by first | omega | (dsimp only;omega)⟩
       ·rintro q e g ⟨c,rfl,hc,h0,h1,h5,h6,h7,h8,hg,hnx⟩
        by_cases hc':c < N
        ·have hc1:(c:Int) < N:=by omega
         have hwc:=succ_wrap (k:=c) (by omega)
         have hs1:=t1M_succ A B a b c T
         have hat:=t1M_at A B a b c T
         cases hT:T a c with
         | true =>
           rw[hT] at hat hs1
           simp only[Bool.true_or] at hs1
           simp (disch:=omega) only[wp,qa,qb,qc,ml,h0,h1,h5,h6,h7,h8,hg,hc1,hA,hat,hwc,hs1]
           exact ⟨N - (c + 1),by omega,c + 1,rfl,by omega,rfl,rfl,by first | omega | (dsimp only;omega)⟩
         | false =>
           rw[hT] at hat hs1
           simp only[Bool.false_or] at hs1
           simp (disch:=omega) only[wp,qa,qb,qc,ml,h0,h1,h5,h6,h7,h8,hg,hc1,hA,hat,hwc,hs1]
           exact ⟨N - (c + 1),by omega,c + 1,rfl,by omega,rfl,rfl,by first | omega | (dsimp only;omega)⟩
        ·obtain rfl:c = N:=by omega
         have hc1:¬ ((c:Int) < c):=by omega
         rw[←hs] at hg
         simp (disch:=omega) only[wp,qa,qb,qc,ml,h0,h1,h5,h6,h7,h8,hg,hc1,hwb]
         exact ⟨c - (b + 1),by omega,b + 1,rfl,by omega,rfl,rfl,by first | omega | (dsimp only;omega)⟩
     | false =>
       rw[t2M,if_neg (by rw[hA];simp)] at hs
       have h0N:(0:Int) < N:=by omega
       have hA0:part (((matR A).drop (a * 40)).drop (b * 1)) 0 none = some (.b false):=by rw[matR_at (by omega),hA]
       simp (disch:=omega) only[wp,qa,qb,qc,ml,h0,h1,h5,h6,h7,hg,hb1]
       refine W_loop (fun q e g => e 0 = .ptr (matC n A)∧e 1 = .ptr (matC m B)∧e 5 = .mp 10 0∧e 6 = .i .i64 a∧e 7 = .i .i64 b∧e 8 = .i .i64 0∧g.hp 10 = some (.cells (matC N T) false)∧10 < g.nx) 0 ?_ ?_
       ·simp (disch:=omega) only[wp,qa,qb,qc,h0,h1,h5,h6,h7,hg]
        first | omega | (dsimp only;omega)
       ·rintro q e g ⟨h0,h1,h5,h6,h7,h8,hg,hnx⟩
        rw[←hs] at hg
        simp (disch:=omega) only[wp,qa,qb,qc,ml,h0,h1,h5,h6,h7,h8,hg,h0N,hA,hwb]
        exact ⟨N - (b + 1),by omega,b + 1,rfl,by omega,rfl,rfl,by first | omega | (dsimp only;omega)⟩
    ·obtain rfl:b = N:=by omega
     have hb1:¬ ((b:Int) < b):=by omega
     rw[←thM_succ] at hg
     simp (disch:=omega) only[wp,qa,qb,qc,ml,h0,h1,h5,h6,h7,hg,hb1,hwa]
     exact ⟨b - (a + 1),by omega,a + 1,rfl,by omega,rfl,rfl,by first | omega | (dsimp only;omega)⟩
  ·obtain rfl:a = N:=by omega
   have ha1:¬ ((a:Int) < a):=by omega
   simp (disch:=omega) only[wp,qa,qb,qc,ml,h0,h1,h5,h6,hg,ha1]
   exact ⟨10,rfl,hg⟩
def bkM (A:Mx) (N a b:Nat):Mx:=fun i j => if (j < a∧i < N)∨(j = a∧i < b) then A j i else false
theorem bkM_succ (A N a b):upd2 (bkM A N a b) b a (A a b) = bkM A N a (b + 1):=by
 funext i j
 unfold upd2 bkM
 by_cases h:i = b∧j = a
 ·obtain ⟨rfl,rfl⟩:=h
  rw[if_pos ⟨rfl,rfl⟩,if_pos (.inr ⟨rfl,by omega⟩)]
 ·rw[if_neg h]
  by_cases h2:(j < a∧i < N)∨(j = a∧i < b)
  ·rw[if_pos h2,if_pos (by omega)]
  ·rw[if_neg h2,if_neg (by omega)]
theorem bkM_row (A N a):bkM A N a N = bkM A N (a + 1) 0:=by
 funext i j
 unfold bkM
 by_cases h2:(j < a∧i < N)∨(j = a∧i < N)
 ·rw[if_pos h2,if_pos (by omega)]
 ·rw[if_neg h2,if_neg (by omega)]
theorem bkM_0 (A N):bkM A N 0 0 = fun _ _ => false:=by
 funext i j
 unfold bkM
 rw[if_neg (by omega)]
theorem sp_mback (h:F 33 = some A_xref01_R_Back) (h27:F 27 = some A_xref01_New) {n:Nat} (hn:n≤40) (A:Mx):pureS F 33 [.ptr (matC n A)] = some (.ptr (matC n (bkM A n n 0))):=by
 refine pure_of_thaw h (matC_flat _ _) ?_
 simp (disch:=omega) only[A_xref01_R_Back,wp,qa,qb,qc,ml,thaw27 h27]
 refine W_loop (fun q e g => ∃ a,q = n - a∧a≤n∧e 0 = .ptr (matC n A)∧e 3 = .mp 5 0∧e 4 = .i .i64 a∧g.hp 5 = some (.cells (matC n (bkM A n a 0)) false)∧5 < g.nx) n ?_ ?_
 ·refine ⟨0,rfl,Nat.zero_le _,?_⟩
  simp (disch:=omega) only[wp,qa,qb,qc,bkM_0]
  exact ⟨rfl,by first | omega | (dsimp only;omega)⟩
 ·rintro q e g ⟨a,rfl,ha,h0,h3,h4,hg,hnx⟩
  by_cases ha':a < n
  ·have ha1:(a:Int) < n:=by omega
   have hwa:=succ_wrap (k:=a) (by omega)
   simp (disch:=omega) only[wp,qa,qb,qc,ml,h0,h3,h4,hg,ha1]
   refine W_loop (fun q e g => ∃ b,q = n - b∧b≤n∧e 0 = .ptr (matC n A)∧e 3 = .mp 5 0∧e 4 = .i .i64 a∧e 5 = .i .i64 b∧g.hp 5 = some (.cells (matC n (bkM A n a b)) false)∧5 < g.nx) n ?_ ?_
   ·refine ⟨0,rfl,Nat.zero_le _,?_⟩
    simp (disch:=omega) only[wp,qa,qb,qc,h0,h3,h4,hg]
    exact ⟨rfl,by first | omega | (dsimp only;omega)⟩
   ·rintro q e g ⟨b,rfl,hb,h0,h3,h4,h5,hg,hnx⟩
    by_cases hb':b < n
    ·have hb1:(b:Int) < n:=by omega
     have hwb:=succ_wrap (k:=b) (by omega)
     have hs:=bkM_succ A n a b
     simp (disch:=omega) only[wp,qa,qb,qc,ml,h0,h3,h4,h5,hg,hb1,hwb,hs]
     exact ⟨n - (b + 1),by omega,b + 1,rfl,by omega,rfl,rfl,by first | omega | (dsimp only;omega)⟩
    ·obtain rfl:b = n:=by omega
     have hb1:¬ ((b:Int) < b):=by omega
     rw[bkM_row] at hg
     simp (disch:=omega) only[wp,qa,qb,qc,ml,h0,h3,h4,h5,hg,hb1,hwa]
     exact ⟨b - (a + 1),by omega,a + 1,rfl,by omega,rfl,rfl,by first | omega | (dsimp only;omega)⟩
  ·obtain rfl:a = n:=by omega
   have ha1:¬ ((a:Int) < a):=by omega
   simp (disch:=omega) only[wp,qa,qb,qc,ml,h0,h3,h4,hg,ha1]
   exact ⟨5,rfl,hg⟩
def mbM (A:Mx) (k:Nat):Mx:=fun i j => A i j || decide (i < k∧i = j)
theorem mbM_succ (A k):upd2 (mbM A k) k k true = mbM A (k + 1):=by
 funext i j
 unfold upd2 mbM
 by_cases h:i = k∧j = k
 ·obtain ⟨rfl,rfl⟩:=h;rw[if_pos ⟨rfl,rfl⟩];simp
 ·rw[if_neg h]
  congr 1
  rw[decide_eq_decide];omega
theorem mbM_0 (A):mbM A 0 = A:=by funext i j;simp[mbM]
theorem sp_mmaybe (h:F 35 = some A_xref01_R_Maybe) (h27:F 27 = some A_xref01_New) {n:Nat} (hn:n≤40) (A:Mx):pureS F 35 [.ptr (matC n A)] = some (.ptr (matC n (mbM A n))):=by
 refine pure_of_thaw h (matC_flat _ _) ?_
 simp (disch:=omega) only[A_xref01_R_Maybe,wp,qa,qb,qc,ml,thaw27 h27]
 refine W_loop (fun q e g => ∃ a,q = n - a∧a≤n∧e 3 = .mp 5 0∧e 4 = .i .i64 a∧g.hp 5 = some (.cells (matC n (mbM A a)) false)∧5 < g.nx) n ?_ ?_
 ·refine ⟨0,rfl,Nat.zero_le _,?_⟩
  simp (disch:=omega) only[wp,qa,qb,qc,mbM_0]
  exact ⟨rfl,by first | omega | (dsimp only;omega)⟩
 ·rintro q e g ⟨a,rfl,ha,h3,h4,hg,hnx⟩
  by_cases ha':a < n
  ·have ha1:(a:Int) < n:=by omega
   have hwa:=succ_wrap (k:=a) (by omega)
   have hs:=mbM_succ A a
   simp (disch:=omega) only[wp,qa,qb,qc,ml,h3,h4,hg,ha1,hwa,hs]
   exact ⟨n - (a + 1),by omega,a + 1,rfl,by omega,rfl,rfl,by first | omega | (dsimp only;omega)⟩
  ·obtain rfl:a = n:=by omega
   have ha1:¬ ((a:Int) < a):=by omega
   simp (disch:=omega) only[wp,qa,qb,qc,ml,h3,h4,hg,ha1]
   exact ⟨5,rfl,hg⟩
end Go.Ab
end
section
set_option linter.unusedVariables false
set_option linter.unusedSimpArgs false
namespace Go.Ab
variable {F:Funs}
def p1M (k a c:Nat) (T:Mx):Mx:=fun i j => if i = a∧j < c then T i j || T k j else T i j
def p2M (N k:Nat) (T:Mx) (a:Nat):Mx:=if T a k then p1M k a N T else T
def p3M (N k m:Nat) (T:Mx):Mx:=(List.range m).foldl (p2M N k) T
def plM (N:Nat) (A:Mx) (m:Nat):Mx:=(List.range m).foldl (fun T k => p3M N k N T) A
theorem p3M_succ (N k m T):p3M N k (m + 1) T = p2M N k (p3M N k m T) m:=by simp[p3M,List.range_succ]
theorem plM_succ (N A m):plM N A (m + 1) = p3M N m N (plM N A m):=by simp[plM,List.range_succ]
theorem p1M_succ (k a c T):upd2 (p1M k a c T) a c (T a c || T k c) = p1M k a (c + 1) T:=by
 funext i j
 unfold upd2 p1M
 by_cases h:i = a∧j = c
 ·obtain ⟨rfl,rfl⟩:=h;rw[if_pos ⟨rfl,rfl⟩,if_pos ⟨rfl,by omega⟩]
 ·rw[if_neg h]
  by_cases h2:i = a∧j < c
  ·rw[if_pos h2,if_pos (by omega)]
  ·rw[if_neg h2,if_neg (by omega)]
theorem p1M_at (k a c T):p1M k a c T a c = T a c:=by unfold p1M;rw[if_neg (by omega)]
theorem p1M_k (k a c T):p1M k a c T k c = T k c:=by unfold p1M;rw[if_neg (by omega)]
theorem p1M_cond {k a c T} (h:T a k = true):p1M k a c T a k = true:=by unfold p1M;split<;>simp[h]
theorem p1M_0 (k a T):p1M k a 0 T = T:=by funext i j;unfold p1M;rw[if_neg (by omega)]
theorem sp_mplus (h:F 34 = some A_xref01_R_Plus) (h27:F 27 = some A_xref01_New) {N:Nat} (hN:N≤40) (A:Mx):pureS F 34 [.ptr (matC N A)] = some (.ptr (matC N (plM N A N))):=by
 refine pure_of_thaw h (matC_flat _ _) ?_
 simp (disch:=omega) only[A_xref01_R_Plus,wp,qa,qb,qc,ml,thaw27 h27]
 refine W_loop (fun q e g => ∃ k,q = N - k∧k≤N∧e 3 = .mp 5 0∧e 4 = .i .i64 k∧g.hp 5 = some (.cells (matC N (plM N A k)) false)∧5 < g.nx) N ?_ ?_
 ·refine ⟨0,rfl,Nat.zero_le _,?_⟩
  simp (disch:=omega) only[wp,qa,qb,qc]
  exact ⟨rfl,rfl,by first | omega | (dsimp only;omega)⟩
 ·rintro q e g ⟨k,rfl,hk,h3,h4,hg,hnx⟩
  by_cases hk':k < N
  ·have hk1:(k:Int) < N:=by omega
   have hwk:=succ_wrap (k:=k) (by omega)
   simp (disch:=omega) only[wp,qa,qb,qc,ml,h3,h4,hg,hk1]
   refine W_loop (fun q e g => ∃ a,q = N - a∧a≤N∧e 3 = .mp 5 0∧e 4 = .i .i64 k∧e 5 = .i .i64 a∧g.hp 5 = some (.cells (matC N (p3M N k a (plM N A k))) false)∧5 < g.nx) N ?_ ?_
   ·refine ⟨0,rfl,Nat.zero_le _,?_⟩
    simp (disch:=omega) only[wp,qa,qb,qc,h3,h4,hg]
    exact ⟨rfl,rfl,by first | omega | (dsimp only;omega)⟩
   ·rintro q e g ⟨a,rfl,ha,h3,h4,h5,hg,hnx⟩
    by_cases ha':a < N
    ·have ha1:(a:Int) < N:=by omega
     have hwa:=succ_wrap (k:=a) (by omega)
     have hs:=p3M_succ N k a (plM N A k)
     generalize p3M N k a (plM N A k) = T at hg hs
     cases hA:T a k with
     | true =>
       rw[p2M,if_pos hA] at hs
       simp (disch:=omega) only[wp,qa,qb,qc,ml,h3,h4,h5,hg,ha1]
       refine W_loop (fun q e g => ∃ c,q = N - c∧c≤N∧e 3 = .mp 5 0∧e 4 = .i .i64 k∧e 5 = .i .i64 a∧e 6 = .i .i64 c∧g.hp 5 = some (.cells (matC N (p1M k a c T)) false)∧5 < g.nx) N ?_ ?_
       ·refine ⟨0,rfl,Nat.zero_le _,?_⟩
        simp (disch:=omega) only[wp,qa,qb,qc,h3,h4,h5,hg,p1M_0]
        exact ⟨rfl,by first | omega | (dsimp only;omega)⟩
       ·rintro q e g ⟨c,rfl,hc,h3,h4,h5,h6,hg,hnx⟩
        by_cases hc':c < N
        ·have hc1:(c:Int) < N:=by omega
         have hwc:=succ_wrap (k:=c) (by omega)
         have hs1:=p1M_succ k a c T
         have hat:=p1M_at k a c T
         have hkc:=p1M_k k a c T
         have hco:=p1M_cond (c:=c) hA
         generalize p1M k a c T = M at hg hs1 hat hkc hco
         cases hT:T a c with
         | true =>
           rw[hT] at hat hs1
           simp only[Bool.true_or] at hs1
           simp (disch:=omega) only[wp,qa,qb,qc,ml,h3,h4,h5,h6,hg,hc1,hco,hat,hwc,hs1]
           exact ⟨N - (c + 1),by omega,c + 1,rfl,by omega,rfl,rfl,by first | omega | (dsimp only;omega)⟩
         | false =>
           rw[hT] at hat hs1
           simp only[Bool.false_or] at hs1
           simp (disch:=omega) only[wp,qa,qb,qc,ml,h3,h4,h5,h6,hg,hc1,hco,hat,hkc,hwc,hs1]
           exact ⟨N - (c + 1),by omega,c + 1,rfl,by omega,rfl,rfl,by first | omega | (dsimp only;omega)⟩
        ·obtain rfl:c = N:=by omega
         have hc1:¬ ((c:Int) < c):=by omega
         rw[←hs] at hg
         simp (disch:=omega) only[wp,qa,qb,qc,ml,h3,h4,h5,h6,hg,hc1,hwa]
         exact ⟨c - (a + 1),by omega,a + 1,rfl,by omega,rfl,rfl,by first | omega | (dsimp only;omega)⟩
     | false =>
       rw[p2M,if_neg (by rw[hA];simp)] at hs
       have h0N:(0:Int) < N:=by omega
       simp (disch:=omega) only[wp,qa,qb,qc,ml,h3,h4,h5,hg,ha1]
       refine W_loop (fun q e g => e 3 = .mp 5 0∧e 4 = .i .i64 k∧e 5 = .i .i64 a∧e 6 = .i .i64 0∧g.hp 5 = some (.cells (matC N T) false)∧5 < g.nx) 0 ?_ ?_
       ·simp (disch:=omega) only[wp,qa,qb,qc,h3,h4,h5,hg]
        first | omega | (dsimp only;omega)
       ·rintro q e g ⟨h3,h4,h5,h6,hg,hnx⟩
        simp (disch:=omega) only[wp,qa,qb,qc,ml,h3,h4,h5,h6,hg,h0N,hA,hwa]
        exact ⟨N - (a + 1),by omega,a + 1,rfl,by omega,rfl,by rw[hs],by first | omega | (dsimp only;omega)⟩
    ·obtain rfl:a = N:=by omega
     have ha1:¬ ((a:Int) < a):=by omega
     rw[←plM_succ] at hg
     simp (disch:=omega) only[wp,qa,qb,qc,ml,h3,h4,h5,hg,ha1,hwk]
     exact ⟨a - (k + 1),by omega,k + 1,rfl,by omega,rfl,rfl,by first | omega | (dsimp only;omega)⟩
  ·obtain rfl:k = N:=by omega
   have hk1:¬ ((k:Int) < k):=by omega
   simp (disch:=omega) only[wp,qa,qb,qc,ml,h3,h4,hg,hk1]
   exact ⟨5,rfl,hg⟩
theorem sp_mpairs (h:F 56 = some A_xref01_R_Pairs) {n:Nat} (hn:n≤40) (M:Mx) (R:Rw) (hM:∀ a b:Nat,a < n→b < n→M a b = has n R a b):pureS F 56 [.ptr (matC n M)] = some (.sl (pairsC (pairsR n R)) (pairsR n R).length .non):=by
 refine pure_of h ?_
 simp (disch:=omega) only[A_xref01_R_Pairs,wp,qa,qb,qc,ml]
 refine W_loop (fun m e g => ∃ k t,m = n - k∧k≤n∧e 0 = .ptr (matC n M)∧e 4 = .i .i64 k∧e 3 = .sl (pairsC (pairsK n k R)) (pairsK n k R).length t∧Live g 2 t∧(pairsK n k R).length≤40 * k) n ?_ ?_
 ·refine ⟨0,.rig,rfl,Nat.zero_le _,?_⟩
  simp (disch:=omega) only[wp,qa,qb,qc]
  exact ⟨rfl,rfl,.inl rfl,Nat.zero_le _⟩
 ·rintro m e g ⟨k,t,rfl,hk,h0,h4,h3,ht,hl⟩
  by_cases hk':k < n
  ·have hk1:(k:Int) < n:=by omega
   have hw:=succ_wrap (k:=k) (by omega)
   simp (disch:=omega) only[wp,qa,qb,qc,ml,h0,h4,h3,hk1]
   refine W_loop (fun m e g => ∃ j t,m = n - j∧j≤n∧e 0 = .ptr (matC n M)∧e 4 = .i .i64 k∧e 5 = .i .i64 j∧e 3 = .sl (pairsC (partL n k j R)) (partL n k j R).length t∧Live g 2 t∧(partL n k j R).length≤40 * k + j) n ?_ ?_
   ·refine ⟨0,t,rfl,Nat.zero_le _,?_⟩
    simp (disch:=omega) only[wp,qa,qb,qc,h0,h4,h3]
    rw[partL_0]
    refine ⟨rfl,rfl,?_,by omega⟩
    rcases ht with rfl | ⟨τ,rfl,hτ,hlt⟩
    ·exact .inl rfl
    ·exact .inr ⟨τ,rfl,hτ,Nat.lt_of_lt_of_le hlt (by dsimp only;omega)⟩
   ·rintro m e g ⟨j,t,rfl,hj,h0,h4,h5,h3,ht,hl⟩
    have hLn:=partL_succ n k j R
    by_cases hj':j < n
    ·have hj1:(j:Int) < n:=by omega
     have hwj:=succ_wrap (k:=j) (by omega)
     have hMh:=hM k j hk' hj'
     by_cases hh:has n R k j = true
     ·rw[if_pos hh] at hLn
      rw[hh] at hMh
      rcases ht with rfl | ⟨τ,rfl,hτ,hlt⟩
      ·simp (disch:=omega) only[wp,qa,qb,qc,ml,h0,h4,h5,h3,hj1,hMh,hwj,pairsC_len]
       refine ⟨n - (j + 1),?_,j + 1,?_⟩
       ·omega
       ·rw[hLn,pairsC_app,pairsC_one,List.length_append]
        exact ⟨_,rfl,by omega,rfl,rfl,.inr ⟨_,rfl,upd_same _ _ _,by dsimp only;omega⟩,by simp;omega⟩
      ·simp (disch:=omega) only[wp,qa,qb,qc,ml,h0,h4,h5,h3,hj1,hMh,hwj,pairsC_len,hτ]
       refine ⟨n - (j + 1),?_,j + 1,?_⟩
       ·omega
       ·rw[hLn,pairsC_app,pairsC_one,List.length_append]
        exact ⟨_,rfl,by omega,rfl,rfl,.inr ⟨_,rfl,upd_same _ _ _,by dsimp only;omega⟩,by simp;omega⟩
     ·rw[if_neg hh] at hLn
      rw[Bool.not_eq_true] at hh
      rw[hh] at hMh
      simp (disch:=omega) only[wp,qa,qb,qc,ml,h0,h4,h5,h3,hj1,hMh,hwj]
      refine ⟨_,?_,j + 1,t,rfl,by omega,rfl,?_⟩
      ·omega
      ·rw[hLn]
       refine ⟨rfl,?_,by omega⟩
       rcases ht with rfl | ⟨τ,rfl,hτ,hlt⟩
       ·exact .inl rfl
       ·exact .inr ⟨τ,rfl,hτ,Nat.lt_of_lt_of_le hlt (by dsimp only;omega)⟩
    ·obtain rfl:j = n:=by omega
     have hj1:¬ ((j:Int) < j):=by omega
     simp (disch:=omega) only[wp,qa,qb,qc,ml,h0,h4,h5,h3,hj1,hw]
     refine ⟨_,?_,k + 1,t,rfl,by omega,rfl,?_⟩
     ·omega
     ·rw[←partL_n]
      refine ⟨rfl,?_,by omega⟩
      rcases ht with rfl | ⟨τ,rfl,hτ,hlt⟩
      ·exact .inl rfl
      ·exact .inr ⟨τ,rfl,hτ,Nat.lt_of_lt_of_le hlt (by dsimp only;omega)⟩
  ·obtain rfl:k = n:=by omega
   have hk1:¬ ((k:Int) < k):=by omega
   simp (disch:=omega) only[wp,qa,qb,qc,ml,h0,h4,h3,hk1]
   rfl
theorem sp_mloops (h:F 37 = some A_xref01_R_Loops) (h34:F 34 = some A_xref01_R_Plus) (h27:F 27 = some A_xref01_New) {n:Nat} (hn:n≤40) (M:Mx):pureS F 37 [.ptr (matC n M)] = some (.b ((List.range n).any fun a => plM n M n a a)):=by
 refine pure_of h ?_
 simp (disch:=omega) only[A_xref01_R_Loops,wp,qa,qb,qc,ml,sp_mplus h34 h27 hn]
 generalize plM n M n = T
 refine W_loop (fun m e g => ∃ k,m = n - k∧k≤n∧e 3 = .ptr (matC n T)∧e 4 = .i .i64 k∧∀ a,a < k→T a a = false) n ?_ ?_
 ·refine ⟨0,rfl,Nat.zero_le _,?_⟩
  simp (disch:=omega) only[wp,qa,qb,qc]
  exact ⟨rfl,fun a ha => absurd ha (Nat.not_lt_zero _)⟩
 ·rintro m e g ⟨k,rfl,hk,h3,h4,hall⟩
  by_cases hk':k < n
  ·have hk1:(k:Int) < n:=by omega
   have hw:=succ_wrap (k:=k) (by omega)
   cases hh:T k k with
   | true =>
     simp (disch:=omega) only[wp,qa,qb,qc,ml,h3,h4,hk1,hw,hh]
     have:(List.range n).any (fun a => T a a) = true:=List.any_eq_true.2 ⟨k,List.mem_range.2 hk',hh⟩
     rw[this]
   | false =>
     simp (disch:=omega) only[wp,qa,qb,qc,ml,h3,h4,hk1,hw,hh]
     refine ⟨n - (k + 1),by omega,k + 1,rfl,by omega,rfl,fun a ha => ?_⟩
     by_cases hak:a = k
     ·subst hak;exact hh
     ·exact hall a (by omega)
  ·obtain rfl:k = n:=by omega
   have hk1:¬ ((k:Int) < k):=by omega
   simp (disch:=omega) only[wp,qa,qb,qc,ml,h3,h4,hk1]
   have:(List.range k).any (fun a => T a a) = false:=List.any_eq_false.2 fun a ha => by rw[hall a (List.mem_range.1 ha)];simp
   rw[this]
end Go.Ab
end
section
set_option linter.unusedVariables false
set_option linter.unusedSimpArgs false
namespace Go.Ab
variable {F:Funs}
def Eqv (A:Mx) (R:Rw):Prop:=∀ a b,A a b = hb R a b
theorem upd2_get (M:Mx) (a b:Nat) (x:Bool) (i j:Nat):upd2 M a b x i j = if i = a∧j = b then x else M i j:=rfl
theorem eqv_new {n:Nat} (hn:n≤40) (l:List (Int × Int)):Eqv (newM n l) (newR n l):=by
 have key:∀ (l:List (Int × Int)) (M:Mx) (R:Rw),Eqv M R→Eqv (l.foldl (addM n) M) (l.foldl (addR n) R):=by
  intro l
  induction l with
  | nil => intro M R h;exact h
  | cons p l ih =>
    intro M R h
    refine ih _ _ fun a b => ?_
    rw[hb_add hn]
    unfold addM
    by_cases hi:inR n p = true
    ·rw[if_pos hi,upd2_get,hi]
     have hi':=hi
     simp only[inR,decide_eq_true_eq] at hi'
     by_cases h2:a = p.1.toNat∧b = p.2.toNat
     ·rw[if_pos h2]
      have:p = ((a:Int),(b:Int)):=by
       obtain ⟨x,y⟩:=p
       simp only at h2 hi'
       simp only[Prod.mk.injEq];omega
      simp[this]
     ·rw[if_neg h2,h a b]
      have:¬ p = ((a:Int),(b:Int)):=by
       rintro rfl
       exact h2 ⟨by simp,by simp⟩
      simp[this]
    ·rw[if_neg hi,h a b]
     simp only[Bool.not_eq_true] at hi
     simp[hi]
 exact key l _ _ fun a b => by rw[hb_zero]
def Same (n:Nat) (M:Mx) (R:Rw):Prop:=∀ a b:Nat,a < n→b < n→M a b = has n R a b
theorem same_of {n:Nat} {M:Mx} {R:Rw} (h:∀ a b,a < n→b < n→M a b = hb R a b):Same n M R:=fun a b ha hb' => by
 rw[h a b ha hb',has_N]
 simp[hN,ha,hb']
theorem opM_get (φ:Bool→Bool→Bool) (A B:Mx) (N a b:Nat) (ha:a < N) (hb':b < N):opM φ A B N a b = φ (A a b) (B a b):=by
 unfold opM stM;rw[if_pos (.inl ⟨ha,hb'⟩)]
theorem mback_get (A:Mx) (N a b:Nat) (ha:a < N) (hb':b < N):bkM A N N 0 a b = A b a:=by
 unfold bkM;rw[if_pos (.inl ⟨hb',ha⟩)]
theorem t3M_get (A B:Mx) (N a k:Nat) (T:Mx) (i j:Nat) (hj:j < N):t3M A B N a k T i j = (T i j || (decide (i = a) && (List.range k).any fun c => A a c && B c j)):=by
 induction k with
 | zero => simp[t3M]
 | succ k ih =>
   rw[t3M_succ,t2M,List.range_succ,List.any_append]
   cases hA:A a k with
   | true =>
     rw[if_pos rfl]
     unfold t1M
     by_cases hi:i = a
     ·subst hi
      rw[if_pos ⟨rfl,hj⟩,ih]
      simp[hA,Bool.or_assoc]
     ·rw[if_neg (fun h => hi h.1),ih]
      simp[hi]
   | false =>
     rw[if_neg (by simp),ih]
     simp[hA]
theorem thM_get (A B:Mx) (N k:Nat) (i j:Nat) (hj:j < N):thM A B N k i j = (decide (i < k) && (List.range N).any fun c => A i c && B c j):=by
 induction k with
 | zero => simp[thM]
 | succ k ih =>
   rw[thM_succ,t3M_get _ _ _ _ _ _ _ _ hj,ih]
   by_cases hi:i = k
   ·subst hi;simp
   ·have:decide (i < k) = decide (i < k + 1):=by rw[decide_eq_decide];omega
    rw[this];simp[hi]
theorem p3M_get (N k m:Nat) (T:Mx) (i j:Nat) (hj:j < N) (hk:k < N):p3M N k m T i j = (T i j || (decide (i < m) && T i k && T k j)):=by
 have key:∀ m i j,p3M N k m T i j = (T i j || (decide (i < m) && decide (j < N) && T i k && T k j)):=by
  intro m
  induction m with
  | zero => intro i j;simp[p3M]
  | succ m ih =>
    intro i j
    rw[p3M_succ,p2M]
    have hmk:p3M N k m T m k = T m k:=by rw[ih];simp
    have hkj:∀ j,p3M N k m T k j = T k j:=fun j => by
     rw[ih]
     cases T k j<;>simp
    rw[hmk]
    cases hc:T m k with
    | true =>
      rw[if_pos rfl]
      unfold p1M
      by_cases hi:i = m
      ·subst hi
       by_cases hjN:j < N
       ·rw[if_pos ⟨rfl,hjN⟩,ih,hkj]
        simp[hjN,hc]
       ·rw[if_neg (by omega),ih]
        simp[hjN]
      ·rw[if_neg (fun h => hi h.1),ih]
       have:decide (i < m) = decide (i < m + 1):=by rw[decide_eq_decide];omega
       rw[this]
    | false =>
      rw[if_neg (by simp),ih]
      by_cases hi:i = m
      ·subst hi;simp[hc]
      ·have:decide (i < m) = decide (i < m + 1):=by rw[decide_eq_decide];omega
       rw[this]
 rw[key];simp[hj]
theorem plM_get {N:Nat} {A:Mx} {R:Rw} (h:Eqv A R) (hR:Wf N R):∀ k,k≤N→∀ i j,i < N→j < N→plM N A k i j = hb (plusK N k R) i j
 | 0,_,i,j,_,_ => h i j
 | k + 1,hk,i,j,hi,hj => by
   have ih:=plM_get h hR k (by omega)
   rw[plM_succ,p3M_get _ _ _ _ _ _ hj (by omega),plusK_succ,hb_rowP (by omega) _ (wf_plusK hR k (by omega)) N (Nat.le_refl _),ih i j hi hj,ih i k hi (by omega),ih k j (by omega) hj]
theorem Wf.mono {n m:Nat} (h:n≤m) {R:Rw} (hR:Wf n R):Wf m R:=fun a b hh => by obtain ⟨h1,h2⟩:=hR a b hh;omega
end Go.Ab
end
section
set_option linter.unusedVariables false
set_option linter.unusedSimpArgs false
namespace Go.Ab
variable {F:Funs}
def EqN (n:Nat) (A:Mx) (R:Rw):Prop:=Wf n R∧∀ a b,a < n→b < n→A a b = hb R a b
theorem EqN.same {n A R} (h:EqN n A R):Same n A R:=same_of h.2
theorem EqN.new {n:Nat} (hn:n≤40) (l:List (Int × Int)):EqN n (newM n l) (newR n l):=⟨wf_new hn _,fun a b _ _ => eqv_new hn l a b⟩
section
variable {n:Nat} {A B:Mx} {R S:Rw}
theorem EqN.or (h:EqN n A R) (k:EqN n B S):EqN n (opM (fun x y => x || y) A B n) (orR R S):=
 ⟨wf_or h.1 k.1,fun a b ha hb' => by rw[opM_get _ _ _ _ _ _ ha hb',h.2 a b ha hb',k.2 a b ha hb',hb_or]⟩
theorem EqN.and (h:EqN n A R) (k:EqN n B S):EqN n (opM (fun x y => x && y) A B n) (andR R S):=
 ⟨wf_and h.1,fun a b ha hb' => by rw[opM_get _ _ _ _ _ _ ha hb',h.2 a b ha hb',k.2 a b ha hb',hb_and]⟩
theorem EqN.then (h:EqN n A R) (k:EqN n B S):EqN n (thM A B n n) (thenR n R S):=
 ⟨wf_then h.1 k.1,fun a b ha hb' => by
  rw[thM_get _ _ _ _ _ _ hb',Bool.eq_iff_iff,hb_then h.1,decide_eq_true ha,Bool.true_and,List.any_eq_true]
  constructor
  ·rintro ⟨c,hc,hh⟩
   rw[h.2 a c ha (List.mem_range.1 hc),k.2 c b (List.mem_range.1 hc) hb',Bool.and_eq_true] at hh
   exact ⟨c,hh.1,hh.2⟩
  ·rintro ⟨c,h1,h2⟩
   have hc:=(h.1 a c h1).2
   exact ⟨c,List.mem_range.2 hc,by rw[h.2 a c ha hc,k.2 c b hc hb',h1,h2];rfl⟩⟩
theorem plM_getN {N:Nat} {A:Mx} {R:Rw} (h:EqN N A R):∀ k,k≤N→∀ i j,i < N→j < N→plM N A k i j = hb (plusK N k R) i j
 | 0,_,i,j,hi,hj => h.2 i j hi hj
 | k + 1,hk,i,j,hi,hj => by
   have ih:=plM_getN h k (by omega)
   rw[plM_succ,p3M_get _ _ _ _ _ _ hj (by omega),plusK_succ,hb_rowP (by omega) _ (wf_plusK h.1 k (by omega)) N (Nat.le_refl _),ih i j hi hj,ih i k hi (by omega),ih k j (by omega) hj]
theorem EqN.plus (h:EqN n A R):EqN n (plM n A n) (plusR n R):=⟨wf_plus h.1,fun a b ha hb' => plM_getN h n (Nat.le_refl _) a b ha hb'⟩
theorem EqN.maybe (hn:n≤40) (h:EqN n A R):EqN n (mbM A n) (maybeK n R):=
 ⟨wf_maybe hn h.1,fun a b ha hb' => by
  rw[hb_maybeK _ _ _ _ (by omega),←h.2 a b ha hb']
  unfold mbM
  congr 1
  rw[Bool.eq_iff_iff]
  simp only[Bool.and_eq_true,decide_eq_true_eq]
  omega⟩
theorem EqN.back (hn:n≤40) (h:EqN n A R):EqN n (bkM A n n 0) (backR n R):=
 ⟨wf_back hn,fun a b ha hb' => by
  rw[mback_get _ _ _ _ ha hb',hb_back hn,hN_wf h.1,h.2 b a hb' ha]⟩
end
end Go.Ab
end
section
set_option linter.unusedVariables false
set_option linter.unusedSimpArgs false
namespace Go.Ab
variable {F:Funs}
def anyM (L:List (Int × Int)):Mx:=fun a b => L.any fun q => decide (q = ((a:Int),(b:Int)))
theorem anyM_add (L:List (Int × Int)) {a b:Int} (h0:0≤a) (h1:0≤b):upd2 (anyM L) a.toNat b.toNat true = anyM (L ++ [(a,b)]):=by
 funext i j
 unfold upd2 anyM
 rw[List.any_append]
 by_cases h:i = a.toNat∧j = b.toNat
 ·rw[if_pos h]
  have:decide ((a,b) = ((i:Int),(j:Int))) = true:=by rw[decide_eq_true_eq,Prod.mk.injEq];omega
  simp only[List.any_cons,List.any_nil,this,Bool.true_or,Bool.or_true]
 ·rw[if_neg h]
  have:decide ((a,b) = ((i:Int),(j:Int))) = false:=by rw[decide_eq_false_iff_not,Prod.mk.injEq];omega
  simp only[List.any_cons,List.any_nil,this,Bool.or_false]
theorem anyM_mem {L:List (Int × Int)} {a b:Nat}:anyM L a b = true↔((a:Int),(b:Int))∈L:=by
 unfold anyM
 rw[List.any_eq_true]
 constructor
 ·rintro ⟨q,hq,h⟩;rw[decide_eq_true_eq] at h;rw[←h];exact hq
 ·intro h;exact ⟨_,h,by simp⟩
def rfL (X:Gr) (k:Nat):List (Int × Int):=(List.range k).flatMap fun (i:Nat) => if 0≤X.rf.getD i 0 then [(X.rf.getD i 0,(i:Int))] else []
theorem rfL_succ (X k):rfL X (k + 1) = rfL X k ++ (if 0≤X.rf.getD k 0 then [(X.rf.getD k 0,(k:Int))] else []):=by simp[rfL,List.range_succ]
theorem sp_mRf (h69:F 69 = some A_xref09_Rf) (h27:F 27 = some A_xref01_New) {X:Gr} (hn:X.evs.length≤40) (hr:X.rf.length≤40) (hw:∀ i,i < X.rf.length→X.rf.getD i 0 < 40):pureS F 69 [.agg (grC X)] = some (.ptr (matC X.evs.length (anyM (rfL X X.rf.length)))):=by
 refine pure_of_thaw h69 (matC_flat _ _) ?_
 simp (disch:=omega) only[A_xref09_Rf,wp,qa,qb,qc,gl,ml,thaw27 h27]
 refine W_loop (fun q e g => ∃ k:Nat,q = X.rf.length - k∧k≤X.rf.length∧e 1 = .mp 0 0∧e 3 = .mp 5 0∧e 4 = .i .i64 k∧g.hp 0 = some (.cells (grC X) false)∧g.hp 5 = some (.cells (matC X.evs.length (anyM (rfL X k))) false)∧5 < g.nx) X.rf.length ?_ ?_
 ·refine ⟨0,rfl,Nat.zero_le _,?_⟩
  simp (disch:=omega) only[wp,qa,qb,qc]
  exact ⟨rfl,rfl,by first | omega | (dsimp only;omega)⟩
 ·rintro q e g ⟨k,rfl,hk,e1,e3,e4,hg,hm,hnx⟩
  by_cases hk':k < X.rf.length
  ·have hk1:(k:Int) < X.rf.length:=by omega
   have hk40:(k:Int) < 40:=by omega
   have hwk:=succ_wrap (k:=k) (by omega)
   have hp:=ints_part hk'
   have hs:=rfL_succ X k
   have hwb:=hw k hk'
   generalize X.rf.getD k 0 = w at hp hs hwb
   generalize rfL X k = L at hm hs
   by_cases c1:0≤w
   case neg =>
    rw[if_neg c1,List.append_nil] at hs
    simp (disch:=omega) only[wp,qa,qb,qc,gl,ml,e1,e3,e4,hg,hm,hk1,hp,c1,hwk]
    exact ⟨X.rf.length - (k + 1),by omega,k + 1,rfl,by omega,rfl,by rw[hs],by first | omega | (dsimp only;omega)⟩
   rw[if_pos c1] at hs
   have hadd:=anyM_add L c1 (b:=(k:Int)) (by omega)
   rw[Int.toNat_natCast] at hadd
   have hset:=matC_set (n:=X.evs.length) (M:=anyM L) (a:=w.toNat) (b:=k) (x:=true) (by omega)
   rw[hadd,←hs] at hset
   simp (disch:=omega) only[wp,qa,qb,qc,gl,ml,e1,e3,e4,hg,hm,hk1,hp,c1,hwk,hset]
   exact ⟨X.rf.length - (k + 1),by omega,k + 1,rfl,by omega,rfl,rfl,by first | omega | (dsimp only;omega)⟩
  ·obtain rfl:k = X.rf.length:=by omega
   have hk1:¬ ((X.rf.length:Int) < X.rf.length):=by omega
   simp (disch:=omega) only[wp,qa,qb,qc,gl,ml,e1,e3,e4,hg,hm,hk1]
   exact ⟨_,rfl,hm⟩
def coI (c:List Int) (i k:Nat):List (Int × Int):=(List.range k).flatMap fun m => if i < m then [(c.getD i 0,c.getD m 0)] else []
theorem coI_succ {c:List Int} {i k:Nat} (h:i < k):coI c i (k + 1) = coI c i k ++ [(c.getD i 0,c.getD k 0)]:=by simp[coI,List.range_succ,h]
theorem coI_0 (c:List Int) (i:Nat):coI c i (i + 1) = []:=by
 unfold coI
 rw[List.flatMap_eq_nil_iff]
 intro m hm
 rw[if_neg (by have:=List.mem_range.1 hm;omega)]
def coJ (c:List Int) (i:Nat):List (Int × Int):=(List.range i).flatMap fun j => coI c j c.length
theorem coJ_succ (c i):coJ c (i + 1) = coJ c i ++ coI c i c.length:=by simp[coJ,List.range_succ]
def coX (X:Gr) (l:Nat):List (Int × Int):=(List.range l).flatMap fun j => coJ (X.co.getD j []) (X.co.getD j []).length
theorem coX_succ (X l):coX X (l + 1) = coX X l ++ coJ (X.co.getD l []) (X.co.getD l []).length:=by simp[coX,List.range_succ]
theorem sp_mCo (h70:F 70 = some A_xref09_Co) (h27:F 27 = some A_xref01_New) {X:Gr} (hn:X.evs.length≤40) (hl:X.co.length≤1000) (hc:∀ j,j < X.co.length→(X.co.getD j []).length≤1000∧∀ i,i < (X.co.getD j []).length→0≤(X.co.getD j []).getD i 0∧(X.co.getD j []).getD i 0 < 40):pureS F 70 [.agg (grC X)] = some (.ptr (matC X.evs.length (anyM (coX X X.co.length)))):=by
 refine pure_of_thaw h70 (matC_flat _ _) ?_
 simp (disch:=omega) only[A_xref09_Co,wp,qa,qb,qc,gl,ml,thaw27 h27]
 refine W_loop (fun q e g => ∃ j:Nat,q = X.co.length - j∧j≤X.co.length∧e 1 = .mp 0 0∧e 3 = .mp 5 0∧e 4 = .i .i64 j∧g.hp 0 = some (.cells (grC X) false)∧g.hp 5 = some (.cells (matC X.evs.length (anyM (coX X j))) false)∧5 < g.nx) X.co.length ?_ ?_
 ·refine ⟨0,rfl,Nat.zero_le _,?_⟩
  simp (disch:=omega) only[wp,qa,qb,qc]
  exact ⟨rfl,rfl,by first | omega | (dsimp only;omega)⟩
 ·rintro q e g ⟨j,rfl,hj,e1,e3,e4,hg,hm,hnx⟩
  by_cases hj':j < X.co.length
  ·have hj1:(j:Int) < X.co.length:=by omega
   have hwj:=succ_wrap (k:=j) (by omega)
   have hp:=co_part hj'
   have hs:=coX_succ X j
   obtain ⟨hcl,hcr⟩:=hc j hj'
   generalize X.co.getD j [] = c at hp hs hcl hcr
   generalize coX X j = L at hm hs
   simp (disch:=omega) only[wp,qa,qb,qc,gl,ml,e1,e3,e4,hg,hm,hj1]
   refine W_loop (fun q e g => ∃ i:Nat,q = c.length - i∧i≤c.length∧e 1 = .mp 0 0∧e 3 = .mp 5 0∧e 4 = .i .i64 j∧e 5 = .i .i64 i∧g.hp 0 = some (.cells (grC X) false)∧g.hp 5 = some (.cells (matC X.evs.length (anyM (L ++ coJ c i))) false)∧5 < g.nx) c.length ?_ ?_
   ·refine ⟨0,rfl,Nat.zero_le _,?_⟩
    simp (disch:=omega) only[wp,qa,qb,qc,e1,e3,e4]
    exact ⟨rfl,hg,by rw[hm];simp[coJ],by first | omega | (dsimp only;omega)⟩
   ·rintro q e g ⟨i,rfl,hi,e1,e3,e4,e5,hg,hm,hnx⟩
    by_cases hi':i < c.length
    ·have hi1:(i:Int) < c.length:=by omega
     have hwi:=succ_wrap (k:=i) (by omega)
     have hip:=ints_part hi'
     have hsJ:=coJ_succ c i
     have ⟨ha0,ha1⟩:=hcr i hi'
     generalize hLJ:L ++ coJ c i = LJ at hm
     have hsJ':L ++ coJ c (i + 1) = LJ ++ coI c i c.length:=by rw[hsJ,←List.append_assoc,hLJ]
     simp (disch:=omega) only[wp,qa,qb,qc,gl,ml,e1,e3,e4,e5,hg,hm,hj1,hp,hi1,hwi]
     refine W_loop (fun q e g => ∃ k:Nat,q = c.length - k∧i < k∧k≤c.length∧e 1 = .mp 0 0∧e 3 = .mp 5 0∧e 4 = .i .i64 j∧e 5 = .i .i64 i∧e 6 = .i .i64 k∧g.hp 0 = some (.cells (grC X) false)∧g.hp 5 = some (.cells (matC X.evs.length (anyM (LJ ++ coI c i k))) false)∧5 < g.nx) (c.length - (i + 1)) ?_ ?_
     ·refine ⟨i + 1,rfl,by omega,by omega,?_⟩
      simp (disch:=omega) only[wp,qa,qb,qc,e1,e3,e4,e5,coI_0,List.append_nil]
      exact ⟨hg,hm,by first | omega | (dsimp only;omega)⟩
     ·rintro q e g ⟨k,rfl,hik,hk,e1,e3,e4,e5,e6,hg,hm,hnx⟩
      by_cases hk':k < c.length
      ·have hk1:(k:Int) < c.length:=by omega
       have hwk:=succ_wrap (k:=k) (by omega)
       have hkp:=ints_part hk'
       have hsI:=coI_succ (c:=c) hik
       have ⟨hb0,hb1⟩:=hcr k hk'
       generalize hLI:LJ ++ coI c i k = LI at hm
       have hsI':LJ ++ coI c i (k + 1) = LI ++ [(c.getD i 0,c.getD k 0)]:=by rw[hsI,←List.append_assoc,hLI]
       generalize c.getD i 0 = va at hip ha0 ha1 hsI'
       generalize c.getD k 0 = vb at hkp hb0 hb1 hsI'
       have hadd:=anyM_add LI ha0 hb0
       have hset:=matC_set (n:=X.evs.length) (M:=anyM LI) (a:=va.toNat) (b:=vb.toNat) (x:=true) (by omega)
       rw[hadd,←hsI'] at hset
       simp (disch:=omega) only[wp,qa,qb,qc,gl,ml,e1,e3,e4,e5,e6,hg,hm,hj1,hp,hi1,hk1,hip,hkp,hwk,hset]
       exact ⟨c.length - (k + 1),by omega,k + 1,rfl,by omega,by omega,rfl,rfl,by first | omega | (dsimp only;omega)⟩
      ·obtain rfl:k = c.length:=by omega
       have hk1:¬ ((c.length:Int) < c.length):=by omega
       simp (disch:=omega) only[wp,qa,qb,qc,gl,ml,e1,e3,e4,e5,e6,hg,hm,hj1,hp,hk1,hwi]
       exact ⟨c.length - (i + 1),by omega,i + 1,rfl,by omega,rfl,by rw[hsJ'],by first | omega | (dsimp only;omega)⟩
    ·obtain rfl:i = c.length:=by omega
     have hi1:¬ ((c.length:Int) < c.length):=by omega
     simp (disch:=omega) only[wp,qa,qb,qc,gl,ml,e1,e3,e4,e5,hg,hm,hj1,hp,hi1,hwj]
     exact ⟨X.co.length - (j + 1),by omega,j + 1,rfl,by omega,rfl,by rw[hs],by first | omega | (dsimp only;omega)⟩
  ·obtain rfl:j = X.co.length:=by omega
   have hj1:¬ ((X.co.length:Int) < X.co.length):=by omega
   simp (disch:=omega) only[wp,qa,qb,qc,gl,ml,e1,e3,e4,hg,hm,hj1]
   exact ⟨_,rfl,hm⟩
end Go.Ab
end
section
set_option linter.unusedVariables false
set_option linter.unusedSimpArgs false
namespace Go.Ab
variable {F:Funs}
def frM (n:Nat) (A C:Mx):Mx:=thM (bkM A n n 0) C n n
def comM (n:Nat) (A C:Mx):Mx:=opM (fun x y => x || y) (opM (fun x y => x || y) A C n) (frM n A C) n
theorem sp_mFr (h71:F 71 = some A_xref09_Fr) (h27:F 27 = some A_xref01_New) (h32:F 32 = some A_xref01_R_Then) (h33:F 33 = some A_xref01_R_Back) {X:Gr} {n:Nat} (hn:n≤40) {A C:Mx} (hA:pureS F 69 [.agg (grC X)] = some (.ptr (matC n A))) (hC:pureS F 70 [.agg (grC X)] = some (.ptr (matC n C))):pureS F 71 [.agg (grC X)] = some (.ptr (matC n (frM n A C))):=by
 refine pure_of h71 ?_
 simp (disch:=omega) only[A_xref09_Fr,wp,qa,qb,qc,gl,hA,hC,sp_mback h33 h27 hn,sp_mthen h32 h27 hn hn,Nat.max_self]
 rfl
theorem sp_mCom (h83:F 83 = some A_xref09_Com) (h27:F 27 = some A_xref01_New) (h29:F 29 = some A_xref01_R_Or) {X:Gr} {n:Nat} (hn:n≤40) {A C:Mx} (hA:pureS F 69 [.agg (grC X)] = some (.ptr (matC n A))) (hC:pureS F 70 [.agg (grC X)] = some (.ptr (matC n C))) (hF:pureS F 71 [.agg (grC X)] = some (.ptr (matC n (frM n A C)))):pureS F 83 [.agg (grC X)] = some (.ptr (matC n (comM n A C))):=by
 refine pure_of h83 ?_
 simp (disch:=omega) only[A_xref09_Com,wp,qa,qb,qc,gl,hA,hC,hF,sp_mor h29 h27 hn hn,Nat.max_self]
 rfl
theorem sp_mEco (h72:F 72 = some A_xref09_Eco) (h27:F 27 = some A_xref01_New) (h34:F 34 = some A_xref01_R_Plus) {X:Gr} {n:Nat} (hn:n≤40) {M:Mx} (hM:pureS F 83 [.agg (grC X)] = some (.ptr (matC n M))):pureS F 72 [.agg (grC X)] = some (.ptr (matC n (plM n M n))):=by
 refine pure_of h72 ?_
 simp (disch:=omega) only[A_xref09_Eco,wp,qa,qb,qc,gl,hM,sp_mplus h34 h27 hn]
def stU (φ:Nat→Nat→Bool) (n a b:Nat):Mx:=fun i j => if (i < a∧i < j∧j < n)∨(i = a∧i < j∧j < b) then φ i j else false
theorem stU_succ {φ:Nat→Nat→Bool} {n a b:Nat} (h:a < b):upd2 (stU φ n a b) a b (φ a b) = stU φ n a (b + 1):=by
 funext i j
 unfold upd2 stU
 by_cases h1:i = a∧j = b
 ·obtain ⟨rfl,rfl⟩:=h1
  rw[if_pos ⟨rfl,rfl⟩,if_pos (by omega)]
 ·rw[if_neg h1]
  by_cases h2:(i < a∧i < j∧j < n)∨(i = a∧i < j∧j < b)
  ·rw[if_pos h2,if_pos (by omega)]
  ·rw[if_neg h2,if_neg (by omega)]
theorem stU_row (φ:Nat→Nat→Bool) (n a:Nat):stU φ n a n = stU φ n (a + 1) (a + 1 + 1):=by
 funext i j
 unfold stU
 by_cases h2:(i < a∧i < j∧j < n)∨(i = a∧i < j∧j < n)
 ·rw[if_pos h2,if_pos (by omega)]
 ·rw[if_neg h2,if_neg (by omega)]
theorem stU_0 (φ:Nat→Nat→Bool) (n:Nat):stU φ n 0 (0 + 1) = fun _ _ => false:=by
 funext i j;unfold stU;rw[if_neg (by omega)]
def thI (X:Gr) (i:Nat):Int:=(X.evs.getD i ev0).th
def poV (X:Gr) (i j:Nat):Bool:=(thI X i == 0 && decide (0 < thI X j)) || (decide (0 < thI X i) && thI X i == thI X j)
theorem po_W (h27:F 27 = some A_xref01_New) {X:Gr} (hn:X.evs.length≤40):W F A_xref06_Po.body (argEnv [.agg (grC X)]) g0 (retT A_xref06_Po.res (matC X.evs.length (stU (poV X) X.evs.length X.evs.length (X.evs.length + 1)))):=by
 simp (disch:=omega) only[A_xref06_Po,wp,qa,qb,qc,gl,ml,thaw27 h27]
 refine W_loop (fun q e g => ∃ a:Nat,q = X.evs.length - a∧a≤X.evs.length∧e 1 = .mp 0 0∧e 3 = .mp 5 0∧e 4 = .i .i64 a∧g.hp 0 = some (.cells (grC X) false)∧g.hp 5 = some (.cells (matC X.evs.length (stU (poV X) X.evs.length a (a + 1))) false)∧5 < g.nx) X.evs.length ?_ ?_
 ·refine ⟨0,rfl,Nat.zero_le _,?_⟩
  simp (disch:=omega) only[wp,qa,qb,qc]
  exact ⟨rfl,by rw[stU_0],by first | omega | (dsimp only;omega)⟩
 ·rintro q e g ⟨a,rfl,ha,e1,e3,e4,hg,hm,hnx⟩
  by_cases ha':a < X.evs.length
  ·have ha1:(a:Int) < X.evs.length:=by omega
   have hwa:=succ_wrap (k:=a) (by omega)
   simp (disch:=omega) only[wp,qa,qb,qc,gl,ml,e1,e3,e4,hg,hm,ha1,hwa]
   refine W_loop (fun q e g => ∃ b:Nat,q = X.evs.length - b∧a < b∧b≤X.evs.length∧e 1 = .mp 0 0∧e 3 = .mp 5 0∧e 4 = .i .i64 a∧e 5 = .i .i64 b∧g.hp 0 = some (.cells (grC X) false)∧g.hp 5 = some (.cells (matC X.evs.length (stU (poV X) X.evs.length a b)) false)∧5 < g.nx) (X.evs.length - (a + 1)) ?_ ?_
   ·refine ⟨a + 1,rfl,by omega,by omega,?_⟩
    simp (disch:=omega) only[wp,qa,qb,qc,e1,e3,e4]
    exact ⟨hg,hm,by first | omega | (dsimp only;omega)⟩
   ·rintro q e g ⟨b,rfl,hab,hb,e1,e3,e4,e5,hg,hm,hnx⟩
    by_cases hb':b < X.evs.length
    ·have hb1:(b:Int) < X.evs.length:=by omega
     have hwb:=succ_wrap (k:=b) (by omega)
     have tA:=ev_th_at ha'
     have tB:=ev_th_at hb'
     have dA:(List.drop (a * 6) (evsC X.evs)).length = X.evs.length * 6 - a * 6:=by rw[List.length_drop,evsC_len]
     have dB:(List.drop (b * 6) (evsC X.evs)).length = X.evs.length * 6 - b * 6:=by rw[List.length_drop,evsC_len]
     have hv:poV X a b = ((thI X a == 0 && decide (0 < thI X b)) || (decide (0 < thI X a) && thI X a == thI X b)):=rfl
     have hs:=stU_succ (φ:=poV X) (n:=X.evs.length) hab
     have hset:=fun x => matC_set (n:=X.evs.length) (M:=stU (poV X) X.evs.length a b) (a:=a) (b:=b) (x:=x) (by omega)
     unfold thI at hv
     generalize (X.evs.getD a ev0).th = ta at tA hv
     generalize (X.evs.getD b ev0).th = tb at tB hv
     generalize poV X a b = v at hs hv
     have fin:∀ x,x = v→X.evs.length - (b + 1) < X.evs.length - b∧upd2 (stU (poV X) X.evs.length a b) a b x = stU (poV X) X.evs.length a (b + 1):=fun x hx => ⟨by omega,by rw[hx,hs]⟩
     cases c1:(ta == 0)
     case true =>
      by_cases c2:0 < tb
      case pos =>
       simp (disch:=omega) only[wp,qa,qb,qc,gl,ml,e1,e3,e4,e5,hg,hm,hb1,tA,tB,dA,dB,c1,c2,hset,hwb]
       obtain ⟨f1,f2⟩:=fin true (by rw[hv,c1,decide_eq_true c2];rfl)
       exact ⟨_,f1,b + 1,rfl,by omega,by omega,rfl,by rw[f2],by first | omega | (dsimp only;omega)⟩
      have c3:¬ 0 < ta:=by have:ta = 0:=by simpa using c1
                           omega
      simp (disch:=omega) only[wp,qa,qb,qc,gl,ml,e1,e3,e4,e5,hg,hm,hb1,tA,tB,dA,dB,c1,c2,c3,hset,hwb]
      obtain ⟨f1,f2⟩:=fin false (by rw[hv,c1,decide_eq_false c2,decide_eq_false c3];rfl)
      exact ⟨_,f1,b + 1,rfl,by omega,by omega,rfl,by rw[f2],by first | omega | (dsimp only;omega)⟩
     by_cases c3:0 < ta
     case neg =>
      simp (disch:=omega) only[wp,qa,qb,qc,gl,ml,e1,e3,e4,e5,hg,hm,hb1,tA,tB,dA,dB,c1,c3,hset,hwb]
      obtain ⟨f1,f2⟩:=fin false (by rw[hv,c1,decide_eq_false c3];rfl)
      exact ⟨_,f1,b + 1,rfl,by omega,by omega,rfl,by rw[f2],by first | omega | (dsimp only;omega)⟩
     simp (disch:=omega) only[wp,qa,qb,qc,gl,ml,e1,e3,e4,e5,hg,hm,hb1,tA,tB,dA,dB,c1,c3,hset,hwb]
     obtain ⟨f1,f2⟩:=fin (ta == tb) (by rw[hv,c1,decide_eq_true c3];simp)
     exact ⟨_,f1,b + 1,rfl,by omega,by omega,rfl,by rw[f2],by first | omega | (dsimp only;omega)⟩
    ·obtain rfl:b = X.evs.length:=by omega
     have hb1:¬ ((X.evs.length:Int) < X.evs.length):=by omega
     simp (disch:=omega) only[wp,qa,qb,qc,gl,ml,e1,e3,e4,e5,hg,hm,hb1,hwa]
     exact ⟨X.evs.length - (a + 1),by omega,a + 1,rfl,by omega,rfl,by rw[stU_row],by first | omega | (dsimp only;omega)⟩
  ·obtain rfl:a = X.evs.length:=by omega
   have ha1:¬ ((X.evs.length:Int) < X.evs.length):=by omega
   simp (disch:=omega) only[wp,qa,qb,qc,gl,ml,e1,e3,e4,hg,hm,ha1]
   exact ⟨_,rfl,hm⟩
def mpoM (X:Gr):Mx:=stU (poV X) X.evs.length X.evs.length (X.evs.length + 1)
theorem sp_mPo (h84:F 84 = some A_xref06_Po) (h27:F 27 = some A_xref01_New) {X:Gr} (hn:X.evs.length≤40):pureS F 84 [.agg (grC X)] = some (.ptr (matC X.evs.length (mpoM X))):=pure_of_thaw h84 (matC_flat _ _) (po_W h27 hn)
theorem thaw84 (h84:F 84 = some A_xref06_Po) (h27:F 27 = some A_xref01_New) {X:Gr} (hn:X.evs.length≤40) (al:Nat→Bool) (id:Nat) (g:G):vThaw F al id (.fn 84 [] []) [.agg (grC X)] g = some (.mp id 0,⟨upd g.hp id (some (.cells (matC X.evs.length (mpoM X)) false)),g.nx⟩):=
 vThaw_S (bs:=[.agg (grC X)]) (by simp only[frzL_cons,frz_gr,frzL_nil,consO_ok]) (thaw_of h84 (matC_flat _ _) (po_W h27 hn)) (by simp only[List.flatMap_cons,List.flatMap_nil,vis_gr,List.append_nil])
end Go.Ab
end
section
set_option linter.unusedVariables false
set_option linter.unusedSimpArgs false
namespace Go.Ab
variable {F:Funs}
def stK (M:Mx) (φ:Nat→Nat→Bool) (n a b:Nat):Mx:=fun i j => if (i < a∧j < n)∨(i = a∧j < b) then M i j && φ i j else M i j
theorem stK_succ (M φ n a b):upd2 (stK M φ n a b) a b (M a b && φ a b) = stK M φ n a (b + 1):=by
 funext i j
 unfold upd2 stK
 by_cases h1:i = a∧j = b
 ·obtain ⟨rfl,rfl⟩:=h1
  rw[if_pos ⟨rfl,rfl⟩,if_pos (by omega)]
 ·rw[if_neg h1]
  by_cases h2:(i < a∧j < n)∨(i = a∧j < b)
  ·rw[if_pos h2,if_pos (by omega)]
  ·rw[if_neg h2,if_neg (by omega)]
theorem stK_row (M φ n a):stK M φ n a n = stK M φ n (a + 1) 0:=by
 funext i j
 unfold stK
 by_cases h2:(i < a∧j < n)∨(i = a∧j < n)
 ·rw[if_pos h2,if_pos (by omega)]
 ·rw[if_neg h2,if_neg (by omega)]
theorem stK_0 (M φ n):stK M φ n 0 0 = M:=by funext i j;unfold stK;rw[if_neg (by omega)]
theorem stK_at (M φ n a b):stK M φ n a b a b = M a b:=by unfold stK;rw[if_neg (by omega)]
def locV (X:Gr) (i j:Nat):Bool:=(X.evs.getD i ev0).kd != 3 && ((X.evs.getD j ev0).kd != 3 && (X.evs.getD i ev0).lc == (X.evs.getD j ev0).lc)
def locM (X:Gr):Mx:=stK (mpoM X) (locV X) X.evs.length X.evs.length 0
theorem sp_mLoc (h73:F 73 = some A_xref09_Loc) (h84:F 84 = some A_xref06_Po) (h27:F 27 = some A_xref01_New) {X:Gr} (hn:X.evs.length≤40):pureS F 73 [.agg (grC X)] = some (.ptr (matC X.evs.length (locM X))):=by
 refine pure_of_thaw h73 (matC_flat _ _) ?_
 have s6:∀ b1 b2 b3 b4 b5 b6 c1 c2 c3 c4 c5 c6:AV,splice [b1,b2,b3,b4,b5,b6] 0 [c1,c2,c3,c4,c5,c6] = [c1,c2,c3,c4,c5,c6]:=fun _ _ _ _ _ _ _ _ _ _ _ _ => rfl
 simp (disch:=omega) only[A_xref09_Loc,wp,qa,qb,qc,gl,ml,thaw84 h84 h27 hn]
 generalize hM0:mpoM X = M0
 have hloc:locM X = stK M0 (locV X) X.evs.length X.evs.length 0:=by unfold locM;rw[hM0]
 refine W_loop (fun q e g => ∃ a:Nat,q = X.evs.length - a∧a≤X.evs.length∧e 1 = .mp 0 0∧e 3 = .mp 3 0∧e 4 = .i .i64 a∧g.hp 0 = some (.cells (grC X) false)∧g.hp 3 = some (.cells (matC X.evs.length (stK M0 (locV X) X.evs.length a 0)) false)∧3 < g.nx) X.evs.length ?_ ?_
 ·refine ⟨0,rfl,Nat.zero_le _,?_⟩
  simp (disch:=omega) only[wp,qa,qb,qc]
  exact ⟨rfl,by rw[stK_0],by first | omega | (dsimp only;omega)⟩
 ·rintro q e g ⟨a,rfl,ha,e1,e3,e4,hg,hm,hnx⟩
  by_cases ha':a < X.evs.length
  ·have ha1:(a:Int) < X.evs.length:=by omega
   have hwa:=succ_wrap (k:=a) (by omega)
   simp (disch:=omega) only[wp,qa,qb,qc,gl,ml,e1,e3,e4,hg,hm,ha1]
   refine W_loop (fun q e g => ∃ b:Nat,q = X.evs.length - b∧b≤X.evs.length∧e 1 = .mp 0 0∧e 3 = .mp 3 0∧e 4 = .i .i64 a∧e 5 = .i .i64 b∧g.hp 0 = some (.cells (grC X) false)∧g.hp 3 = some (.cells (matC X.evs.length (stK M0 (locV X) X.evs.length a b)) false)∧3 < g.nx) X.evs.length ?_ ?_
   ·refine ⟨0,rfl,Nat.zero_le _,?_⟩
    simp (disch:=omega) only[wp,qa,qb,qc,e1,e3,e4]
    exact ⟨rfl,hg,hm,by first | omega | (dsimp only;omega)⟩
   ·rintro q e g ⟨b,rfl,hb,e1,e3,e4,e5,hg,hm,hnx⟩
    by_cases hb':b < X.evs.length
    ·have hb1:(b:Int) < X.evs.length:=by omega
     have hwb:=succ_wrap (k:=b) (by omega)
     have pa:=ev_part ha'
     have pb:=ev_part hb'
     have hv:locV X a b = ((X.evs.getD a ev0).kd != 3 && ((X.evs.getD b ev0).kd != 3 && (X.evs.getD a ev0).lc == (X.evs.getD b ev0).lc)):=rfl
     have hs:=stK_succ M0 (locV X) X.evs.length a b
     have hat:=stK_at M0 (locV X) X.evs.length a b
     have hset:=fun x => matC_set (n:=X.evs.length) (M:=stK M0 (locV X) X.evs.length a b) (a:=a) (b:=b) (x:=x) (by omega)
     generalize X.evs.getD a ev0 = u at pa hv
     generalize X.evs.getD b ev0 = v at pb hv
     obtain ⟨th,kd,md,lc,vl,ex⟩:=u
     obtain ⟨th',kd',md',lc',vl',ex'⟩:=v
     simp only at hv
     generalize locV X a b = z at hs hv
     have fin:∀ x,x = (M0 a b && z)→X.evs.length - (b + 1) < X.evs.length - b∧upd2 (stK M0 (locV X) X.evs.length a b) a b x = stK M0 (locV X) X.evs.length a (b + 1):=fun x hx => ⟨by omega,by rw[hx,hs]⟩
     cases c0:M0 a b
     case false =>
      rw[c0] at hat
      simp (disch:=omega) only[wp,qa,qb,qc,gl,ml,e1,e3,e4,e5,hg,hm,ha1,hb1,pa,pb,s6,hat,c0,hset,hwb]
      obtain ⟨f1,f2⟩:=fin false (by rw[c0];rfl)
      exact ⟨_,f1,b + 1,rfl,by omega,rfl,by rw[f2],by first | omega | (dsimp only;omega)⟩
     rw[c0] at hat
     cases c1:(kd != 3)
     case false =>
      simp (disch:=omega) only[wp,qa,qb,qc,gl,ml,e1,e3,e4,e5,hg,hm,ha1,hb1,pa,pb,s6,hat,c0,c1,hset,hwb]
      obtain ⟨f1,f2⟩:=fin false (by rw[c0,hv,c1];rfl)
      exact ⟨_,f1,b + 1,rfl,by omega,rfl,by rw[f2],by first | omega | (dsimp only;omega)⟩
     cases c2:(kd' != 3)
     case false =>
      simp (disch:=omega) only[wp,qa,qb,qc,gl,ml,e1,e3,e4,e5,hg,hm,ha1,hb1,pa,pb,s6,hat,c0,c1,c2,hset,hwb]
      obtain ⟨f1,f2⟩:=fin false (by rw[c0,hv,c1,c2];rfl)
      exact ⟨_,f1,b + 1,rfl,by omega,rfl,by rw[f2],by first | omega | (dsimp only;omega)⟩
     simp (disch:=omega) only[wp,qa,qb,qc,gl,ml,e1,e3,e4,e5,hg,hm,ha1,hb1,pa,pb,s6,hat,c0,c1,c2,hset,hwb]
     obtain ⟨f1,f2⟩:=fin (lc == lc') (by rw[c0,hv,c1,c2];simp)
     exact ⟨_,f1,b + 1,rfl,by omega,rfl,by rw[f2],by first | omega | (dsimp only;omega)⟩
    ·obtain rfl:b = X.evs.length:=by omega
     have hb1:¬ ((X.evs.length:Int) < X.evs.length):=by omega
     simp (disch:=omega) only[wp,qa,qb,qc,gl,ml,e1,e3,e4,e5,hg,hm,hb1,hwa]
     exact ⟨X.evs.length - (a + 1),by omega,a + 1,rfl,by omega,rfl,by rw[stK_row],by first | omega | (dsimp only;omega)⟩
  ·obtain rfl:a = X.evs.length:=by omega
   have ha1:¬ ((X.evs.length:Int) < X.evs.length):=by omega
   simp (disch:=omega) only[wp,qa,qb,qc,gl,ml,e1,e3,e4,hg,hm,ha1,hloc]
   exact ⟨_,rfl,hm⟩
def thV (X:Gr) (one:Bool):Mx:=fun i j => (thI X i == thI X j) == one
def prtM (X:Gr) (one:Bool) (A:Mx):Mx:=opM (fun x y => x && y) A (thV X one) X.evs.length
theorem sp_mpart (h85:F 85 = some A_xref09_part) (h27:F 27 = some A_xref01_New) {X:Gr} (hn:X.evs.length≤40) (A:Mx) (one:Bool):pureS F 85 [.agg (grC X),.ptr (matC X.evs.length A),.b one] = some (.ptr (matC X.evs.length (prtM X one A))):=by
 refine pure_of_thaw h85 (matC_flat _ _) ?_
 have fin0:prtM X one A = stM (fun x y => x && y) A (thV X one) X.evs.length X.evs.length 0:=rfl
 simp (disch:=omega) only[A_xref09_part,wp,qa,qb,qc,gl,ml,thaw27 h27]
 generalize hB:thV X one = B at fin0
 refine W_loop (fun q e g => ∃ a:Nat,q = X.evs.length - a∧a≤X.evs.length∧e 1 = .ptr (matC X.evs.length A)∧e 2 = .b one∧e 3 = .mp 0 0∧e 7 = .mp 6 0∧e 8 = .i .i64 a∧g.hp 0 = some (.cells (grC X) false)∧g.hp 6 = some (.cells (matC X.evs.length (stM (fun x y => x && y) A B X.evs.length a 0)) false)∧6 < g.nx) X.evs.length ?_ ?_
 ·refine ⟨0,rfl,Nat.zero_le _,?_⟩
  simp (disch:=omega) only[wp,qa,qb,qc]
  exact ⟨rfl,by rw[stM_0],by first | omega | (dsimp only;omega)⟩
 ·rintro q e g ⟨a,rfl,ha,e1,e2,e3,e7,e8,hg,hm,hnx⟩
  by_cases ha':a < X.evs.length
  ·have ha1:(a:Int) < X.evs.length:=by omega
   have hwa:=succ_wrap (k:=a) (by omega)
   simp (disch:=omega) only[wp,qa,qb,qc,gl,ml,e1,e2,e3,e7,e8,hg,hm,ha1]
   refine W_loop (fun q e g => ∃ b:Nat,q = X.evs.length - b∧b≤X.evs.length∧e 1 = .ptr (matC X.evs.length A)∧e 2 = .b one∧e 3 = .mp 0 0∧e 7 = .mp 6 0∧e 8 = .i .i64 a∧e 9 = .i .i64 b∧g.hp 0 = some (.cells (grC X) false)∧g.hp 6 = some (.cells (matC X.evs.length (stM (fun x y => x && y) A B X.evs.length a b)) false)∧6 < g.nx) X.evs.length ?_ ?_
   ·refine ⟨0,rfl,Nat.zero_le _,?_⟩
    simp (disch:=omega) only[wp,qa,qb,qc,e1,e2,e3,e7,e8]
    exact ⟨rfl,hg,hm,by first | omega | (dsimp only;omega)⟩
   ·rintro q e g ⟨b,rfl,hb,e1,e2,e3,e7,e8,e9,hg,hm,hnx⟩
    by_cases hb':b < X.evs.length
    ·have hb1:(b:Int) < X.evs.length:=by omega
     have hwb:=succ_wrap (k:=b) (by omega)
     have tA:=ev_th_at ha'
     have tB:=ev_th_at hb'
     have dA:(List.drop (a * 6) (evsC X.evs)).length = X.evs.length * 6 - a * 6:=by rw[List.length_drop,evsC_len]
     have dB:(List.drop (b * 6) (evsC X.evs)).length = X.evs.length * 6 - b * 6:=by rw[List.length_drop,evsC_len]
     have hv:B a b = (((X.evs.getD a ev0).th == (X.evs.getD b ev0).th) == one):=by rw[←hB];rfl
     have hs:=stM_succ (fun x y => x && y) A B X.evs.length a b
     have hset:=fun x => matC_set (n:=X.evs.length) (M:=stM (fun x y => x && y) A B X.evs.length a b) (a:=a) (b:=b) (x:=x) (by omega)
     generalize (X.evs.getD a ev0).th = ta at tA hv
     generalize (X.evs.getD b ev0).th = tb at tB hv
     have fin:∀ x,x = (A a b && B a b)→X.evs.length - (b + 1) < X.evs.length - b∧upd2 (stM (fun x y => x && y) A B X.evs.length a b) a b x = stM (fun x y => x && y) A B X.evs.length a (b + 1):=fun x hx => ⟨by omega,by rw[hx];exact hs⟩
     cases c0:A a b
     case false =>
      simp (disch:=omega) only[wp,qa,qb,qc,gl,ml,e1,e2,e3,e7,e8,e9,hg,hm,ha1,hb1,tA,tB,dA,dB,c0,hset,hwb]
      obtain ⟨f1,f2⟩:=fin false (by rw[c0];rfl)
      exact ⟨_,f1,b + 1,rfl,by omega,rfl,by rw[f2],by first | omega | (dsimp only;omega)⟩
     simp (disch:=omega) only[wp,qa,qb,qc,gl,ml,e1,e2,e3,e7,e8,e9,hg,hm,ha1,hb1,tA,tB,dA,dB,c0,hset,hwb]
     obtain ⟨f1,f2⟩:=fin ((ta == tb) == one) (by rw[c0,hv];rfl)
     exact ⟨_,f1,b + 1,rfl,by omega,rfl,by rw[f2],by first | omega | (dsimp only;omega)⟩
    ·obtain rfl:b = X.evs.length:=by omega
     have hb1:¬ ((X.evs.length:Int) < X.evs.length):=by omega
     simp (disch:=omega) only[wp,qa,qb,qc,gl,ml,e1,e2,e3,e7,e8,e9,hg,hm,hb1,hwa]
     exact ⟨X.evs.length - (a + 1),by omega,a + 1,rfl,by omega,rfl,by rw[stM_row],by first | omega | (dsimp only;omega)⟩
  ·obtain rfl:a = X.evs.length:=by omega
   have ha1:¬ ((X.evs.length:Int) < X.evs.length):=by omega
   simp (disch:=omega) only[wp,qa,qb,qc,gl,ml,e1,e2,e3,e7,e8,hg,hm,ha1,fin0]
   exact ⟨_,rfl,hm⟩
theorem sp_mInner (h74:F 74 = some A_xref09_Inner) (h85:F 85 = some A_xref09_part) (h27:F 27 = some A_xref01_New) {X:Gr} (hn:X.evs.length≤40) (A:Mx):pureS F 74 [.agg (grC X),.ptr (matC X.evs.length A)] = some (.ptr (matC X.evs.length (prtM X true A))):=by
 refine pure_of h74 ?_
 simp (disch:=omega) only[A_xref09_Inner,wp,qa,qb,qc,gl,sp_mpart h85 h27 hn]
theorem sp_mOuter (h75:F 75 = some A_xref09_Outer) (h85:F 85 = some A_xref09_part) (h27:F 27 = some A_xref01_New) {X:Gr} (hn:X.evs.length≤40) (A:Mx):pureS F 75 [.agg (grC X),.ptr (matC X.evs.length A)] = some (.ptr (matC X.evs.length (prtM X false A))):=by
 refine pure_of h75 ?_
 simp (disch:=omega) only[A_xref09_Outer,wp,qa,qb,qc,gl,sp_mpart h85 h27 hn]
end Go.Ab
end
section
set_option linter.unusedVariables false
set_option linter.unusedSimpArgs false
namespace Go.Ab
variable {F:Funs}
theorem GraphOk.nOf {X:Gr} (h:GraphOk X):nOf X = X.evs.length:=by
 have:=h.n40
 unfold Go.Ab.nOf clamp;omega
theorem hb_newM {n:Nat} (hn:n≤40) (L:List (Int × Int)) {a b:Nat} (ha:a < n) (hb':b < n):hb (newR n L) a b = anyM L a b:=by
 rw[hb_new hn,decide_eq_true ha,decide_eq_true hb',Bool.true_and,Bool.true_and];rfl
theorem sameL {n:Nat} (hn:n≤40) {L L':List (Int × Int)} (h:∀ a b:Nat,a < n→b < n→(((a:Int),(b:Int))∈L↔((a:Int),(b:Int))∈L')) {a b:Nat} (ha:a < n) (hb':b < n):anyM L a b = hb (newR n L') a b:=by
 rw[hb_newM hn _ ha hb',Bool.eq_iff_iff,anyM_mem,anyM_mem]
 exact h a b ha hb'
theorem aft_spec (w:Int) (c:List Int):∀ k,k≤c.length→(∀ b,b∈(aft w (c.take k)).1↔∃ i m,i < m∧m < k∧c.getD i 0 = w∧c.getD m 0 = b)∧((aft w (c.take k)).2 = true↔∃ i,i < k∧c.getD i 0 = w):=by
 intro k
 induction k with
 | zero => intro _;constructor
           ·intro b;simp[aft]
           ·simp[aft]
 | succ k ih =>
   intro hk
   obtain ⟨h1,h2⟩:=ih (by omega)
   rw[aft_take (by omega)]
   unfold aftS
   constructor
   ·intro b
    simp only
    cases hm:(aft w (c.take k)).2 with
    | true =>
      obtain ⟨i0,hi0,hw⟩:=h2.1 hm
      rw[if_pos rfl,List.mem_append,h1 b,List.mem_singleton]
      constructor
      ·rintro (⟨i,m,him,hmk,ha,hb'⟩ | rfl)
       ·exact ⟨i,m,him,by omega,ha,hb'⟩
       ·exact ⟨i0,k,hi0,by omega,hw,rfl⟩
      ·rintro ⟨i,m,him,hmk,ha,hb'⟩
       by_cases hmk':m = k
       ·right;subst hmk';exact hb'.symm
       ·left;exact ⟨i,m,him,by omega,ha,hb'⟩
    | false =>
      rw[if_neg (by simp),h1 b]
      constructor
      ·rintro ⟨i,m,him,hmk,ha,hb'⟩;exact ⟨i,m,him,by omega,ha,hb'⟩
      ·rintro ⟨i,m,him,hmk,ha,hb'⟩
       by_cases hmk':m = k
       ·have:=h2.2 ⟨i,by omega,ha⟩
        rw[hm] at this;cases this
       ·exact ⟨i,m,him,by omega,ha,hb'⟩
   ·simp only[Bool.or_eq_true,beq_iff_eq,h2]
    constructor
    ·rintro (⟨i,hi,hw⟩ | hw)
     ·exact ⟨i,by omega,hw⟩
     ·exact ⟨k,by omega,hw⟩
    ·rintro ⟨i,hi,hw⟩
     by_cases hik:i = k
     ·right;subst hik;exact hw
     ·left;exact ⟨i,by omega,hw⟩
theorem mem_aft {w:Int} {c:List Int} {b:Int}:b∈(aft w c).1↔∃ i m,i < m∧m < c.length∧c.getD i 0 = w∧c.getD m 0 = b:=by
 have:=(aft_spec w c c.length (Nat.le_refl _)).1 b
 rwa [List.take_length] at this
theorem mem_beh {a w x y:Int} {co:List (List Int)}:(x,y)∈behL a w co↔x = a∧∃ j i m,j < co.length∧i < m∧m < (co.getD j []).length∧(co.getD j []).getD i 0 = w∧(co.getD j []).getD m 0 = y:=by
 unfold behL
 simp only[List.mem_flatMap,List.mem_map,Prod.mk.injEq]
 constructor
 ·rintro ⟨c,hc,z,hz,rfl,rfl⟩
  obtain ⟨j,hj,rfl⟩:=List.getElem_of_mem hc
  obtain ⟨i,m,h1,h2,h3,h4⟩:=mem_aft.1 hz
  have e:co.getD j [] = co[j]:=by rw[List.getD_eq_getElem?_getD,List.getElem?_eq_getElem hj];rfl
  exact ⟨rfl,j,i,m,hj,h1,by rw[e];exact h2,by rw[e];exact h3,by rw[e];exact h4⟩
 ·rintro ⟨rfl,j,i,m,hj,h1,h2,h3,h4⟩
  have e:co.getD j [] = co[j]:=by rw[List.getD_eq_getElem?_getD,List.getElem?_eq_getElem hj];rfl
  rw[e] at h2 h3 h4
  exact ⟨co[j],List.getElem_mem hj,y,mem_aft.2 ⟨i,m,h1,h2,h3,h4⟩,rfl,rfl⟩
theorem mem_coX {X:Gr} {x y:Int}:(x,y)∈coX X X.co.length↔∃ j i m,j < X.co.length∧i < m∧m < (X.co.getD j []).length∧(X.co.getD j []).getD i 0 = x∧(X.co.getD j []).getD m 0 = y:=by
 unfold coX coJ coI
 simp only[List.mem_flatMap,List.mem_range]
 constructor
 ·rintro ⟨j,hj,i,hi,m,hm,h⟩
  by_cases him:i < m
  ·rw[if_pos him,List.mem_singleton,Prod.mk.injEq] at h
   exact ⟨j,i,m,hj,him,hm,h.1.symm,h.2.symm⟩
  ·rw[if_neg him] at h;cases h
 ·rintro ⟨j,i,m,hj,him,hm,h1,h2⟩
  exact ⟨j,hj,i,by omega,m,hm,by rw[if_pos him,h1,h2];exact List.mem_singleton.2 rfl⟩
section
variable {X:Gr} (h:GraphOk X)
include h
theorem GraphOk.rfr (i:Nat) (hi:i < X.evs.length):(0≤X.rf.getD i 0↔(X.evs.getD i ev0).kd = 1)∧X.rf.getD i 0 < X.evs.length:=by
 obtain ⟨h1,h2⟩:=h.rf i hi
 by_cases hk:(X.evs.getD i ev0).kd = 1
 ·obtain ⟨h3,h4,_⟩:=h2 hk
  exact ⟨⟨fun _ => hk,fun _ => h3⟩,h4⟩
 ·have:=h1 hk
  exact ⟨⟨fun h => by omega,fun h => absurd h hk⟩,by omega⟩
theorem GraphOk.cor (j:Nat) (hj:j < X.co.length) (i:Nat) (hi:i < (X.co.getD j []).length):0≤(X.co.getD j []).getD i 0∧(X.co.getD j []).getD i 0 < X.evs.length∧(X.evs.getD ((X.co.getD j []).getD i 0).toNat ev0).kd = 2:=by
 obtain ⟨h1,h2,h3,_⟩:=(h.co j hj).wr i hi
 exact ⟨h1,h2,h3⟩
theorem mem_rfL {x y:Int}:(x,y)∈rfL X X.rf.length↔∃ i:Nat,i < X.evs.length∧(X.evs.getD i ev0).kd = 1∧x = X.rf.getD i 0∧y = i:=by
 have hl:=h.rfl
 unfold rfL
 simp only[List.mem_flatMap,List.mem_range]
 constructor
 ·rintro ⟨i,hi,hh⟩
  by_cases h0:0≤X.rf.getD i 0
  ·rw[if_pos h0,List.mem_singleton,Prod.mk.injEq] at hh
   exact ⟨i,by omega,(h.rfr i (by omega)).1.1 h0,hh.1,hh.2⟩
  ·rw[if_neg h0] at hh;cases hh
 ·rintro ⟨i,hi,hk,rfl,rfl⟩
  exact ⟨i,by omega,by rw[if_pos ((h.rfr i hi).1.2 hk)];exact List.mem_singleton.2 rfl⟩
theorem mem_rfE {x y:Int}:(x,y)∈pairsE rfS X X.evs.length↔∃ i:Nat,i < X.evs.length∧(X.evs.getD i ev0).kd = 1∧x = X.rf.getD i 0∧y = i:=by
 have hl:=h.rfl
 unfold pairsE rfS
 simp only[List.mem_flatMap,List.mem_range]
 constructor
 ·rintro ⟨i,hi,hh⟩
  by_cases hk:(X.evs.getD i ev0).kd = 1
  ·rw[if_pos hk,List.mem_singleton,Prod.mk.injEq] at hh
   rw[wOf,if_pos (by omega)] at hh
   exact ⟨i,hi,hk,hh.1,hh.2⟩
  ·rw[if_neg hk] at hh;cases hh
 ·rintro ⟨i,hi,hk,rfl,rfl⟩
  refine ⟨i,hi,?_⟩
  rw[if_pos hk,wOf,if_pos (by omega)];exact List.mem_singleton.2 rfl
theorem mem_coE {x y:Int}:(x,y)∈pairsE (coS X.co) X X.evs.length↔(x,y)∈coX X X.co.length:=by
 rw[mem_coX]
 unfold pairsE coS
 simp only[List.mem_flatMap,List.mem_range]
 constructor
 ·rintro ⟨i,hi,hh⟩
  by_cases hk:(X.evs.getD i ev0).kd = 2
  ·rw[if_pos hk] at hh
   obtain ⟨rfl,j,a,m,h1,h2,h3,h4,h5⟩:=mem_beh.1 hh
   exact ⟨j,a,m,h1,h2,h3,h4,h5⟩
  ·rw[if_neg hk] at hh;cases hh
 ·rintro ⟨j,a,m,h1,h2,h3,h4,h5⟩
  obtain ⟨g1,g2,g3⟩:=h.cor j h1 a (by omega)
  rw[h4] at g1 g2 g3
  refine ⟨x.toNat,by omega,?_⟩
  rw[if_pos g3]
  exact mem_beh.2 ⟨by omega,j,a,m,h1,h2,h3,by omega,h5⟩
theorem mem_frE {x y:Int}:(x,y)∈pairsE (frS X.co) X X.evs.length↔∃ w,(w,x)∈rfL X X.rf.length∧(w,y)∈coX X X.co.length:=by
 have hl:=h.rfl
 unfold pairsE frS
 simp only[List.mem_flatMap,List.mem_range,mem_rfL h]
 constructor
 ·rintro ⟨i,hi,hh⟩
  by_cases hk:(X.evs.getD i ev0).kd = 1
  ·rw[if_pos hk] at hh
   obtain ⟨rfl,j,a,m,h1,h2,h3,h4,h5⟩:=mem_beh.1 hh
   rw[wOf,if_pos (by omega)] at h4
   exact ⟨X.rf.getD i 0,⟨i,hi,hk,rfl,rfl⟩,mem_coX.2 ⟨j,a,m,h1,h2,h3,h4,h5⟩⟩
  ·rw[if_neg hk] at hh;cases hh
 ·rintro ⟨w,⟨i,hi,hk,rfl,rfl⟩,hc⟩
  obtain ⟨j,a,m,h1,h2,h3,h4,h5⟩:=mem_coX.1 hc
  refine ⟨i,hi,?_⟩
  rw[if_pos hk,wOf,if_pos (by omega)]
  exact mem_beh.2 ⟨rfl,j,a,m,h1,h2,h3,h4,h5⟩
theorem rf_get {a b:Nat} (ha:a < X.evs.length) (hb':b < X.evs.length):anyM (rfL X X.rf.length) a b = hb (relE rfS X) a b:=by
 unfold relE;rw[h.nOf]
 exact sameL h.n40 (fun a b _ _ => by rw[mem_rfL h,mem_rfE h]) ha hb'
theorem co_get {a b:Nat} (ha:a < X.evs.length) (hb':b < X.evs.length):anyM (coX X X.co.length) a b = hb (relE (coS X.co) X) a b:=by
 unfold relE;rw[h.nOf]
 exact sameL h.n40 (fun a b _ _ => (mem_coE h).symm) ha hb'
theorem fr_get {a b:Nat} (ha:a < X.evs.length) (hb':b < X.evs.length):frM X.evs.length (anyM (rfL X X.rf.length)) (anyM (coX X X.co.length)) a b = hb (relE (frS X.co) X) a b:=by
 unfold relE;rw[h.nOf,hb_newM h.n40 _ ha hb',Bool.eq_iff_iff,anyM_mem,mem_frE h]
 unfold frM
 rw[thM_get _ _ _ _ _ _ hb',decide_eq_true ha,Bool.true_and,List.any_eq_true]
 constructor
 ·rintro ⟨c,hc,hh⟩
  rw[mback_get _ _ _ _ ha (List.mem_range.1 hc),Bool.and_eq_true,anyM_mem,anyM_mem] at hh
  exact ⟨c,hh.1,hh.2⟩
 ·rintro ⟨w,h1,h2⟩
  obtain ⟨i,hi,hk,e1,e2⟩:=(mem_rfL h).1 h1
  have h3:=(h.rfr i hi).1.2 hk
  have h4:=(h.rfr i hi).2
  have hw:((w.toNat:Nat):Int) = w:=by omega
  refine ⟨w.toNat,List.mem_range.2 (by omega),?_⟩
  rw[mback_get _ _ _ _ ha (by omega),Bool.and_eq_true,anyM_mem,anyM_mem,hw]
  exact ⟨h1,h2⟩
end
end Go.Ab
end
section
set_option linter.unusedVariables false
set_option linter.unusedSimpArgs false
namespace Go.Ab
variable {F:Funs}
theorem opM_out (φ:Bool→Bool→Bool) (A B:Mx) (N a b:Nat) (h:¬ (a < N∧b < N)):opM φ A B N a b = false:=by
 unfold opM stM;rw[if_neg (by omega)]
theorem partR_get {X:Gr} {so:Ev→Ev→Bool} {n:Nat} {R:Rw} (hN:nOf X = X.evs.length) (hR:Wf n R) (hn:n = X.evs.length) {a b:Nat} (ha:a < X.evs.length) (hb':b < X.evs.length):hb (partR so X n R) a b = (hb R a b && so (X.evs.getD a ev0) (X.evs.getD b ev0)):=by
 have h40:=nOf_le X
 unfold partR
 rw[hN] at h40 ⊢
 rw[hb_newM h40 _ ha hb',Bool.eq_iff_iff,anyM_mem,List.mem_filter,Bool.and_eq_true]
 have hok:okP so X ((a:Int),(b:Int)) = so (X.evs.getD a ev0) (X.evs.getD b ev0):=by
  unfold okP
  have h1:((a:Nat):Int) < X.evs.length:=by omega
  have h2:((b:Nat):Int) < X.evs.length:=by omega
  simp only[h1,h2,decide_true,Bool.true_and,Int.toNat_natCast]
 rw[hok]
 constructor
 ·rintro ⟨hp,hs⟩
  obtain ⟨x,y,he,hh⟩:=mem_pairsR.1 hp
  injection he with e1 e2
  have e1:a = x:=by omega
  have e2:b = y:=by omega
  subst e1 e2
  rw[hN_wf hR] at hh
  exact ⟨hh,hs⟩
 ·rintro ⟨hh,hs⟩
  exact ⟨mem_pairsR.2 ⟨a,b,rfl,by rw[hN_wf hR];exact hh⟩,hs⟩
section
variable {X:Gr} (h:GraphOk X)
include h
theorem wf_E (stp):Wf X.evs.length (relE stp X):=by unfold relE;rw[h.nOf];exact wf_new h.n40 _
theorem eco_get {a b:Nat} (ha:a < X.evs.length) (hb':b < X.evs.length):plM X.evs.length (comM X.evs.length (anyM (rfL X X.rf.length)) (anyM (coX X X.co.length))) X.evs.length a b = hb (ecoR X) a b:=by
 have w:Wf X.evs.length (orR (orR (relE rfS X) (relE (coS X.co) X)) (relE (frS X.co) X)):=wf_or (wf_or (wf_E h _) (wf_E h _)) (wf_E h _)
 have e:Eqv (comM X.evs.length (anyM (rfL X X.rf.length)) (anyM (coX X X.co.length))) (orR (orR (relE rfS X) (relE (coS X.co) X)) (relE (frS X.co) X)):=by
  intro a b
  by_cases hab:a < X.evs.length∧b < X.evs.length
  ·unfold comM
   rw[opM_get _ _ _ _ _ _ hab.1 hab.2,opM_get _ _ _ _ _ _ hab.1 hab.2,hb_or,hb_or,rf_get h hab.1 hab.2,co_get h hab.1 hab.2,fr_get h hab.1 hab.2]
  ·unfold comM
   rw[opM_out _ _ _ _ _ _ hab]
   symm
   rw[Bool.eq_false_iff]
   intro hh
   exact hab (w a b hh)
 unfold ecoR
 rw[h.nOf]
 exact plM_get e w _ (Nat.le_refl _) a b ha hb'
theorem th_ge (i:Nat) (hi:i < X.evs.length):(((i:Int) < X.locs)→thI X i = 0)∧(¬ ((i:Int) < X.locs)→1≤thI X i):=by
 obtain ⟨h1,h2⟩:=h.ev i hi
 exact ⟨fun hl => (h1 hl).1,fun hl => (h2 hl).1⟩
theorem po_get {a b:Nat} (ha:a < X.evs.length) (hb':b < X.evs.length):mpoM X a b = hb (poR X) a b:=by
 unfold poR;rw[h.nOf,hb_newM h.n40 _ ha hb',Bool.eq_iff_iff,anyM_mem]
 have ga:=th_ge h a ha
 have gb:=th_ge h b hb'
 have hmem:((a:Int),(b:Int))∈poK X X.evs.length↔poB a b (X.evs.getD a ev0) (X.evs.getD b ev0) = true:=by
  simp only[poK,poRow,List.mem_flatMap,List.mem_map,List.mem_filter,List.mem_range]
  constructor
  ·rintro ⟨x,hx,y,⟨hy,hp⟩,he⟩
   injection he with e1 e2
   have e1:x = a:=by omega
   have e2:y = b:=by omega
   subst e1 e2
   exact hp
  ·intro hp;exact ⟨a,ha,b,⟨hb',hp⟩,rfl⟩
 rw[hmem]
 unfold mpoM stU poV poB
 unfold thI at *
 generalize (X.evs.getD a ev0).th = ta at *
 generalize (X.evs.getD b ev0).th = tb at *
 by_cases hab:a < b
 ·rw[if_pos (.inl ⟨ha,hab,hb'⟩)]
  simp only[Bool.or_eq_true,Bool.and_eq_true,beq_iff_eq,decide_eq_true_eq,bne_iff_ne,ne_eq]
  by_cases l1:(a:Int) < X.locs<;>by_cases l2:(b:Int) < X.locs
  ·have:=ga.1 l1;have:=gb.1 l2;omega
  ·have:=ga.1 l1;have:=gb.2 l2;omega
  ·omega
  ·have:=ga.2 l1;have:=gb.2 l2;omega
 ·rw[if_neg (by omega)]
  simp only[Bool.or_eq_true,Bool.and_eq_true,beq_iff_eq,decide_eq_true_eq,bne_iff_ne,ne_eq]
  by_cases l1:(a:Int) < X.locs<;>by_cases l2:(b:Int) < X.locs
  ·have:=ga.1 l1;have:=gb.1 l2;simp;omega
  ·omega
  ·have:=ga.2 l1;have:=gb.1 l2;simp;omega
  ·have:=ga.2 l1;have:=gb.2 l2;simp;omega
theorem wf_po:Wf X.evs.length (poR X):=by unfold poR;rw[h.nOf];exact wf_new h.n40 _
theorem loc_get {a b:Nat} (ha:a < X.evs.length) (hb':b < X.evs.length):locM X a b = hb (partR locP X X.evs.length (poR X)) a b:=by
 rw[partR_get h.nOf (wf_po h) rfl ha hb',←po_get h ha hb']
 unfold locM stK
 rw[if_pos (.inl ⟨ha,hb'⟩)]
 congr 1
 unfold locV locP
 rw[Bool.and_assoc]
end
end Go.Ab
end
section
set_option linter.unusedVariables false
set_option linter.unusedSimpArgs false
namespace Go.Ab
variable {F:Funs}
def setL (X:Gr) (p:Ev→Bool) (k:Nat):List (Int × Int):=(List.range k).flatMap fun (i:Nat) => if p (X.evs.getD i ev0) then [((i:Int),(i:Int))] else []
theorem setL_succ (X p k):setL X p (k + 1) = setL X p k ++ (if p (X.evs.getD k ev0) then [((k:Int),(k:Int))] else []):=by simp[setL,List.range_succ]
theorem setL_len (X p k):(setL X p k).length≤k:=by
 induction k with
 | zero => simp[setL]
 | succ k ih => rw[setL_succ,List.length_append];split<;>simp<;>omega
theorem mem_setL {X:Gr} {p:Ev→Bool} {k a b:Nat}:((a:Int),(b:Int))∈setL X p k↔a = b∧a < k∧p (X.evs.getD a ev0) = true:=by
 unfold setL
 simp only[List.mem_flatMap,List.mem_range]
 constructor
 ·rintro ⟨i,hi,h⟩
  by_cases hp:p (X.evs.getD i ev0) = true
  ·rw[if_pos hp,List.mem_singleton,Prod.mk.injEq] at h
   have e1:a = i:=by omega
   have e2:b = i:=by omega
   subst e1 e2
   exact ⟨rfl,hi,hp⟩
  ·rw[if_neg hp] at h;cases h
 ·rintro ⟨rfl,hk,hp⟩
  exact ⟨a,hk,by rw[if_pos hp];exact List.mem_singleton.2 rfl⟩
def setR (X:Gr) (p:Ev→Bool):Rw:=newR (nOf X) (setL X p X.evs.length)
def kindK (X:Gr) (q:Ev→Bool) (k:Nat):Mx:=fun a b => decide (a = b) && (decide (a < k) && q (X.evs.getD a ev0))
theorem kindK_succ (X q k):upd2 (kindK X q k) k k (q (X.evs.getD k ev0)) = kindK X q (k + 1):=by
 funext i j
 unfold upd2 kindK
 by_cases h:i = k∧j = k
 ·obtain ⟨rfl,rfl⟩:=h
  rw[if_pos ⟨rfl,rfl⟩];simp
 ·rw[if_neg h]
  by_cases hij:i = j
  ·have:decide (i < k) = decide (i < k + 1):=by rw[decide_eq_decide];omega
   rw[this]
  ·rw[decide_eq_false hij];rfl
theorem kindK_0 (X q):kindK X q 0 = fun _ _ => false:=by funext i j;simp[kindK]
section
variable {X:Gr} (h:GraphOk X)
include h
theorem EqN.set {p q:Ev→Bool} (hq:∀ i,i < X.evs.length→p (X.evs.getD i ev0) = q (X.evs.getD i ev0)):EqN X.evs.length (kindK X q X.evs.length) (setR X p):=by
 unfold setR
 rw[h.nOf]
 refine ⟨wf_new h.n40 _,fun a b ha hb' => ?_⟩
 rw[hb_newM h.n40 _ ha hb',Bool.eq_iff_iff,anyM_mem,mem_setL]
 unfold kindK
 simp only[Bool.and_eq_true,decide_eq_true_eq,hq a ha]
theorem ev_kinds (i:Nat) (hi:i < X.evs.length):((X.evs.getD i ev0).kd = 1∧((X.evs.getD i ev0).md = 0∨(X.evs.getD i ev0).md = 1))∨((X.evs.getD i ev0).kd = 2∧((X.evs.getD i ev0).md = 0∨(X.evs.getD i ev0).md = 2))∨((X.evs.getD i ev0).kd = 3∧1≤(X.evs.getD i ev0).md∧(X.evs.getD i ev0).md≤4):=by
 obtain ⟨h1,h2⟩:=h.ev i hi
 by_cases hl:(i:Int) < X.locs
 ·obtain ⟨_,h3,h4,_⟩:=h1 hl
  exact .inr (.inl ⟨h3,.inl h4⟩)
 ·obtain ⟨_,_,_,h3⟩:=h2 hl
  rcases h3 with ⟨h4,_,_,h5⟩ | ⟨h4,_,_,h5⟩ | ⟨h4,h5,h6,_⟩
  ·exact .inl ⟨h4,h5⟩
  ·exact .inr (.inl ⟨h4,h5⟩)
  ·exact .inr (.inr ⟨h4,h5,h6⟩)
theorem eq_rf:EqN X.evs.length (anyM (rfL X X.rf.length)) (relE rfS X):=⟨wf_E h _,fun _ _ ha hb' => rf_get h ha hb'⟩
theorem eq_co:EqN X.evs.length (anyM (coX X X.co.length)) (relE (coS X.co) X):=⟨wf_E h _,fun _ _ ha hb' => co_get h ha hb'⟩
theorem eq_fr:EqN X.evs.length (frM X.evs.length (anyM (rfL X X.rf.length)) (anyM (coX X X.co.length))) (relE (frS X.co) X):=⟨wf_E h _,fun _ _ ha hb' => fr_get h ha hb'⟩
theorem eq_po:EqN X.evs.length (mpoM X) (poR X):=⟨wf_po h,fun _ _ ha hb' => po_get h ha hb'⟩
theorem eq_eco:EqN X.evs.length (plM X.evs.length (comM X.evs.length (anyM (rfL X X.rf.length)) (anyM (coX X X.co.length))) X.evs.length) (ecoR X):=
 ⟨by unfold ecoR;rw[h.nOf];exact wf_plus (wf_or (wf_or (wf_E h _) (wf_E h _)) (wf_E h _)),fun _ _ ha hb' => eco_get h ha hb'⟩
theorem wf_part (so:Ev→Ev→Bool) (n:Nat) (R:Rw):Wf X.evs.length (partR so X n R):=by unfold partR;rw[h.nOf];exact wf_new h.n40 _
theorem eq_loc:EqN X.evs.length (locM X) (partR locP X X.evs.length (poR X)):=⟨wf_part h _ _ _,fun _ _ ha hb' => loc_get h ha hb'⟩
theorem eq_inner {A:Mx} {R:Rw} (k:EqN X.evs.length A R):EqN X.evs.length (prtM X true A) (partR inner X X.evs.length R):=
 ⟨wf_part h _ _ _,fun a b ha hb' => by
  rw[partR_get h.nOf k.1 rfl ha hb']
  unfold prtM
  rw[opM_get _ _ _ _ _ _ ha hb',k.2 a b ha hb']
  unfold thV thI inner
  cases ((X.evs.getD a ev0).th == (X.evs.getD b ev0).th)<;>rfl⟩
theorem eq_outer {A:Mx} {R:Rw} (k:EqN X.evs.length A R):EqN X.evs.length (prtM X false A) (partR outer X X.evs.length R):=
 ⟨wf_part h _ _ _,fun a b ha hb' => by
  rw[partR_get h.nOf k.1 rfl ha hb']
  unfold prtM
  rw[opM_get _ _ _ _ _ _ ha hb',k.2 a b ha hb']
  unfold thV thI outer bne
  cases ((X.evs.getD a ev0).th == (X.evs.getD b ev0).th)<;>rfl⟩
end
end Go.Ab
end
section
set_option linter.unusedVariables false
set_option linter.unusedSimpArgs false
namespace Go.Ab
variable {F:Funs}
theorem o_boxI {c:CS} {al:Nat→Bool} {lo id:Nat} {e:Env} {g:G} (x):opE c al lo id (.boxI x) e g = vBoxI (x.ev e) g:=rfl
noncomputable def bxiD (x:Bool) (cs:Option (List AV)) (g:G):Option (AV × G):=if x then vMapL .ptr g cs else none
theorem vBoxI_S (v g):vBoxI v g = bxiD ((cellsOf v).all one) (frzL (fun _ => none) depth (cellsOf v)) g:=rfl
theorem bxiD_ok (cs g):bxiD true cs g = vMapL .ptr g cs:=rfl
theorem frzL_gr (hp) (X:Gr):frzL hp depth (grC X) = some (grC X):=by
 show frzL hp (8 + 1) _ = _
 simp only[grC,frzL,frz]
theorem sp_setE (h166:F 166 = some A_graph_Set) (h81:F 81 = some A_graph_Of) (pr:Pk_rel F) {X:Gr} (hX:X.evs.length≤1000) {fid:Nat} {caps:List AV} {p:Ev→Bool} (hp:∀ e,pureS F fid (.agg (evC e) :: caps) = some (.b (p e)))
  (hc:∀ hp,frzL hp depth caps = some caps) (hv:∀ hp,caps.flatMap (vis hp depth) = []):pureS F 166 [.agg (grC X),.fn fid [] caps] = some (.ptr (relC (nOf X) (setR X p))):=by
 refine pure_of h166 ?_
 simp (disch:=omega) only[A_graph_Set,wp,qa,qb,qc,gl]
 refine W_loop (fun q e g => ∃ k t,q = X.evs.length - k∧k≤X.evs.length∧e 2 = .mp 0 0∧e 5 = .sl (pairsC (setL X p k)) (setL X p k).length t∧e 6 = .mp 5 0∧e 12 = .sl (evsC X.evs) X.evs.length .non∧e 13 = .i .i64 X.evs.length∧e 14 = .i .i64 k∧Live g 2 t∧g.hp 0 = some (.cells (grC X) false)∧g.hp 5 = some (.cells [.fn fid [] caps] false)∧5 < g.nx) X.evs.length ?_ ?_
 ·refine ⟨0,.rig,rfl,Nat.zero_le _,?_⟩
  simp (disch:=omega) only[wp,qa,qb,qc]
  exact ⟨by rfl,rfl,.inl rfl,by first | omega | (dsimp only;omega)⟩
 ·rintro q e g ⟨k,t,rfl,hk,e2,e5,e6,e12,e13,e14,L,hg,hf,hnx⟩
  by_cases hk':k < X.evs.length
  ·have hk1:(k:Int) < X.evs.length:=by omega
   have hwk:=succ_wrap (k:=k) (by omega)
   have hev:=ev_part hk'
   have hs:=setL_succ X p k
   have hl:=setL_len X p k
   generalize X.evs.getD k ev0 = ev at hev hs
   have hpe:=hp ev
   generalize setL X p k = B at e5 hs hl
   cases hb:p ev with
   | true =>
     rw[hb] at hpe
     rw[hb,if_pos rfl] at hs
     rcases L with rfl | ⟨τ,rfl,hτ,hlt⟩
     ·simp (disch:=omega) only[wp,qa,qb,qc,gl,e2,e5,e6,e12,e13,e14,hg,hf,hk1,hev,hc,hv,hpe,pairsC_len,hwk]
      refine ⟨X.evs.length - (k + 1),by omega,k + 1,?_⟩
      rw[hs,pairsC_app,pairsC_one,List.length_append]
      exact ⟨_,rfl,by omega,rfl,rfl,.inr ⟨_,rfl,upd_same _ _ _,by first | omega | (dsimp only;omega)⟩,by first | omega | (dsimp only;omega)⟩
     ·have n0:τ≠0:=fun h => by rw[h,hg] at hτ;cases hτ
      have n5:τ≠5:=fun h => by rw[h,hf] at hτ;cases hτ
      simp (disch:=omega) only[wp,qa,qb,qc,gl,e2,e5,e6,e12,e13,e14,hg,hf,hk1,hev,hc,hv,hpe,pairsC_len,hwk,hτ]
      refine ⟨X.evs.length - (k + 1),by omega,k + 1,?_⟩
      rw[hs,pairsC_app,pairsC_one,List.length_append]
      exact ⟨_,rfl,by omega,rfl,rfl,.inr ⟨_,rfl,upd_same _ _ _,by first | omega | (dsimp only;omega)⟩,by first | omega | (dsimp only;omega)⟩
   | false =>
     rw[hb] at hpe
     rw[hb,if_neg (by simp),List.append_nil] at hs
     simp (disch:=omega) only[wp,qa,qb,qc,gl,e2,e5,e6,e12,e13,e14,hg,hf,hk1,hev,hc,hv,hpe,hwk]
     refine ⟨X.evs.length - (k + 1),by omega,k + 1,t,rfl,by omega,by rw[hs],rfl,?_,by first | omega | (dsimp only;omega)⟩
     rcases L with rfl | ⟨τ,rfl,hτ,hlt⟩
     ·exact .inl rfl
     ·exact .inr ⟨τ,rfl,by simp (disch:=omega) only[upd_ne];exact hτ,by first | omega | (dsimp only;omega)⟩
  ·obtain rfl:k = X.evs.length:=by omega
   have hk1:¬ ((X.evs.length:Int) < X.evs.length):=by omega
   have hl:=setL_len X p X.evs.length
   have hof:=sp_of h81 pr X (setL X p X.evs.length) .non (by omega)
   simp (disch:=omega) only[wp,qa,qb,qc,gl,e2,e5,e6,e12,e13,e14,hg,hf,hk1,hof]
   rfl
def setP (k:Int) (ms:List Int) (e:Ev):Bool:=e.kd == k && (decide (ms = []) || ms.any fun m => e.md == m)
theorem sp_set1 (h229:F 229 = some A_sync_set_1) (k:Int) (ms:List Int) (hm:ms.length≤1000) (ev:Ev):pureS F 229 [.agg (evC ev),.ptr [.sl (intsC ms) ms.length .non],.ptr [.i .i64 k]] = some (.b (setP k ms ev)):=by
 refine pure_of h229 ?_
 have h0:((ms.length:Int) == 0) = decide (ms = []):=by
  cases ms with
  | nil => rfl
  | cons a l => simp;omega
 simp (disch:=omega) only[A_sync_set_1,wp,qa,qb,qc,gl,h0]
 refine W_loop (fun q e g => ∃ j,q = ms.length - j∧j≤ms.length∧e 2 = .ptr [.i .i64 k]∧e 3 = .mp 0 0∧e 5 = .b (decide (ms = []) || (ms.take j).any fun m => ev.md == m)∧e 11 = .sl (intsC ms) ms.length .non∧e 12 = .i .i64 ms.length∧e 13 = .i .i64 j∧g.hp 0 = some (.cells (evC ev) false)∧0 < g.nx) ms.length ?_ ?_
 ·refine ⟨0,rfl,Nat.zero_le _,?_⟩
  simp (disch:=omega) only[wp,qa,qb,qc]
  exact ⟨by simp,rfl,by first | omega | (dsimp only;omega)⟩
 ·rintro q e g ⟨j,rfl,hj,e2,e3,e5,e11,e12,e13,hg,hnx⟩
  by_cases hj':j < ms.length
  ·have hj1:(j:Int) < ms.length:=by omega
   have hwj:=succ_wrap (k:=j) (by omega)
   have hip:=ints_part hj'
   have hs:(ms.take (j + 1)).any (fun m => ev.md == m) = ((ms.take j).any (fun m => ev.md == m) || ev.md == ms.getD j 0):=by
    rw[List.take_add_one,List.getElem?_eq_getElem hj',List.any_append,List.getD_eq_getElem?_getD,List.getElem?_eq_getElem hj']
    simp
   generalize ms.getD j 0 = m at hip hs
   cases hb:(decide (ms = []) || (ms.take j).any fun m => ev.md == m) with
   | true =>
     rw[hb] at e5
     simp (disch:=omega) only[wp,qa,qb,qc,gl,e2,e3,e5,e11,e12,e13,hg,hj1,hip,hwj]
     exact ⟨ms.length - (j + 1),by omega,j + 1,rfl,by omega,by rw[hs,←Bool.or_assoc,hb];rfl,rfl,by first | omega | (dsimp only;omega)⟩
   | false =>
     rw[hb] at e5
     simp (disch:=omega) only[wp,qa,qb,qc,gl,e2,e3,e5,e11,e12,e13,hg,hj1,hip,hwj]
     exact ⟨ms.length - (j + 1),by omega,j + 1,rfl,by omega,by rw[hs,←Bool.or_assoc,hb];rfl,rfl,by first | omega | (dsimp only;omega)⟩
  ·obtain rfl:j = ms.length:=by omega
   have hj1:¬ ((ms.length:Int) < ms.length):=by omega
   rw[List.take_length] at e5
   unfold setP
   cases hk:(ev.kd == k) with
   | true => simp (disch:=omega) only[wp,qa,qb,qc,gl,e2,e3,e5,e11,e12,e13,hg,hj1,hk]
   | false => simp (disch:=omega) only[wp,qa,qb,qc,gl,e2,e3,e5,e11,e12,e13,hg,hj1,hk]
theorem sp_setS (h178:F 178 = some A_sync_set) (h229:F 229 = some A_sync_set_1) (h166:F 166 = some A_graph_Set) (h81:F 81 = some A_graph_Of) (pr:Pk_rel F) {X:Gr} (hX:X.evs.length≤1000) (k:Int) (ms:List Int) (hm:ms.length≤1000) (t:Tok):pureS F 178 [.agg (grC X),.i .i64 k,.sl (intsC ms) ms.length t] = some (.ptr (relC (nOf X) (setR X (setP k ms)))):=by
 refine pure_of h178 ?_
 have hc:∀ hp,frzL hp depth [.ptr [.sl (intsC ms) ms.length .non],.ptr [.i .i64 k]] = some [.ptr [.sl (intsC ms) ms.length .non],.ptr [.i .i64 k]]:=fun hp => by simp only[frzL_cons,frzL_nil,frz_d_ptr,consO_ok]
 have hv:∀ hp,[AV.ptr [.sl (intsC ms) ms.length .non],.ptr [.i .i64 k]].flatMap (vis hp depth) = []:=fun hp => by simp only[List.flatMap_cons,List.flatMap_nil,vis_ptr,List.append_nil]
 have hset:=sp_setE h166 h81 pr hX (fid:=229) (p:=setP k ms) (fun e => sp_set1 h229 k ms hm e) hc hv
 have hfn:∀ hp,frz hp depth (.fn 229 [] [.ptr [.sl (intsC ms) ms.length .non],.ptr [.i .i64 k]]) = some (.fn 229 [] [.ptr [.sl (intsC ms) ms.length .non],.ptr [.i .i64 k]]):=fun hp => by
  show frz hp (8 + 1) _ = _
  simp only[frz,frzL]
 have hvn:∀ hp,vis hp depth (.fn 229 [] [.ptr [.sl (intsC ms) ms.length .non],.ptr [.i .i64 k]]) = []:=fun hp => by
  show vis hp (8 + 1) _ = _
  simp only[vis,List.flatMap_cons,List.flatMap_nil,List.append_nil]
 simp (disch:=omega) only[A_sync_set,wp,qa,qb,qc,gl,o_boxI,vBoxI_S,bxiD_ok,frzL_gr,vMapL_some,hfn,hvn,hset]
def relsC (n:Nat) (l:List Rw):List AV:=l.map fun R => .ptr (relC n R)
def thenL (n:Nat) (R:Rw) (l:List Rw):Rw:=l.foldl (fun R S => thenR n R S) R
theorem rels_part {n:Nat} {l:List Rw} {k:Nat} (h:k < l.length):part ((relsC n l).drop (k * 1)) 0 none = some (.ptr (relC n (l.getD k fun _ => 0))):=by
 simp only[part,relsC,List.getElem?_drop,Nat.mul_one,Nat.add_zero,List.getElem?_map,List.getElem?_eq_getElem h,Option.map_some,List.getD_eq_getElem?_getD,Option.getD_some]
theorem sp_thenS (h177:F 177 = some A_sync_then) (pr:Pk_rel F) {n:Nat} (hn:n≤40) (R:Rw) (l:List Rw) (hl:l.length≤1000) (t:Tok):pureS F 177 [.ptr (relC n R),.sl (relsC n l) l.length t] = some (.ptr (relC n (thenL n R l))):=by
 refine pure_of h177 ?_
 simp (disch:=omega) only[A_sync_then,wp,qa,qb,qc,gl]
 refine W_loop (fun q e g => ∃ k,q = l.length - k∧k≤l.length∧e 0 = .ptr (relC n (thenL n R (l.take k)))∧e 7 = .sl (relsC n l) l.length t∧e 8 = .i .i64 l.length∧e 9 = .i .i64 k) l.length ?_ ?_
 ·refine ⟨0,rfl,Nat.zero_le _,?_⟩
  simp (disch:=omega) only[wp,qa,qb,qc]
  exact ⟨by rfl,rfl⟩
 ·rintro q e g ⟨k,rfl,hk,e0,e7,e8,e9⟩
  by_cases hk':k < l.length
  ·have hk1:(k:Int) < l.length:=by omega
   have hwk:=succ_wrap (k:=k) (by omega)
   have hp:=rels_part (n:=n) hk'
   have hs:thenL n R (l.take (k + 1)) = thenR n (thenL n R (l.take k)) (l.getD k fun _ => 0):=by
    unfold thenL
    rw[List.take_add_one,List.foldl_append,List.getElem?_eq_getElem hk',List.getD_eq_getElem?_getD,List.getElem?_eq_getElem hk']
    rfl
   generalize thenL n R (l.take k) = A at e0 hs
   generalize (l.getD k fun _ => 0) = B at hp hs
   simp (disch:=omega) only[wp,qa,qb,qc,gl,e0,e7,e8,e9,hk1,hp,sp_then pr hn hn,Nat.max_self,hwk]
   exact ⟨l.length - (k + 1),by omega,k + 1,rfl,by omega,by rw[hs],rfl⟩
  ·obtain rfl:k = l.length:=by omega
   have hk1:¬ ((l.length:Int) < l.length):=by omega
   rw[List.take_length] at e0
   simp (disch:=omega) only[wp,qa,qb,qc,gl,e0,e7,e8,e9,hk1]
end Go.Ab
end
section
set_option linter.unusedVariables false
set_option linter.unusedSimpArgs false
namespace Go.Ab
variable {F:Funs}
theorem sp_then1 (h177:F 177 = some A_sync_then) (pr:Pk_rel F) {n:Nat} (hn:n≤40) (R S:Rw):pureS F 177 [.ptr (relC n R),.sl [.ptr (relC n S)] 1 .non] = some (.ptr (relC n (thenR n R S))):=sp_thenS h177 pr hn R [S] (by simp) .non
theorem sp_then2 (h177:F 177 = some A_sync_then) (pr:Pk_rel F) {n:Nat} (hn:n≤40) (R S T:Rw):pureS F 177 [.ptr (relC n R),.sl [.ptr (relC n S),.ptr (relC n T)] 2 .non] = some (.ptr (relC n (thenR n (thenR n R S) T))):=sp_thenS h177 pr hn R [S,T] (by simp) .non
section
variable (X:Gr)
def locR:Rw:=partR locP X (nOf X) (poR X)
def rfR:Rw:=relE rfS X
def RsP:Rw:=orR (thenR (nOf X) (thenR (nOf X) (setR X (setP 2 [])) (locR X)) (setR X (setP 2 []))) (thenR (nOf X) (setR X (setP 2 [])) (maybeK (nOf X) (plusR (nOf X) (thenR (nOf X) (thenR (nOf X) (maybeK (nOf X) (locR X)) (rfR X)) (newR (nOf X) X.rmw)))))
def ReleaseP:Rw:=thenR (nOf X) (orR (setR X (setP 2 [2])) (thenR (nOf X) (setR X (setP 3 [2,3,4])) (poR X))) (RsP X)
def SwP:Rw:=thenR (nOf X) (thenR (nOf X) (ReleaseP X) (orR (partR inner X (nOf X) (rfR X)) (thenR (nOf X) (maybeK (nOf X) (locR X)) (partR outer X (nOf X) (rfR X))))) (orR (setR X (setP 1 [1])) (thenR (nOf X) (poR X) (setR X (setP 3 [1,3,4]))))
def HbP:Rw:=plusR (nOf X) (orR (poR X) (SwP X))
end
structure SyncF (F:Funs):Prop where
 ps:Pk_sync F
 pe:Pk_eco F
 pr:Pk_rel F
 po:F 60 = some A_graph_Po
 gof:F 81 = some A_graph_Of
 set:F 166 = some A_graph_Set
section
variable (S:SyncF F) {X:Gr} (hX:Few X)
include S hX
theorem sp_setX (k:Int) (ms:List Int) (hm:ms.length≤1000) (t:Tok):pureS F 178 [.agg (grC X),.i .i64 k,.sl (intsC ms) ms.length t] = some (.ptr (relC (nOf X) (setR X (setP k ms)))):=
 sp_setS S.ps.sync_set S.ps.sync_set_1 S.set S.gof S.pr (by have:=hX.1;omega) k ms hm t
theorem sp_set0 (k:Int):pureS F 178 [.agg (grC X),.i .i64 k,.sl [] 0 .non] = some (.ptr (relC (nOf X) (setR X (setP k [])))):=sp_setX S hX k [] (by simp) .non
theorem sp_setA (k a:Int):pureS F 178 [.agg (grC X),.i .i64 k,.sl [.i .i64 a] 1 .non] = some (.ptr (relC (nOf X) (setR X (setP k [a])))):=sp_setX S hX k [a] (by simp) .non
theorem sp_setB (k a b c:Int):pureS F 178 [.agg (grC X),.i .i64 k,.sl [.i .i64 a,.i .i64 b,.i .i64 c] 3 .non] = some (.ptr (relC (nOf X) (setR X (setP k [a,b,c])))):=sp_setX S hX k [a,b,c] (by simp) .non
theorem sp_locX:pureS F 41 [.agg (grC X)] = some (.ptr (relC (nOf X) (locR X))):=sp_Loc S.pe S.po S.gof S.pr (by have:=hX.1;omega)
theorem sp_poX:pureS F 60 [.agg (grC X)] = some (.ptr (relC (nOf X) (poR X))):=sp_Po S.po S.gof S.pr (by have:=hX.1;omega)
theorem sp_rfX:pureS F 48 [.agg (grC X)] = some (.ptr (relC (nOf X) (rfR X))):=sp_Rf S.pe S.gof S.pr hX
omit hX in
theorem sp_ofX (l:List (Int × Int)) (hl:l.length≤1000) (t:Tok):pureS F 81 [.agg (grC X),.sl (pairsC l) l.length t] = some (.ptr (relC (nOf X) (newR (nOf X) l))):=sp_of S.gof S.pr X l t (by omega)
theorem sp_Rs (hr:X.rmw.length≤1000):pureS F 179 [.agg (grC X)] = some (.ptr (relC (nOf X) (RsP X))):=by
 refine pure_of S.ps.sync_Rs ?_
 have hn:=nOf_le X
 simp (disch:=omega) only[A_sync_Rs,wp,qa,qb,qc,gl,sp_set0 S hX,sp_locX S hX,sp_rfX S hX,sp_ofX S,sp_maybe S.pr hn,sp_then2 S.ps.sync_then S.pr hn,sp_then1 S.ps.sync_then S.pr hn,sp_plus S.pr hn,sp_or S.pr hn hn,Nat.max_self]
 rfl
theorem sp_Release (hr:X.rmw.length≤1000):pureS F 149 [.agg (grC X)] = some (.ptr (relC (nOf X) (ReleaseP X))):=by
 refine pure_of S.ps.sync_Release ?_
 have hn:=nOf_le X
 simp (disch:=omega) only[A_sync_Release,wp,qa,qb,qc,gl,sp_setA S hX,sp_setB S hX,sp_poX S hX,sp_Rs S hX hr,sp_then2 S.ps.sync_then S.pr hn,sp_then1 S.ps.sync_then S.pr hn,sp_or S.pr hn hn,Nat.max_self]
 rfl
theorem sp_Sw (hr:X.rmw.length≤1000):pureS F 176 [.agg (grC X)] = some (.ptr (relC (nOf X) (SwP X))):=by
 refine pure_of S.ps.sync_Sw ?_
 have hn:=nOf_le X
 simp (disch:=omega) only[A_sync_Sw,wp,qa,qb,qc,gl,sp_setA S hX,sp_setB S hX,sp_poX S hX,sp_locX S hX,sp_rfX S hX,sp_Inner S.pe S.gof S.pr hn,sp_Outer S.pe S.gof S.pr hn,sp_Release S hX hr,sp_maybe S.pr hn,sp_then2 S.ps.sync_then S.pr hn,sp_then1 S.ps.sync_then S.pr hn,sp_or S.pr hn hn,Nat.max_self]
 rfl
theorem sp_Hb (hr:X.rmw.length≤1000):pureS F 148 [.agg (grC X)] = some (.ptr (relC (nOf X) (HbP X))):=by
 refine pure_of S.ps.sync_Hb ?_
 have hn:=nOf_le X
 simp (disch:=omega) only[A_sync_Hb,wp,qa,qb,qc,gl,sp_poX S hX,sp_Sw S hX hr,sp_or S.pr hn hn,sp_plus S.pr hn,Nat.max_self]
 rfl
end
end Go.Ab
end
section
set_option linter.unusedVariables false
set_option linter.unusedSimpArgs false
namespace Go.Ab
structure Q4 where
 ii:Rw
 ic:Rw
 ci:Rw
 cc:Rw
inductive Pp (q:Q4):Nat→Nat→Nat→Prop
 | b0 {a b}:hb q.ii a b = true→Pp q 0 a b
 | b1 {a b}:hb q.ic a b = true→Pp q 1 a b
 | b2 {a b}:hb q.ci a b = true→Pp q 2 a b
 | b3 {a b}:hb q.cc a b = true→Pp q 3 a b
 | r1 {a b}:Pp q 2 a b→Pp q 0 a b
 | r2 {a c b}:Pp q 1 a c→Pp q 2 c b→Pp q 0 a b
 | r3 {a c b}:Pp q 0 a c→Pp q 0 c b→Pp q 0 a b
 | r4 {a b}:Pp q 0 a b→Pp q 1 a b
 | r5 {a b}:Pp q 3 a b→Pp q 1 a b
 | r6 {a c b}:Pp q 1 a c→Pp q 3 c b→Pp q 1 a b
 | r7 {a c b}:Pp q 0 a c→Pp q 1 c b→Pp q 1 a b
 | r8 {a c b}:Pp q 2 a c→Pp q 0 c b→Pp q 2 a b
 | r9 {a c b}:Pp q 3 a c→Pp q 2 c b→Pp q 2 a b
 | r10 {a b}:Pp q 2 a b→Pp q 3 a b
 | r11 {a c b}:Pp q 2 a c→Pp q 1 c b→Pp q 3 a b
 | r12 {a c b}:Pp q 3 a c→Pp q 3 c b→Pp q 3 a b
structure WfQ (n:Nat) (q:Q4):Prop where
 ii:Wf n q.ii
 ic:Wf n q.ic
 ci:Wf n q.ci
 cc:Wf n q.cc
structure LeQ (q p:Q4):Prop where
 ii:∀ a b,hb q.ii a b = true→hb p.ii a b = true
 ic:∀ a b,hb q.ic a b = true→hb p.ic a b = true
 ci:∀ a b,hb q.ci a b = true→hb p.ci a b = true
 cc:∀ a b,hb q.cc a b = true→hb p.cc a b = true
theorem LeQ.refl (q:Q4):LeQ q q:=⟨fun _ _ h => h,fun _ _ h => h,fun _ _ h => h,fun _ _ h => h⟩
theorem LeQ.trans {p q r:Q4} (h:LeQ p q) (k:LeQ q r):LeQ p r:=⟨fun a b x => k.ii a b (h.ii a b x),fun a b x => k.ic a b (h.ic a b x),fun a b x => k.ci a b (h.ci a b x),fun a b x => k.cc a b (h.cc a b x)⟩
structure InP (q0 q:Q4):Prop where
 ii:∀ a b,hb q.ii a b = true→Pp q0 0 a b
 ic:∀ a b,hb q.ic a b = true→Pp q0 1 a b
 ci:∀ a b,hb q.ci a b = true→Pp q0 2 a b
 cc:∀ a b,hb q.cc a b = true→Pp q0 3 a b
theorem InP.base (q:Q4):InP q q:=⟨fun _ _ h => .b0 h,fun _ _ h => .b1 h,fun _ _ h => .b2 h,fun _ _ h => .b3 h⟩
section
variable {n:Nat} {q:Q4} (w:WfQ n q)
include w
end
end Go.Ab
end
section
namespace Go.Ab
def A_ppo_Ppo:AFun:={ res:=[.t 2],body:=(.seq (.reg false [qo 1 (.box (.t 0)),qo 2 (.mv (.c (.nilp)))])
 (.seq (.reg false [qo 10 (.ld (some 8) (.t 1)),qo 11 (.call .pure (.c (.fn 165 [] [])) [.t 10]),qm 9 11,qo 12 (.ext 0 (.t 9)),qo 13 (.ext 1 (.t 9)),qo 14 (.ext 2 (.t 9)),qo 15 (.ext 3 (.t 9)),qm 3 12,qm 4 13,qm 5 14,qm 6 15])
 (.seq (.reg true [qo 16 (.ld (some 8) (.t 1)),qo 17 (.call .pure (.c (.fn 166 [] [])) [.t 16,.c (.fn 167 [] [])]),qo 18 (.ld (some 8) (.t 1)),qo 19 (.call .pure (.c (.fn 166 [] [])) [.t 18,.c (.fn 168 [] [])]),qm 7 17,qm 8 19])
 (.seq (.reg false [qm 20 7,qm 21 3,qo 22 (.call .pure (.c (.fn 23 [] [])) [.t 20,.t 21]),qm 23 7,qo 24 (.call .pure (.c (.fn 23 [] [])) [.t 22,.t 23]),qm 25 7,qm 26 4,qo 27 (.call .pure (.c (.fn 23 [] [])) [.t 25,.t 26]),qm 28 8,qo 29 (.call .pure (.c (.fn 23 [] [])) [.t 27,.t 28]),qo 30 (.call .pure (.c (.fn 24 [] [])) [.t 24,.t 29]),qm 2 30])
 .ret)))) }
def A_ppo_Rdw:AFun:={ res:=[.t 2],body:=(.seq (.reg false [qo 1 (.box (.t 0)),qo 2 (.mv (.c (.nilp)))])
 (.seq (.reg true [qo 3 (.ld (some 8) (.t 1)),qo 4 (.ld (some 8) (.t 1)),qo 5 (.call .pure (.c (.fn 50 [] [])) [.t 4]),qo 6 (.call .pure (.c (.fn 170 [] [])) [.t 3,.t 5]),qm 2 6])
 .ret)) }
def A_ppo_Detour:AFun:={ res:=[.t 2],body:=(.seq (.reg false [qo 1 (.box (.t 0)),qo 2 (.mv (.c (.nilp)))])
 (.seq (.reg true [qo 3 (.ld (some 8) (.t 1)),qo 4 (.ld (some 8) (.t 1)),qo 5 (.call .pure (.c (.fn 49 [] [])) [.t 4]),qo 6 (.call .pure (.c (.fn 170 [] [])) [.t 3,.t 5]),qm 2 6])
 .ret)) }
def A_ppo_Parts:AFun:={ res:=[.t 2,.t 3,.t 4,.t 5],body:=(.seq (.reg false [qo 1 (.box (.t 0)),qo 2 (.mv (.c (.nilp))),qo 3 (.mv (.c (.nilp))),qo 4 (.mv (.c (.nilp))),qo 5 (.mv (.c (.nilp)))])
 (.scp (.seq (.reg false [qo 14 (.ld (some 8) (.t 1)),qo 15 (.call .pure (.c (.fn 166 [] [])) [.t 14,.c (.fn 219 [] [])]),qm 6 15])
 (.seq (.reg true [qo 16 (.ld (some 8) (.t 1)),qo 17 (.fa 5 (.t 1)),qo 18 (.ld none (.t 17)),qo 19 (.call .pure (.c (.fn 81 [] [])) [.t 16,.t 18]),qo 20 (.ld (some 8) (.t 1)),qo 21 (.fa 6 (.t 1)),qo 22 (.ld none (.t 21)),qo 23 (.call .pure (.c (.fn 81 [] [])) [.t 20,.t 22]),qm 24 6,qo 25 (.call .pure (.c (.fn 23 [] [])) [.t 23,.t 24]),qo 26 (.ld (some 8) (.t 1)),qo 27 (.fa 7 (.t 1)),qo 28 (.ld none (.t 27)),qo 29 (.call .pure (.c (.fn 81 [] [])) [.t 26,.t 28]),qm 30 6,qo 31 (.call .pure (.c (.fn 23 [] [])) [.t 29,.t 30]),qm 7 19,qm 8 25,qm 9 31])
 (.seq (.reg true [qm 32 7,qo 33 (.ld (some 8) (.t 1)),qo 34 (.call .pure (.c (.fn 145 [] [])) [.t 33]),qo 35 (.ld (some 8) (.t 1)),qo 36 (.ld (some 8) (.t 1)),qo 37 (.call .pure (.c (.fn 48 [] [])) [.t 36]),qo 38 (.call .pure (.c (.fn 39 [] [])) [.t 35,.t 37]),qo 39 (.bsl true 2 ([.nilp,.nilp]) [(0,1,.t 34),(1,1,.t 38)]),qo 40 (.call .pure (.c (.fn 220 [] [])) [.t 32,.t 39]),qm 2 40])
 (.seq (.reg false [qo 41 (.fa 1 (.t 1)),qo 42 (.ld none (.t 41)),qo 43 (.len (.t 42)),qo 44 (.call .pure (.c (.fn 11 [] [])) [.t 43,.c (.sl [] 0 .rig)]),qm 3 44])
 (.seq (.reg false [qm 45 9,qo 46 (.ld (some 8) (.t 1)),qo 47 (.call .pure (.c (.fn 146 [] [])) [.t 46]),qo 48 (.bsl true 1 ([.nilp]) [(0,1,.t 47)]),qo 49 (.call .pure (.c (.fn 220 [] [])) [.t 45,.t 48]),qm 4 49])
 (.seq (.reg false [qm 50 7,qo 51 (.ld (some 8) (.t 1)),qo 52 (.call .pure (.c (.fn 221 [] [])) [.t 51]),qm 53 8,qo 54 (.bsl true 2 ([.nilp,.nilp]) [(0,1,.t 52),(1,1,.t 53)]),qo 55 (.call .pure (.c (.fn 220 [] [])) [.t 50,.t 54]),qm 5 55])
 (.seq .lab
 (.seq (.blk 0 (.loop (.blk 1 (.seq (.reg false [qm 56 2,qm 57 4,qm 58 3,qm 59 4,qo 60 (.call .pure (.c (.fn 23 [] [])) [.t 58,.t 59]),qm 61 2,qm 62 2,qo 63 (.call .pure (.c (.fn 23 [] [])) [.t 61,.t 62]),qo 64 (.bsl true 3 ([.nilp,.nilp,.nilp]) [(0,1,.t 57),(1,1,.t 60),(2,1,.t 63)]),qo 65 (.call .pure (.c (.fn 220 [] [])) [.t 56,.t 64]),qm 10 65])
 (.seq (.reg false [qm 66 3,qm 67 2,qm 68 5,qm 69 3,qm 70 5,qo 71 (.call .pure (.c (.fn 23 [] [])) [.t 69,.t 70]),qm 72 2,qm 73 3,qo 74 (.call .pure (.c (.fn 23 [] [])) [.t 72,.t 73]),qo 75 (.bsl true 4 (List.replicate 4 (.nilp)) [(0,1,.t 67),(1,1,.t 68),(2,1,.t 71),(3,1,.t 74)]),qo 76 (.call .pure (.c (.fn 220 [] [])) [.t 66,.t 75]),qm 11 76])
 (.seq (.reg false [qm 77 4,qm 78 4,qm 79 2,qo 80 (.call .pure (.c (.fn 23 [] [])) [.t 78,.t 79]),qm 81 5,qm 82 4,qo 83 (.call .pure (.c (.fn 23 [] [])) [.t 81,.t 82]),qo 84 (.bsl true 2 ([.nilp,.nilp]) [(0,1,.t 80),(1,1,.t 83)]),qo 85 (.call .pure (.c (.fn 220 [] [])) [.t 77,.t 84]),qm 12 85])
 (.seq (.reg false [qm 86 5,qm 87 4,qm 88 4,qm 89 3,qo 90 (.call .pure (.c (.fn 23 [] [])) [.t 88,.t 89]),qm 91 5,qm 92 5,qo 93 (.call .pure (.c (.fn 23 [] [])) [.t 91,.t 92]),qo 94 (.bsl true 3 ([.nilp,.nilp,.nilp]) [(0,1,.t 87),(1,1,.t 90),(2,1,.t 93)]),qo 95 (.call .pure (.c (.fn 220 [] [])) [.t 86,.t 94]),qm 13 95])
 (.seq (.seq (.reg false [qm 96 10,qm 97 2,qo 98 (.call .pure (.c (.fn 22 [] [])) [.t 96,.t 97]),qm 99 98,qg 100 (.mv (.t 11)) 99 true,qg 101 (.mv (.t 3)) 99 true,qg 102 (.call .pure (.c (.fn 22 [] [])) [.t 100,.t 101]) 99 true,qo 103 (.pick (.t 99) (.t 102) (.c (.b false))),qm 104 103,qg 105 (.mv (.t 12)) 104 true,qg 106 (.mv (.t 4)) 104 true,qg 107 (.call .pure (.c (.fn 22 [] [])) [.t 105,.t 106]) 104 true,qo 108 (.pick (.t 104) (.t 107) (.c (.b false))),qm 109 108,qg 110 (.mv (.t 13)) 109 true,qg 111 (.mv (.t 5)) 109 true,qg 112 (.call .pure (.c (.fn 22 [] [])) [.t 110,.t 111]) 109 true,qo 113 (.pick (.t 109) (.t 112) (.c (.b false)))])
 (.cond (.t 113) (.ext 0)
 .skip))
 (.reg false [qm 114 10,qm 115 11,qm 116 12,qm 117 13,qm 2 114,qm 3 115,qm 4 116,qm 5 117])))))))))
 (.seq (.reg false [qm 118 2,qm 119 3,qm 120 4,qm 121 5,qm 2 118,qm 3 119,qm 4 120,qm 5 121])
 .ret))))))))))) }
def A_ppo_isR:AFun:={ res:=[.t 2],body:=(.seq (.reg false [qo 1 (.box (.t 0)),qo 2 (.mv (.c (.b false)))])
 (.seq (.reg false [qo 3 (.fa 1 (.t 1)),qo 4 (.ld none (.t 3)),qo 5 (.bin .eql (.t 4) (.c (.i .i64 1))),qm 2 5])
 .ret)) }
def A_ppo_isW:AFun:={ res:=[.t 2],body:=(.seq (.reg false [qo 1 (.box (.t 0)),qo 2 (.mv (.c (.b false)))])
 (.seq (.reg false [qo 3 (.fa 1 (.t 1)),qo 4 (.ld none (.t 3)),qo 5 (.bin .eql (.t 4) (.c (.i .i64 2))),qm 2 5])
 .ret)) }
def A_ppo_by:AFun:={ res:=[.t 4],body:=(.seq (.reg false [qo 2 (.box (.t 0)),qo 4 (.mv (.c (.nilp)))])
 (.seq (.reg true [qo 5 (.ld (some 8) (.t 2)),qo 6 (.call .pure (.c (.fn 221 [] [])) [.t 5]),qo 7 (.ld (some 8) (.t 2)),qm 8 1,qo 9 (.call .pure (.c (.fn 40 [] [])) [.t 7,.t 8]),qo 10 (.ld (some 8) (.t 2)),qo 11 (.ld (some 8) (.t 2)),qo 12 (.call .pure (.c (.fn 48 [] [])) [.t 11]),qo 13 (.call .pure (.c (.fn 40 [] [])) [.t 10,.t 12]),qo 14 (.call .pure (.c (.fn 23 [] [])) [.t 9,.t 13]),qo 15 (.call .pure (.c (.fn 18 [] [])) [.t 6,.t 14]),qm 4 15])
 .ret)) }
def A_ppo_isM:AFun:={ res:=[.t 2],body:=(.seq (.reg false [qo 1 (.box (.t 0)),qo 2 (.mv (.c (.b false)))])
 (.seq (.reg false [qo 3 (.fa 1 (.t 1)),qo 4 (.ld none (.t 3)),qo 5 (.bin .eql (.t 4) (.c (.i .i64 1))),qm 6 5,qg 7 (.fa 1 (.t 1)) 6 false,qg 8 (.ld none (.t 7)) 6 false,qg 9 (.bin .eql (.t 8) (.c (.i .i64 2))) 6 false,qo 10 (.pick (.t 6) (.c (.b true)) (.t 9)),qm 2 10])
 .ret)) }
def A_ppo_or:AFun:={ res:=[.t 4],body:=(.seq (.reg false [qo 4 (.mv (.c (.nilp)))])
 (.seq (.seq (.reg false [qm 7 1,qo 8 (.len (.t 7)),qo 9 (.mv (.c (.i .i64 0)))])
 (.blk 0 (.loop (.seq (.reg false [qo 10 (.bin .lss (.t 9) (.t 8))])
 (.seq (.cond (.t 10) .skip
 (.ext 0))
 (.seq (.blk 1 (.seq (.reg false [qo 11 (.ia 1 (.t 7) (.t 9)),qo 12 (.ld none (.t 11)),qm 6 12])
 (.reg false [qm 13 0,qm 14 6,qo 15 (.call .pure (.c (.fn 24 [] [])) [.t 13,.t 14]),qm 0 15])))
 (.reg false [qo 16 (.bin .add (.t 9) (.c (.i .i64 1))),qm 9 16])))))))
 (.seq (.reg false [qm 17 0,qm 4 17])
 .ret))) }
def A_ppo_ploc:AFun:={ res:=[.t 2],body:=(.seq (.reg false [qo 1 (.box (.t 0)),qo 2 (.mv (.c (.nilp)))])
 (.seq (.reg false [qo 4 (.ld (some 8) (.t 1)),qo 5 (.call .pure (.c (.fn 166 [] [])) [.t 4,.c (.fn 246 [] [])]),qm 3 5])
 (.seq (.reg true [qm 6 3,qo 7 (.ld (some 8) (.t 1)),qo 8 (.ld (some 8) (.t 1)),qo 9 (.call .pure (.c (.fn 41 [] [])) [.t 8]),qo 10 (.call .pure (.c (.fn 39 [] [])) [.t 7,.t 9]),qo 11 (.call .pure (.c (.fn 23 [] [])) [.t 6,.t 10]),qm 2 11])
 .ret))) }
def A_ppo_ploc_1:AFun:={ res:=[.t 2],body:=(.seq (.reg false [qo 1 (.box (.t 0)),qo 2 (.mv (.c (.b false)))])
 (.seq (.reg false [qo 3 (.fa 0 (.t 1)),qo 4 (.ld none (.t 3)),qo 5 (.bin .neq (.t 4) (.c (.i .i64 0))),qm 2 5])
 .ret)) }
structure Pk_ppo (F:Funs):Prop where
 ppo_Ppo:F 143 = some A_ppo_Ppo
 ppo_Rdw:F 145 = some A_ppo_Rdw
 ppo_Detour:F 146 = some A_ppo_Detour
 ppo_Parts:F 165 = some A_ppo_Parts
 ppo_isR:F 167 = some A_ppo_isR
 ppo_isW:F 168 = some A_ppo_isW
 ppo_by:F 170 = some A_ppo_by
 ppo_isM:F 219 = some A_ppo_isM
 ppo_or:F 220 = some A_ppo_or
 ppo_ploc:F 221 = some A_ppo_ploc
 ppo_ploc_1:F 246 = some A_ppo_ploc_1
end Go.Ab
end
section
set_option linter.unusedVariables false
set_option linter.unusedSimpArgs false
namespace Go.Ab
variable {F:Funs}
structure PpoF (F:Funs):Prop where
 pp:Pk_ppo F
 pe:Pk_eco F
 pr:Pk_rel F
 po:F 60 = some A_graph_Po
 gof:F 81 = some A_graph_Of
 set:F 166 = some A_graph_Set
 ls:RelLs F
section
variable (X:Gr)
end
def orL (R:Rw) (l:List Rw):Rw:=l.foldl orR R
section
variable (S:PpoF F)
include S
variable {X:Gr} (hX:Few X)
include hX
end
end Go.Ab
end
section
set_option linter.unusedVariables false
set_option linter.unusedSimpArgs false
namespace Go.Ab
variable {F:Funs}
structure OrdF (F:Funs):Prop where
 po:Pk_order F
 sy:SyncF F
def oR (e:Ev):Bool:=e.kd == 1
def oW (e:Ev):Bool:=e.kd == 2
def oF (e:Ev):Bool:=e.kd == 3
def oRel (e:Ev):Bool:=e.kd == 2 && e.md == 2
def oAcq (e:Ev):Bool:=e.kd == 1 && e.md == 1
def oSc (e:Ev):Bool:=e.kd == 3 && e.md == 4
def oEx (e:Ev):Bool:=e.kd == 1 && e.ex
section
variable (S:OrdF F)
include S
theorem so_R (e:Ev):pureS F 240 [.agg (evC e)] = some (.b (oR e)):=by
 refine pure_of S.po.order_isR ?_
 simp (disch:=omega) only[A_order_isR,wp,qa,qb,qc,gl]
 rfl
theorem so_W (e:Ev):pureS F 203 [.agg (evC e)] = some (.b (oW e)):=by
 refine pure_of S.po.order_isW ?_
 simp (disch:=omega) only[A_order_isW,wp,qa,qb,qc,gl]
 rfl
theorem so_F (e:Ev):pureS F 200 [.agg (evC e)] = some (.b (oF e)):=by
 refine pure_of S.po.order_isF ?_
 simp (disch:=omega) only[A_order_isF,wp,qa,qb,qc,gl]
 rfl
theorem so_Rel (e:Ev):pureS F 196 [.agg (evC e)] = some (.b (oRel e)):=by
 refine pure_of S.po.order_isRel ?_
 have h:=so_W S e
 unfold oRel
 unfold oW at h
 cases c:(e.kd == 2) with
 | true => rw[c] at h;simp (disch:=omega) only[A_order_isRel,wp,qa,qb,qc,gl,h]
 | false => rw[c] at h;simp (disch:=omega) only[A_order_isRel,wp,qa,qb,qc,gl,h]
theorem so_Acq (e:Ev):pureS F 198 [.agg (evC e)] = some (.b (oAcq e)):=by
 refine pure_of S.po.order_isAcq ?_
 have h:=so_R S e
 unfold oAcq
 unfold oR at h
 cases c:(e.kd == 1) with
 | true => rw[c] at h;simp (disch:=omega) only[A_order_isAcq,wp,qa,qb,qc,gl,h]
 | false => rw[c] at h;simp (disch:=omega) only[A_order_isAcq,wp,qa,qb,qc,gl,h]
theorem so_Sc (e:Ev):pureS F 241 [.agg (evC e)] = some (.b (oSc e)):=by
 refine pure_of S.po.order_isSc ?_
 have h:=so_F S e
 unfold oSc
 unfold oF at h
 cases c:(e.kd == 3) with
 | true => rw[c] at h;simp (disch:=omega) only[A_order_isSc,wp,qa,qb,qc,gl,h]
 | false => rw[c] at h;simp (disch:=omega) only[A_order_isSc,wp,qa,qb,qc,gl,h]
theorem so_Ex (e:Ev):pureS F 245 [.agg (evC e)] = some (.b (oEx e)):=by
 refine pure_of S.po.order_isEx ?_
 have h:=so_R S e
 unfold oEx
 unfold oR at h
 cases c:(e.kd == 1) with
 | true => rw[c] at h;simp (disch:=omega) only[A_order_isEx,wp,qa,qb,qc,gl,h]
 | false => rw[c] at h;simp (disch:=omega) only[A_order_isEx,wp,qa,qb,qc,gl,h]
end
section
variable (X:Gr)
def bobL:List Rw:=[thenR (nOf X) (poR X) (setR X oRel),thenR (nOf X) (setR X oAcq) (poR X),thenR (nOf X) (poR X) (setR X oF),thenR (nOf X) (setR X oF) (poR X),thenR (nOf X) (thenR (nOf X) (setR X oRel) (locR X)) (setR X oW)]
def bobR:Rw:=orL (newR (nOf X) []) (bobL X)
def depsR:Rw:=orL (newR (nOf X) []) [newR (nOf X) X.data,newR (nOf X) X.ctrl,thenR (nOf X) (setR X oEx) (poR X)]
def oppoR:Rw:=thenR (nOf X) (thenR (nOf X) (setR X oR) (plusR (nOf X) (orR (depsR X) (partR inner X (nOf X) (rfR X))))) (setR X oW)
def odetR:Rw:=andR (thenR (nOf X) (partR outer X (nOf X) (relE (coS X.co) X)) (partR outer X (nOf X) (rfR X))) (poR X)
def pscR:Rw:=thenR (nOf X) (thenR (nOf X) (thenR (nOf X) (thenR (nOf X) (setR X oSc) (HbP X)) (ecoR X)) (HbP X)) (setR X oSc)
def arR:Rw:=orL (newR (nOf X) []) [partR outer X (nOf X) (rfR X),bobR X,oppoR X,odetR X,pscR X]
end
def ClosR (F:Funs) (n:Nat) (f:AV) (R:Rw):Prop:=∃ fid caps,f = .fn fid [] caps∧pureS F fid caps = some (.ptr (relC n R))∧(∀ hp,frzL hp depth caps = some caps)∧∀ hp,caps.flatMap (vis hp depth) = []
def ClosL (F:Funs) (n:Nat):List AV→List Rw→Prop
 | [],[] => True
 | f :: fs,R :: Rs => ClosR F n f R∧ClosL F n fs Rs
 | _,_ => False
theorem closL_len {n:Nat}:∀ {fs:List AV} {Rs:List Rw},ClosL F n fs Rs→fs.length = Rs.length
 | [],[],_ => rfl
 | f :: fs,R :: Rs,h => by simp[closL_len h.2]
theorem closL_at {n:Nat}:∀ {fs:List AV} {Rs:List Rw} {k:Nat},ClosL F n fs Rs→(h:k < Rs.length)→∃ f,fs[k]? = some f∧ClosR F n f (Rs.getD k fun _ => 0)
 | [],[],_,_,hk => absurd hk (Nat.not_lt_zero _)
 | [],_ :: _,_,h,_ => h.elim
 | _ :: _,[],_,h,_ => h.elim
 | f :: fs,R :: Rs,0,h,_ => ⟨f,rfl,h.1⟩
 | f :: fs,R :: Rs,k + 1,h,hk => closL_at (k:=k) h.2 (by simpa using hk)
section
variable (S:OrdF F) {X:Gr} (hX:Few X)
include S hX
omit hX in
theorem so_all {fs:List AV} {Rs:List Rw} (h:ClosL F (nOf X) fs Rs) (hl:Rs.length≤1000) (t:Tok):pureS F 193 [.agg (grC X),.sl fs Rs.length t] = some (.ptr (relC (nOf X) (orL (newR (nOf X) []) Rs))):=by
 refine pure_of S.po.order_all ?_
 have hn:=nOf_le X
 have dn:pureS F 11 [.i .i64 X.evs.length,.sl [] 0 .non] = some (.ptr (relC (nOf X) (newR (nOf X) []))):=sp_new S.sy.pr X.evs.length [] .non (by simp)
 have hfl:=closL_len h
 simp (disch:=omega) only[A_order_all,wp,qa,qb,qc,gl,dn]
 refine W_loop (fun q e g => ∃ k,q = Rs.length - k∧k≤Rs.length∧e 5 = .ptr (relC (nOf X) (orL (newR (nOf X) []) (Rs.take k)))∧e 12 = .sl fs Rs.length t∧e 13 = .i .i64 Rs.length∧e 14 = .i .i64 k) Rs.length ?_ ?_
 ·refine ⟨0,rfl,Nat.zero_le _,?_⟩
  simp (disch:=omega) only[wp,qa,qb,qc]
  exact ⟨by rfl,rfl⟩
 ·rintro q e g ⟨k,rfl,hk,e5,e12,e13,e14⟩
  by_cases hk':k < Rs.length
  ·have hk1:(k:Int) < Rs.length:=by omega
   have hwk:=succ_wrap (k:=k) (by omega)
   obtain ⟨f,hf,fid,caps,rfl,hcall,hc,hv⟩:=closL_at h hk'
   have hp:part (fs.drop (k * 1)) 0 none = some (.fn fid [] caps):=by
    simp only[part,List.getElem?_drop,Nat.mul_one,Nat.add_zero,hf]
   have hs:orL (newR (nOf X) []) (Rs.take (k + 1)) = orR (orL (newR (nOf X) []) (Rs.take k)) (Rs.getD k fun _ => 0):=by
    unfold orL
    rw[List.take_add_one,List.foldl_append,List.getElem?_eq_getElem hk',List.getD_eq_getElem?_getD,List.getElem?_eq_getElem hk']
    rfl
   generalize orL (newR (nOf X) []) (Rs.take k) = A at e5 hs
   generalize (Rs.getD k fun _ => 0) = B at hcall hs
   simp (disch:=omega) only[wp,qa,qb,qc,gl,e5,e12,e13,e14,hk1,hp,hc,hv,hcall,sp_or S.sy.pr hn hn,Nat.max_self,hwk]
   exact ⟨Rs.length - (k + 1),by omega,k + 1,rfl,by omega,by rw[hs],rfl⟩
  ·obtain rfl:k = Rs.length:=by omega
   have hk1:¬ ((Rs.length:Int) < Rs.length):=by omega
   rw[List.take_length] at e5
   simp (disch:=omega) only[wp,qa,qb,qc,gl,e5,e12,e13,e14,hk1]
theorem so_set {fid:Nat} {p:Ev→Bool} (hp:∀ e,pureS F fid [.agg (evC e)] = some (.b (p e))):pureS F 195 [.agg (grC X),.fn fid [] []] = some (.ptr (relC (nOf X) (setR X p))):=by
 refine pure_of S.po.order_set ?_
 have hs:=sp_setE S.sy.set S.sy.gof S.sy.pr (X:=X) (by have:=hX.1;omega) hp (fun hp => frzL_nil hp _) (fun hp => rfl)
 simp (disch:=omega) only[A_order_set,wp,qa,qb,qc,gl,hs]
end
end Go.Ab
end
section
set_option linter.unusedVariables false
set_option linter.unusedSimpArgs false
namespace Go.Ab
variable {F:Funs}
theorem fz_p1 (a:List AV) (hp):frzL hp depth [.ptr a] = some [.ptr a]:=by simp only[frzL_cons,frzL_nil,frz_d_ptr,consO_ok]
theorem fz_p2 (a b:List AV) (hp):frzL hp depth [.ptr a,.ptr b] = some [.ptr a,.ptr b]:=by simp only[frzL_cons,frzL_nil,frz_d_ptr,consO_ok]
theorem vs_p1 (a:List AV) (hp):[AV.ptr a].flatMap (vis hp depth) = []:=by simp only[List.flatMap_cons,List.flatMap_nil,vis_ptr,List.append_nil]
theorem vs_p2 (a b:List AV) (hp):[AV.ptr a,.ptr b].flatMap (vis hp depth) = []:=by simp only[List.flatMap_cons,List.flatMap_nil,vis_ptr,List.append_nil]
theorem fzf_1 (f:Nat) (a:List AV) (hp):frz hp depth (.fn f [] [.ptr a]) = some (.fn f [] [.ptr a]):=by
 show frz hp (8 + 1) _ = _
 simp only[frz,frzL]
theorem fzf_2 (f:Nat) (a b:List AV) (hp):frz hp depth (.fn f [] [.ptr a,.ptr b]) = some (.fn f [] [.ptr a,.ptr b]):=by
 show frz hp (8 + 1) _ = _
 simp only[frz,frzL]
theorem vsf_1 (f:Nat) (a:List AV) (hp):vis hp depth (.fn f [] [.ptr a]) = []:=by
 show vis hp (8 + 1) _ = _
 simp only[vis,List.flatMap_cons,List.flatMap_nil,List.append_nil]
theorem vsf_2 (f:Nat) (a b:List AV) (hp):vis hp depth (.fn f [] [.ptr a,.ptr b]) = []:=by
 show vis hp (8 + 1) _ = _
 simp only[vis,List.flatMap_cons,List.flatMap_nil,List.append_nil]
theorem closR_1 {n:Nat} {f:Nat} {a:List AV} {R:Rw} (h:pureS F f [.ptr a] = some (.ptr (relC n R))):ClosR F n (.fn f [] [.ptr a]) R:=⟨f,_,rfl,h,fz_p1 a,vs_p1 a⟩
theorem closR_2 {n:Nat} {f:Nat} {a b:List AV} {R:Rw} (h:pureS F f [.ptr a,.ptr b] = some (.ptr (relC n R))):ClosR F n (.fn f [] [.ptr a,.ptr b]) R:=⟨f,_,rfl,h,fz_p2 a b,vs_p2 a b⟩
section
variable (S:OrdF F) {X:Gr} (hX:Few X)
include S hX
omit hX in
theorem so_deps1 (hd:X.data.length≤1000):pureS F 242 [.ptr (grC X)] = some (.ptr (relC (nOf X) (newR (nOf X) X.data))):=by
 refine pure_of S.po.order_Deps_1 ?_
 have h5:part (List.drop 5 (grC X)) 0 none = some (.sl (pairsC X.data) X.data.length .non):=rfl
 simp (disch:=omega) only[A_order_Deps_1,wp,qa,qb,qc,gl,h5,sp_ofX S.sy]
omit hX in
theorem so_deps2 (hd:X.ctrl.length≤1000):pureS F 243 [.ptr (grC X)] = some (.ptr (relC (nOf X) (newR (nOf X) X.ctrl))):=by
 refine pure_of S.po.order_Deps_2 ?_
 have h5:part (List.drop 6 (grC X)) 0 none = some (.sl (pairsC X.ctrl) X.ctrl.length .non):=rfl
 simp (disch:=omega) only[A_order_Deps_2,wp,qa,qb,qc,gl,h5,sp_ofX S.sy]
theorem so_deps3:pureS F 244 [.ptr (grC X)] = some (.ptr (relC (nOf X) (thenR (nOf X) (setR X oEx) (poR X)))):=by
 refine pure_of S.po.order_Deps_3 ?_
 have hn:=nOf_le X
 simp (disch:=omega) only[A_order_Deps_3,wp,qa,qb,qc,gl,so_set S hX (so_Ex S),sp_poX S.sy hX,sp_then S.sy.pr hn hn,Nat.max_self]
theorem so_deps (hd:X.data.length≤1000) (hc:X.ctrl.length≤1000):pureS F 213 [.agg (grC X)] = some (.ptr (relC (nOf X) (depsR X))):=by
 refine pure_of S.po.order_Deps ?_
 have d:=so_all S (X:=X) (fs:=[.fn 242 [] [.ptr (grC X)],.fn 243 [] [.ptr (grC X)],.fn 244 [] [.ptr (grC X)]]) (Rs:=[newR (nOf X) X.data,newR (nOf X) X.ctrl,thenR (nOf X) (setR X oEx) (poR X)]) ⟨closR_1 (so_deps1 S hd),closR_1 (so_deps2 S hc),closR_1 (so_deps3 S hX),trivial⟩ (by simp) .non
 simp only[List.length_cons,List.length_nil,Nat.reduceAdd] at d
 simp (disch:=omega) only[A_order_Deps,wp,qa,qb,qc,gl,o_boxI,vBoxI_S,bxiD_ok,frzL_gr,vMapL_some,fzf_1,vsf_1,d]
 rfl
theorem so_bob1:pureS F 194 [.ptr [.ptr (relC (nOf X) (poR X))],.ptr (grC X)] = some (.ptr (relC (nOf X) (thenR (nOf X) (poR X) (setR X oRel)))):=by
 refine pure_of S.po.order_Bob_1 ?_
 have hn:=nOf_le X
 simp (disch:=omega) only[A_order_Bob_1,wp,qa,qb,qc,gl,so_set S hX (so_Rel S),sp_then S.sy.pr hn hn,Nat.max_self]
theorem so_bob2:pureS F 197 [.ptr (grC X),.ptr [.ptr (relC (nOf X) (poR X))]] = some (.ptr (relC (nOf X) (thenR (nOf X) (setR X oAcq) (poR X)))):=by
 refine pure_of S.po.order_Bob_2 ?_
 have hn:=nOf_le X
 simp (disch:=omega) only[A_order_Bob_2,wp,qa,qb,qc,gl,so_set S hX (so_Acq S),sp_then S.sy.pr hn hn,Nat.max_self]
theorem so_bob3:pureS F 199 [.ptr [.ptr (relC (nOf X) (poR X))],.ptr (grC X)] = some (.ptr (relC (nOf X) (thenR (nOf X) (poR X) (setR X oF)))):=by
 refine pure_of S.po.order_Bob_3 ?_
 have hn:=nOf_le X
 simp (disch:=omega) only[A_order_Bob_3,wp,qa,qb,qc,gl,so_set S hX (so_F S),sp_then S.sy.pr hn hn,Nat.max_self]
theorem so_bob4:pureS F 201 [.ptr (grC X),.ptr [.ptr (relC (nOf X) (poR X))]] = some (.ptr (relC (nOf X) (thenR (nOf X) (setR X oF) (poR X)))):=by
 refine pure_of S.po.order_Bob_4 ?_
 have hn:=nOf_le X
 simp (disch:=omega) only[A_order_Bob_4,wp,qa,qb,qc,gl,so_set S hX (so_F S),sp_then S.sy.pr hn hn,Nat.max_self]
theorem so_bob5:pureS F 202 [.ptr (grC X)] = some (.ptr (relC (nOf X) (thenR (nOf X) (thenR (nOf X) (setR X oRel) (locR X)) (setR X oW)))):=by
 refine pure_of S.po.order_Bob_5 ?_
 have hn:=nOf_le X
 simp (disch:=omega) only[A_order_Bob_5,wp,qa,qb,qc,gl,so_set S hX (so_Rel S),so_set S hX (so_W S),sp_locX S.sy hX,sp_then S.sy.pr hn hn,Nat.max_self]
theorem so_bob:pureS F 155 [.agg (grC X)] = some (.ptr (relC (nOf X) (bobR X))):=by
 refine pure_of S.po.order_Bob ?_
 have d:=so_all S (X:=X) (fs:=[.fn 194 [] [.ptr [.ptr (relC (nOf X) (poR X))],.ptr (grC X)],.fn 197 [] [.ptr (grC X),.ptr [.ptr (relC (nOf X) (poR X))]],.fn 199 [] [.ptr [.ptr (relC (nOf X) (poR X))],.ptr (grC X)],.fn 201 [] [.ptr (grC X),.ptr [.ptr (relC (nOf X) (poR X))]],.fn 202 [] [.ptr (grC X)]]) (Rs:=bobL X) ⟨closR_2 (so_bob1 S hX),closR_2 (so_bob2 S hX),closR_2 (so_bob3 S hX),closR_2 (so_bob4 S hX),closR_1 (so_bob5 S hX),trivial⟩ (by simp[bobL]) .non
 simp only[bobL,List.length_cons,List.length_nil,Nat.reduceAdd] at d
 simp (disch:=omega) only[A_order_Bob,wp,qa,qb,qc,gl,o_boxI,vBoxI_S,bxiD_ok,frzL_gr,vMapL_some,sp_poX S.sy hX]
 refine W_immM (fun e g => e 1 = .ptr (grC X)∧e 3 = .mp 4 0∧g.hp 4 = some (.cells [.ptr (relC (nOf X) (poR X))] false)∧4 < g.nx) ?_ ?_
 ·simp (disch:=omega) only[wp,qa,qb,qc,gl]
  trivial
 ·have r5:∀ x:AV,List.replicate 5 x = [x,x,x,x,x]:=fun _ => rfl
  rintro e g ⟨e1,e3,hg,hnx⟩
  have hfz:frz g.hp depth (e 3) = some (.ptr [.ptr (relC (nOf X) (poR X))]):=by
   rw[e3]
   refine frz_d_mp hg ?_
   show frzL g.hp (7 + 1) [AV.ptr (relC (nOf X) (poR X))] = _
   simp only[frzL,frz]
  rw[W_imm hfz]
  simp (disch:=omega) only[wp,qa,qb,qc,gl,e1,r5,fzf_1,vsf_1,fzf_2,vsf_2,d]
  rfl
theorem so_ppo (hd:X.data.length≤1000) (hc:X.ctrl.length≤1000):pureS F 207 [.agg (grC X)] = some (.ptr (relC (nOf X) (oppoR X))):=by
 refine pure_of S.po.order_Ppo ?_
 have hn:=nOf_le X
 simp (disch:=omega) only[A_order_Ppo,wp,qa,qb,qc,gl,so_deps S hX hd hc,so_set S hX (so_R S),so_set S hX (so_W S),sp_rfX S.sy hX,sp_Inner S.sy.pe S.sy.gof S.sy.pr hn,sp_or S.sy.pr hn hn,sp_plus S.sy.pr hn,sp_then S.sy.pr hn hn,Nat.max_self]
 rfl
theorem so_detour:pureS F 209 [.agg (grC X)] = some (.ptr (relC (nOf X) (odetR X))):=by
 refine pure_of S.po.order_Detour ?_
 have hn:=nOf_le X
 simp (disch:=omega) only[A_order_Detour,wp,qa,qb,qc,gl,sp_rfX S.sy hX,sp_poX S.sy hX,sp_Co S.sy.pe S.sy.gof S.sy.pr hX,sp_Outer S.sy.pe S.sy.gof S.sy.pr hn,sp_and S.sy.pr hn hn,sp_then S.sy.pr hn hn,Nat.max_self]
 rfl
theorem so_psc (hr:X.rmw.length≤1000):pureS F 211 [.agg (grC X)] = some (.ptr (relC (nOf X) (pscR X))):=by
 refine pure_of S.po.order_Psc ?_
 have hn:=nOf_le X
 simp (disch:=omega) only[A_order_Psc,wp,qa,qb,qc,gl,so_set S hX (so_Sc S),sp_Hb S.sy hX hr,sp_Eco S.sy.pe S.sy.gof S.sy.pr hX,sp_then S.sy.pr hn hn,Nat.max_self]
 rfl
theorem so_ar1:pureS F 204 [.ptr (grC X)] = some (.ptr (relC (nOf X) (partR outer X (nOf X) (rfR X)))):=by
 refine pure_of S.po.order_Ar_1 ?_
 have hn:=nOf_le X
 simp (disch:=omega) only[A_order_Ar_1,wp,qa,qb,qc,gl,sp_rfX S.sy hX,sp_Outer S.sy.pe S.sy.gof S.sy.pr hn]
theorem so_ar2:pureS F 205 [.ptr (grC X)] = some (.ptr (relC (nOf X) (bobR X))):=by
 refine pure_of S.po.order_Ar_2 ?_
 simp (disch:=omega) only[A_order_Ar_2,wp,qa,qb,qc,gl,so_bob S hX]
theorem so_ar3 (hd:X.data.length≤1000) (hc:X.ctrl.length≤1000):pureS F 206 [.ptr (grC X)] = some (.ptr (relC (nOf X) (oppoR X))):=by
 refine pure_of S.po.order_Ar_3 ?_
 simp (disch:=omega) only[A_order_Ar_3,wp,qa,qb,qc,gl,so_ppo S hX hd hc]
theorem so_ar4:pureS F 208 [.ptr (grC X)] = some (.ptr (relC (nOf X) (odetR X))):=by
 refine pure_of S.po.order_Ar_4 ?_
 simp (disch:=omega) only[A_order_Ar_4,wp,qa,qb,qc,gl,so_detour S hX]
theorem so_ar5 (hr:X.rmw.length≤1000):pureS F 210 [.ptr (grC X)] = some (.ptr (relC (nOf X) (pscR X))):=by
 refine pure_of S.po.order_Ar_5 ?_
 simp (disch:=omega) only[A_order_Ar_5,wp,qa,qb,qc,gl,so_psc S hX hr]
theorem so_ar (hd:X.data.length≤1000) (hc:X.ctrl.length≤1000) (hr:X.rmw.length≤1000):pureS F 156 [.agg (grC X)] = some (.ptr (relC (nOf X) (arR X))):=by
 refine pure_of S.po.order_Ar ?_
 have d:=so_all S (X:=X) (fs:=[.fn 204 [] [.ptr (grC X)],.fn 205 [] [.ptr (grC X)],.fn 206 [] [.ptr (grC X)],.fn 208 [] [.ptr (grC X)],.fn 210 [] [.ptr (grC X)]]) (Rs:=[partR outer X (nOf X) (rfR X),bobR X,oppoR X,odetR X,pscR X]) ⟨closR_1 (so_ar1 S hX),closR_1 (so_ar2 S hX),closR_1 (so_ar3 S hX hd hc),closR_1 (so_ar4 S hX),closR_1 (so_ar5 S hX hr),trivial⟩ (by simp) .non
 simp only[List.length_cons,List.length_nil,Nat.reduceAdd] at d
 have r5:∀ x:AV,List.replicate 5 x = [x,x,x,x,x]:=fun _ => rfl
 simp (disch:=omega) only[A_order_Ar,wp,qa,qb,qc,gl,r5,o_boxI,vBoxI_S,bxiD_ok,frzL_gr,vMapL_some,fzf_1,vsf_1,d]
 rfl
end
end Go.Ab
end
section
set_option linter.unusedVariables false
set_option linter.unusedSimpArgs false
namespace Go.Ab
variable {F:Funs}
structure ImmF (F:Funs):Prop where
 o:OrdF F
 im:Pk_imm F
 gr:GrFs F
section
variable (X:Gr)
def cohR:Rw:=orR (HbP X) (thenR (nOf X) (HbP X) (ecoR X))
def cohB:Bool:=allN X.evs.length fun i => !has (nOf X) (cohR X) i i
def atR:Rw:=andR (newR (nOf X) X.rmw) (thenR (nOf X) (partR outer X (nOf X) (relE (frS X.co) X)) (partR outer X (nOf X) (relE (coS X.co) X)))
def atB:Bool:=((pairsR (nOf X) (atR X)).length:Int) == 0
def ordB:Bool:=!loopsR (nOf X) (arR X)
def conB:Bool:=gCheck X && (cohB X && (atB X && ordB X))
end
section
variable (S:ImmF F) {X:Gr} (hX:Few X) (hL:LenG X)
include S hX hL
theorem si_coh:pureS F 214 [.agg (grC X)] = some (.b (cohB X)):=by
 refine pure_of S.im.imm_looked_coherent ?_
 have hn:=nOf_le X
 have hev:X.evs.length≤1000:=by have:=hX.1;omega
 have hb:=sp_Hb S.o.sy hX hL.rmw
 have he:=sp_Eco S.o.sy.pe S.o.sy.gof S.o.sy.pr hX
 have finT:(∀ i,i < X.evs.length→(!has (nOf X) (cohR X) (i:Nat) (i:Nat)) = true)→cohB X = true:=allN_t
 have finF:∀ k,k < X.evs.length→(!has (nOf X) (cohR X) (k:Nat) (k:Nat)) = false→cohB X = false:=fun k hk h => allN_f hk h
 generalize cohB X = R at finT finF
 have hc:cohR X = orR (HbP X) (thenR (nOf X) (HbP X) (ecoR X)):=rfl
 simp (disch:=omega) only[A_imm_looked_coherent,wp,qa,qb,qc,gl,hb,he,sp_then S.o.sy.pr hn hn,sp_or S.o.sy.pr hn hn,Nat.max_self]
 rw[←hc]
 generalize cohR X = C at finT finF
 refine W_loop (fun q e g => ∃ k:Nat,q = X.evs.length - k∧k≤X.evs.length∧e 4 = .ptr (relC (nOf X) C)∧e 19 = .i .i64 X.evs.length∧e 20 = .i .i64 k∧∀ i,i < k→(!has (nOf X) C (i:Nat) (i:Nat)) = true) X.evs.length ?_ ?_
 ·refine ⟨0,rfl,Nat.zero_le _,?_⟩
  simp (disch:=omega) only[wp,qa,qb,qc]
  exact ⟨rfl,fun i hi => by omega⟩
 ·rintro q e g ⟨k,rfl,hk,e4,e19,e20,hall⟩
  by_cases hk':k < X.evs.length
  ·have hk1:(k:Int) < X.evs.length:=by omega
   have hwk:=succ_wrap (k:=k) (by omega)
   have hh:=sp_has S.o.sy.pr hn C k k
   have hf:=finF k hk'
   have hall':(!has (nOf X) C (k:Nat) (k:Nat)) = true→∀ i,i < k + 1→(!has (nOf X) C (i:Nat) (i:Nat)) = true:=by
    intro h i hi
    by_cases hik:i = k
    ·subst hik;exact h
    ·exact hall i (by omega)
   cases c:has (nOf X) C (k:Nat) (k:Nat)
   ·rw[c] at hh hall'
    simp (disch:=omega) only[wp,qa,qb,qc,gl,e4,e19,e20,hk1,hh,hwk]
    exact ⟨X.evs.length - (k + 1),by omega,k + 1,rfl,by omega,rfl,hall' rfl⟩
   ·rw[c] at hh hf
    obtain rfl:=hf rfl
    simp (disch:=omega) only[wp,qa,qb,qc,gl,e4,e19,e20,hk1,hh]
  ·have hk1:¬ ((k:Int) < X.evs.length):=by omega
   obtain rfl:k = X.evs.length:=by omega
   obtain rfl:=finT hall
   simp (disch:=omega) only[wp,qa,qb,qc,gl,e4,e19,e20,hk1]
theorem si_at:pureS F 215 [.agg (grC X)] = some (.b (atB X)):=by
 refine pure_of S.im.imm_looked_atomic ?_
 have hn:=nOf_le X
 have r7:∀ x:AV,List.replicate 7 x = [x,x,x,x,x,x,x]:=fun _ => rfl
 have s8:∀ a1 a2 a3 a4 a5 a6 a7 a8 c1 c2 c3 c4 c5 c6 c7 c8:AV,splice [a1,a2,a3,a4,a5,a6,a7,a8] 0 [c1,c2,c3,c4,c5,c6,c7,c8] = [c1,c2,c3,c4,c5,c6,c7,c8]:=fun _ _ _ _ _ _ _ _ _ _ _ _ _ _ _ _ => rfl
 have hr:=hL.rmw
 have s9:splice (AV.i .i64 0 :: List.replicate 7 (AV.sl [] 0 .rig)) 0 (grC X) = grC X:=rfl
 have l9:([AV.i .i64 0] ++ List.replicate 7 (AV.sl [] 0 .rig)).length = 8:=rfl
 have a9:([AV.i .i64 0] ++ List.replicate 7 (AV.sl [] 0 .rig)).all Ab.one = true:=rfl
 simp (disch:=omega) only[A_imm_looked_atomic,wp,qa,qb,qc,gl,s9,l9,a9,sp_Fr S.o.sy.pe S.o.sy.gof S.o.sy.pr hX,sp_Co S.o.sy.pe S.o.sy.gof S.o.sy.pr hX,sp_Outer S.o.sy.pe S.o.sy.gof S.o.sy.pr hn,sp_ofX S.o.sy,sp_and S.o.sy.pr hn hn,sp_then S.o.sy.pr hn hn,sp_pairs S.o.sy.pr hn,Nat.max_self]
 rfl
theorem si_ord:pureS F 216 [.agg (grC X)] = some (.b (ordB X)):=by
 refine pure_of S.im.imm_looked_ordered ?_
 have hn:=nOf_le X
 simp (disch:=omega) only[A_imm_looked_ordered,wp,qa,qb,qc,gl,so_ar S.o hX hL.data hL.ctrl hL.rmw,sp_loops S.o.sy.pr hn]
 rfl
theorem si_Coh:pureS F 164 [.agg (grC X)] = some (.b (cohB X)):=by
 refine pure_of S.im.imm_Coherent ?_
 have s9:splice (AV.i .i64 0 :: List.replicate 7 (AV.sl [] 0 .rig)) 0 (grC X) = grC X:=rfl
 simp (disch:=omega) only[A_imm_Coherent,wp,qa,qb,qc,gl,s9,si_coh S hX hL]
theorem si_At:pureS F 162 [.agg (grC X)] = some (.b (atB X)):=by
 refine pure_of S.im.imm_Atomic ?_
 have s9:splice (AV.i .i64 0 :: List.replicate 7 (AV.sl [] 0 .rig)) 0 (grC X) = grC X:=rfl
 simp (disch:=omega) only[A_imm_Atomic,wp,qa,qb,qc,gl,s9,si_at S hX hL]
theorem si_Ord:pureS F 217 [.agg (grC X)] = some (.b (ordB X)):=by
 refine pure_of S.im.imm_Ordered ?_
 have s9:splice (AV.i .i64 0 :: List.replicate 7 (AV.sl [] 0 .rig)) 0 (grC X) = grC X:=rfl
 simp (disch:=omega) only[A_imm_Ordered,wp,qa,qb,qc,gl,s9,si_ord S hX hL]
omit S hX hL in
theorem frz_bound (hp) (f:Nat) (X:Gr):frz hp depth (.fn f [.agg (grC X)] []) = some (.fn f [.agg (grC X)] []):=by
 show frz hp (8 + 1) _ = _
 simp only[frz,frzL,grC,Option.map_some]
omit S hX hL in
theorem vis_bound (hp) (f:Nat) (X:Gr):vis hp depth (.fn f [.agg (grC X)] []) = []:=by
 show vis hp (8 + 1) _ = _
 simp only[vis,grC,List.flatMap_cons,List.flatMap_nil,List.append_nil]
theorem si_con:pureS F 161 [.agg (grC X)] = some (.b (conB X)):=by
 refine pure_of S.im.imm_Consistent ?_
 have hck:=sg_check S.gr hL
 have h1:=si_coh S hX hL
 have h2:=si_at S hX hL
 have h3:=si_ord S hX hL
 have hR:conB X = (gCheck X && (cohB X && (atB X && ordB X))):=rfl
 cases c0:gCheck X
 ·rw[c0] at hck hR
  rw[hR]
  simp (disch:=omega) only[A_imm_Consistent,wp,qa,qb,qc,gl,hck]
 rw[c0] at hck
 rw[c0,Bool.true_and] at hR
 have s9:splice (AV.i .i64 0 :: List.replicate 7 (AV.sl [] 0 .rig)) 0 (grC X) = grC X:=rfl
 have l9:([AV.i .i64 0] ++ List.replicate 7 (AV.sl [] 0 .rig)).length = 8:=rfl
 have a9:([AV.i .i64 0] ++ List.replicate 7 (AV.sl [] 0 .rig)).all Ab.one = true:=rfl
 generalize conB X = R at hR
 generalize cohB X = b1 at h1 hR
 generalize atB X = b2 at h2 hR
 generalize ordB X = b3 at h3 hR
 simp (disch:=omega) only[A_imm_Consistent,wp,qa,qb,qc,gl,hck,s9,l9,a9,frz_bound,vis_bound,o_mkfn]
 have fz:∀ hp:Nat→Option Blk,frzL hp depth ([.agg (grC X)] ++ [] ++ []) = some [.agg (grC X)]:=fun hp => by
  show frzL hp (8 + 1) _ = _
  simp only[List.append_nil,frzL,frz,grC,Option.map_some]
 have c1:∀ al g,vPure F al (.fn 214 [.agg (grC X)] []) [] g = some (.b b1,g):=fun al g => vPure_ok (fz _) h1 rfl
 have c2:∀ al g,vPure F al (.fn 215 [.agg (grC X)] []) [] g = some (.b b2,g):=fun al g => vPure_ok (fz _) h2 rfl
 have c3:∀ al g,vPure F al (.fn 216 [.agg (grC X)] []) [] g = some (.b b3,g):=fun al g => vPure_ok (fz _) h3 rfl
 have o1:Ab.one (.fn 214 [.agg (grC X)] []) = true:=rfl
 have o2:Ab.one (.fn 215 [.agg (grC X)] []) = true:=rfl
 have o3:Ab.one (.fn 216 [.agg (grC X)] []) = true:=rfl
 generalize AV.fn 214 [.agg (grC X)] [] = f1 at c1 o1
 generalize AV.fn 215 [.agg (grC X)] [] = f2 at c2 o2
 generalize AV.fn 216 [.agg (grC X)] [] = f3 at c3 o3
 have p0:part [f1,f2,f3] 0 (some 1) = some (.agg [f1]):=rfl
 have p1:part (List.drop 1 [f1,f2,f3]) 0 (some 1) = some (.agg [f2]):=rfl
 have p2:part (List.drop 2 [f1,f2,f3]) 0 (some 1) = some (.agg [f3]):=rfl
 refine W_loop (fun q e g => ∃ k:Nat,q = 3 - k∧k≤3∧e 20 = .sl [f1,f2,f3] 3 .rig∧e 21 = .i .i64 3∧e 22 = .i .i64 k∧(1≤k→b1 = true)∧(2≤k→b2 = true)∧(3≤k→b3 = true)) 3 ?_ ?_
 ·refine ⟨0,rfl,by omega,?_⟩
  simp (disch:=omega) only[wp,qa,qb,qc]
  exact ⟨rfl,rfl,fun h => by omega,fun h => by omega,fun h => by omega⟩
 ·rintro q e g ⟨k,rfl,hk,e20,e21,e22,q1,q2,q3⟩
  have lt03:(((0:Nat):Int) < 3):=by omega
  have lt13:(((1:Nat):Int) < 3):=by omega
  have lt23:(((2:Nat):Int) < 3):=by omega
  have w0:=succ_wrap (k:=0) (by omega)
  have w1:=succ_wrap (k:=1) (by omega)
  have w2:=succ_wrap (k:=2) (by omega)
  have t1:Int.toNat 1 = 1:=rfl
  have t2:Int.toNat 2 = 2:=rfl
  have hk':k = 0∨k = 1∨k = 2∨k = 3:=by omega
  rcases hk' with rfl | rfl | rfl | rfl
  ·cases b1
   ·simp (disch:=omega) only[wp,qa,qb,qc,gl,e20,e21,e22,lt03,p0,o1,c1,w0]
    rw[hR];rfl
   ·simp (disch:=omega) only[wp,qa,qb,qc,gl,e20,e21,e22,lt03,p0,o1,c1,w0]
    exact ⟨2,by omega,1,rfl,by omega,rfl,fun _ => trivial,fun h => by omega,fun h => by omega⟩
  ·obtain rfl:=q1 (by omega)
   cases b2
   ·simp (disch:=omega) only[wp,qa,qb,qc,gl,e20,e21,e22,lt13,p1,o2,c2,t1,w1]
    rw[hR];rfl
   ·simp (disch:=omega) only[wp,qa,qb,qc,gl,e20,e21,e22,lt13,p1,o2,c2,t1,w1]
    exact ⟨1,by omega,2,rfl,by omega,rfl,fun _ => trivial,fun _ => trivial,fun h => by omega⟩
  ·obtain rfl:=q1 (by omega)
   obtain rfl:=q2 (by omega)
   cases b3
   ·simp (disch:=omega) only[wp,qa,qb,qc,gl,e20,e21,e22,lt23,p2,o3,c3,t2,w2]
    rw[hR];rfl
   ·simp (disch:=omega) only[wp,qa,qb,qc,gl,e20,e21,e22,lt23,p2,o3,c3,t2,w2]
    exact ⟨0,by omega,3,rfl,by omega,rfl,fun _ => trivial,fun _ => trivial,fun _ => trivial⟩
  ·obtain rfl:=q1 (by omega)
   obtain rfl:=q2 (by omega)
   obtain rfl:=q3 (by omega)
   have n33:¬ (((3:Nat):Int) < 3):=by omega
   simp (disch:=omega) only[wp,qa,qb,qc,gl,e20,e21,e22,n33]
   rw[hR];rfl
end
end Go.Ab
end
section
set_option linter.unusedVariables false
set_option linter.unusedSimpArgs false
namespace Go.Ab
variable {F:Funs}
def kindQ (k f t:Int) (e:Ev):Bool:=e.kd == k && (decide (f≤e.md) && decide (e.md≤t))
theorem sp_kind (h225:F 225 = some A_xref06_Kind) (h27:F 27 = some A_xref01_New) {X:Gr} (hn:X.evs.length≤40) (k f t:Int):pureS F 225 [.agg (grC X),.i .i64 k,.i .i64 f,.i .i64 t] = some (.ptr (matC X.evs.length (kindK X (kindQ k f t) X.evs.length))):=by
 refine pure_of_thaw h225 (matC_flat _ _) ?_
 have s6:∀ b1 b2 b3 b4 b5 b6 c1 c2 c3 c4 c5 c6:AV,splice [b1,b2,b3,b4,b5,b6] 0 [c1,c2,c3,c4,c5,c6] = [c1,c2,c3,c4,c5,c6]:=fun _ _ _ _ _ _ _ _ _ _ _ _ => rfl
 simp (disch:=omega) only[A_xref06_Kind,wp,qa,qb,qc,gl,ml,thaw27 h27]
 refine W_loop (fun q e g => ∃ a:Nat,q = X.evs.length - a∧a≤X.evs.length∧e 1 = .i .i64 k∧e 2 = .i .i64 f∧e 3 = .i .i64 t∧e 4 = .mp 0 0∧e 9 = .mp 5 0∧e 10 = .i .i64 a∧g.hp 0 = some (.cells (grC X) false)∧g.hp 5 = some (.cells (matC X.evs.length (kindK X (kindQ k f t) a)) false)∧5 < g.nx) X.evs.length ?_ ?_
 ·refine ⟨0,rfl,Nat.zero_le _,?_⟩
  simp (disch:=omega) only[wp,qa,qb,qc]
  exact ⟨rfl,by rw[kindK_0],by first | omega | (dsimp only;omega)⟩
 ·rintro q e g ⟨a,rfl,ha,e1,e2,e3,e4,e9,e10,hg,hm,hnx⟩
  by_cases ha':a < X.evs.length
  ·have ha1:(a:Int) < X.evs.length:=by omega
   have hwa:=succ_wrap (k:=a) (by omega)
   have hp:=ev_part ha'
   have hs:=kindK_succ X (kindQ k f t) a
   have hset:=fun x => matC_set (n:=X.evs.length) (M:=kindK X (kindQ k f t) a) (a:=a) (b:=a) (x:=x) (by omega)
   generalize X.evs.getD a ev0 = ev at hp hs
   obtain ⟨th,kd,md,lc,vl,ex⟩:=ev
   have hq:kindQ k f t ⟨th,kd,md,lc,vl,ex⟩ = (kd == k && (decide (f≤md) && decide (md≤t))):=rfl
   have fin:∀ x,x = kindQ k f t ⟨th,kd,md,lc,vl,ex⟩→X.evs.length - (a + 1) < X.evs.length - a∧upd2 (kindK X (kindQ k f t) a) a a x = kindK X (kindQ k f t) (a + 1):=fun x hx => ⟨by omega,by rw[hx,hs]⟩
   cases c1:(kd == k)
   case false =>
    simp (disch:=omega) only[wp,qa,qb,qc,gl,ml,e1,e2,e3,e4,e9,e10,hg,hm,ha1,hp,s6,c1,hset,hwa]
    obtain ⟨f1,f2⟩:=fin false (by rw[hq,c1];rfl)
    exact ⟨_,f1,a + 1,rfl,by omega,rfl,by rw[f2],by first | omega | (dsimp only;omega)⟩
   by_cases c2:f≤md
   case neg =>
    simp (disch:=omega) only[wp,qa,qb,qc,gl,ml,e1,e2,e3,e4,e9,e10,hg,hm,ha1,hp,s6,c1,c2,hset,hwa]
    obtain ⟨f1,f2⟩:=fin false (by rw[hq,c1,decide_eq_false c2];rfl)
    exact ⟨_,f1,a + 1,rfl,by omega,rfl,by rw[f2],by first | omega | (dsimp only;omega)⟩
   simp (disch:=omega) only[wp,qa,qb,qc,gl,ml,e1,e2,e3,e4,e9,e10,hg,hm,ha1,hp,s6,c1,c2,hset,hwa]
   obtain ⟨f1,f2⟩:=fin (decide (md≤t)) (by rw[hq,c1,decide_eq_true c2];simp)
   exact ⟨_,f1,a + 1,rfl,by omega,rfl,by rw[f2],by first | omega | (dsimp only;omega)⟩
  ·obtain rfl:a = X.evs.length:=by omega
   have ha1:¬ ((X.evs.length:Int) < X.evs.length):=by omega
   simp (disch:=omega) only[wp,qa,qb,qc,gl,ml,e1,e2,e3,e4,e9,e10,hg,hm,ha1]
   exact ⟨_,rfl,hm⟩
def MIs (F:Funs) (f:Nat) (X:Gr) (R:Rw):Prop:=∃ A,pureS F f [.agg (grC X)] = some (.ptr (matC X.evs.length A))∧EqN X.evs.length A R
structure RefF (F:Funs):Prop where
 px:Pk_xref01 F
 star:F 231 = some A_xref01_R_Star
 p9:Pk_xref09 F
 p6:Pk_xref06 F
 kind:F 225 = some A_xref06_Kind
 of:F 223 = some A_xref06_Of
section
variable (S:RefF F) {X:Gr} (h:GraphOk X)
include S h
theorem RefF.k (k f t:Int):pureS F 225 [.agg (grC X),.i .i64 k,.i .i64 f,.i .i64 t] = some (.ptr (matC X.evs.length (kindK X (kindQ k f t) X.evs.length))):=sp_kind S.kind S.px.xref01_New h.n40 k f t
theorem RefF.ofL (l:List (Int × Int)) (hl:l.length≤1000) (t:Tok):pureS F 223 [.agg (grC X),.sl (pairsC l) l.length t] = some (.ptr (matC X.evs.length (newM X.evs.length l))):=by
 refine pure_of S.of ?_
 have n40:=h.n40
 have d2:=sp_newM S.px.xref01_New (X.evs.length:Int) l .non (by omega)
 rw[show clamp (X.evs.length:Int) = X.evs.length by unfold clamp;omega] at d2
 simp (disch:=omega) only[A_xref06_Of,wp,qa,qb,qc,gl,d2]
theorem RefF.st (A:Mx):pureS F 231 [.ptr (matC X.evs.length A)] = some (.ptr (matC X.evs.length (mbM (plM X.evs.length A X.evs.length) X.evs.length))):=by
 refine pure_of S.star ?_
 simp (disch:=omega) only[A_xref01_R_Star,wp,qa,qb,qc,gl,sp_mplus S.px.xref01_R_Plus S.px.xref01_New h.n40,sp_mmaybe S.px.xref01_R_Maybe S.px.xref01_New h.n40]
theorem RefF.rf:pureS F 69 [.agg (grC X)] = some (.ptr (matC X.evs.length (anyM (rfL X X.rf.length)))):=by
 have n40:=h.n40
 have hrl:=h.rfl
 exact sp_mRf S.p9.xref09_Rf S.px.xref01_New (X:=X) n40 (by omega) (fun i hi => by have:=(h.rfr i (by omega)).2;omega)
theorem RefF.po:pureS F 84 [.agg (grC X)] = some (.ptr (matC X.evs.length (mpoM X))):=sp_mPo S.p6.xref06_Po S.px.xref01_New h.n40
theorem RefF.loc:pureS F 73 [.agg (grC X)] = some (.ptr (matC X.evs.length (locM X))):=sp_mLoc S.p9.xref09_Loc S.p6.xref06_Po S.px.xref01_New h.n40
theorem RefF.inner (A:Mx):pureS F 74 [.agg (grC X),.ptr (matC X.evs.length A)] = some (.ptr (matC X.evs.length (prtM X true A))):=sp_mInner S.p9.xref09_Inner S.p9.xref09_part S.px.xref01_New h.n40 A
theorem RefF.outer (A:Mx):pureS F 75 [.agg (grC X),.ptr (matC X.evs.length A)] = some (.ptr (matC X.evs.length (prtM X false A))):=sp_mOuter S.p9.xref09_Outer S.p9.xref09_part S.px.xref01_New h.n40 A
theorem RefF.then (A B:Mx):pureS F 32 [.ptr (matC X.evs.length A),.ptr (matC X.evs.length B)] = some (.ptr (matC X.evs.length (thM A B X.evs.length X.evs.length))):=by
 have:=sp_mthen S.px.xref01_R_Then S.px.xref01_New h.n40 h.n40 A B
 rwa [Nat.max_self] at this
theorem RefF.or (A B:Mx):pureS F 29 [.ptr (matC X.evs.length A),.ptr (matC X.evs.length B)] = some (.ptr (matC X.evs.length (opM (fun x y => x || y) A B X.evs.length))):=by
 have:=sp_mor S.px.xref01_R_Or S.px.xref01_New h.n40 h.n40 A B
 rwa [Nat.max_self] at this
theorem RefF.and (A B:Mx):pureS F 30 [.ptr (matC X.evs.length A),.ptr (matC X.evs.length B)] = some (.ptr (matC X.evs.length (opM (fun x y => x && y) A B X.evs.length))):=by
 have:=sp_mand S.px.xref01_R_And S.px.xref01_New h.n40 h.n40 A B
 rwa [Nat.max_self] at this
theorem RefF.plus (A:Mx):pureS F 34 [.ptr (matC X.evs.length A)] = some (.ptr (matC X.evs.length (plM X.evs.length A X.evs.length))):=sp_mplus S.px.xref01_R_Plus S.px.xref01_New h.n40 A
theorem RefF.maybe (A:Mx):pureS F 35 [.ptr (matC X.evs.length A)] = some (.ptr (matC X.evs.length (mbM A X.evs.length))):=sp_mmaybe S.px.xref01_R_Maybe S.px.xref01_New h.n40 A
end
section
variable {X:Gr} (h:GraphOk X)
include h
theorem kq {k f t:Int} {p:Ev→Bool} (hq:∀ e:Ev,(e.kd = 1∧(e.md = 0∨e.md = 1))∨(e.kd = 2∧(e.md = 0∨e.md = 2))∨(e.kd = 3∧1≤e.md∧e.md≤4)→p e = kindQ k f t e):EqN X.evs.length (kindK X (kindQ k f t) X.evs.length) (setR X p):=
 EqN.set h fun i hi => hq _ (ev_kinds h i hi)
end
theorem q_W (e:Ev) (h:(e.kd = 1∧(e.md = 0∨e.md = 1))∨(e.kd = 2∧(e.md = 0∨e.md = 2))∨(e.kd = 3∧1≤e.md∧e.md≤4)):setP 2 [] e = kindQ 2 0 2 e:=by
 unfold setP kindQ
 rcases h with ⟨h1,h2⟩ | ⟨h1,h2⟩ | ⟨h1,h2,h3⟩
 ·rw[h1];rfl
 ·rcases h2 with h2 | h2<;>rw[h1,h2]<;>rfl
 ·rw[h1];rfl
theorem q_md (k f:Int) (e:Ev):setP k [f] e = kindQ k f f e:=by
 unfold setP kindQ
 congr 1
 rw[Bool.eq_iff_iff]
 simp
 omega
theorem q_Frel (e:Ev) (h:(e.kd = 1∧(e.md = 0∨e.md = 1))∨(e.kd = 2∧(e.md = 0∨e.md = 2))∨(e.kd = 3∧1≤e.md∧e.md≤4)):setP 3 [2,3,4] e = kindQ 3 2 4 e:=by
 unfold setP kindQ
 congr 1
 rw[Bool.eq_iff_iff]
 simp
 omega
section
variable (S:RefF F) (p10:Pk_xref10 F) {X:Gr} (h:GraphOk X)
include S p10 h
theorem mW:pureS F 230 [.agg (grC X)] = some (.ptr (matC X.evs.length (kindK X (kindQ 2 0 2) X.evs.length))):=by
 refine pure_of p10.xref10_W ?_
 simp (disch:=omega) only[A_xref10_W,wp,qa,qb,qc,gl,S.k h]
theorem mWrel:pureS F 232 [.agg (grC X)] = some (.ptr (matC X.evs.length (kindK X (kindQ 2 2 2) X.evs.length))):=by
 refine pure_of p10.xref10_Wrel ?_
 simp (disch:=omega) only[A_xref10_Wrel,wp,qa,qb,qc,gl,S.k h]
theorem mFrel:pureS F 233 [.agg (grC X)] = some (.ptr (matC X.evs.length (kindK X (kindQ 3 2 4) X.evs.length))):=by
 refine pure_of p10.xref10_Frel ?_
 simp (disch:=omega) only[A_xref10_Frel,wp,qa,qb,qc,gl,S.k h]
theorem mRacq:pureS F 234 [.agg (grC X)] = some (.ptr (matC X.evs.length (kindK X (kindQ 1 1 1) X.evs.length))):=by
 refine pure_of p10.xref10_Racq ?_
 simp (disch:=omega) only[A_xref10_Racq,wp,qa,qb,qc,gl,S.k h]
theorem mFacq:pureS F 235 [.agg (grC X)] = some (.ptr (matC X.evs.length (opM (fun x y => x || y) (kindK X (kindQ 3 1 1) X.evs.length) (kindK X (kindQ 3 3 4) X.evs.length) X.evs.length))):=by
 refine pure_of p10.xref10_Facq ?_
 simp (disch:=omega) only[A_xref10_Facq,wp,qa,qb,qc,gl,S.k h,S.or h]
theorem mRs (hr:X.rmw.length≤1000):MIs F 182 X (RsP X):=by
 unfold RsP locR
 rw[h.nOf]
 have w:=kq h q_W
 have l:=eq_loc h
 have c:=((l.maybe h.n40).then (eq_rf h)).then (EqN.new h.n40 X.rmw)
 refine ⟨_,pure_of p10.xref10_Rs ?_,((w.then l).then w).or (w.then (c.plus.maybe h.n40))⟩
 simp (disch:=omega) only[A_xref10_Rs,wp,qa,qb,qc,gl,mW S p10 h,S.loc h,S.maybe h,S.rf h,S.then h,S.ofL h,S.st h,S.or h]
theorem mRelease (hr:X.rmw.length≤1000):MIs F 183 X (ReleaseP X):=by
 obtain ⟨A,hA,eA⟩:=mRs S p10 h hr
 unfold ReleaseP
 rw[h.nOf]
 have w:=kq h fun e _ => q_md 2 2 e
 have f:=kq h q_Frel
 refine ⟨_,pure_of p10.xref10_Release ?_,(w.or (f.then (eq_po h))).then eA⟩
 simp (disch:=omega) only[A_xref10_Release,wp,qa,qb,qc,gl,mWrel S p10 h,mFrel S p10 h,S.po h,S.then h,S.or h,hA]
omit S p10 in
theorem eq_facq:EqN X.evs.length (opM (fun x y => x || y) (kindK X (kindQ 3 1 1) X.evs.length) (kindK X (kindQ 3 3 4) X.evs.length) X.evs.length) (setR X (setP 3 [1,3,4])):=by
 have e:EqN X.evs.length (kindK X (setP 3 [1,3,4]) X.evs.length) (setR X (setP 3 [1,3,4])):=EqN.set h fun i hi => rfl
 refine ⟨e.1,fun a b ha hb' => ?_⟩
 rw[opM_get _ _ _ _ _ _ ha hb',←e.2 a b ha hb']
 unfold kindK
 have hk:=ev_kinds h a ha
 generalize X.evs.getD a ev0 = ev at hk
 rw[Bool.eq_iff_iff]
 simp[setP,kindQ]
 omega
theorem mSw (hr:X.rmw.length≤1000):MIs F 184 X (SwP X):=by
 obtain ⟨A,hA,eA⟩:=mRelease S p10 h hr
 unfold SwP locR rfR
 rw[h.nOf]
 have r:=kq h fun e _ => q_md 1 1 e
 have l:=eq_loc h
 have read:=(eq_inner h (eq_rf h)).or ((l.maybe h.n40).then (eq_outer h (eq_rf h)))
 refine ⟨_,pure_of p10.xref10_Sw ?_,(eA.then read).then (r.or ((eq_po h).then (eq_facq h)))⟩
 simp (disch:=omega) only[A_xref10_Sw,wp,qa,qb,qc,gl,mRacq S p10 h,mFacq S p10 h,S.po h,S.loc h,S.rf h,S.inner h,S.outer h,S.maybe h,S.then h,S.or h,hA]
theorem mHb (hr:X.rmw.length≤1000):MIs F 185 X (HbP X):=by
 obtain ⟨A,hA,eA⟩:=mSw S p10 h hr
 unfold HbP
 rw[h.nOf]
 refine ⟨_,pure_of p10.xref10_Hb ?_,((eq_po h).or eA).plus⟩
 simp (disch:=omega) only[A_xref10_Hb,wp,qa,qb,qc,gl,S.po h,S.or h,S.plus h,hA]
end
end Go.Ab
end
