/- What MemFinal rests on, part 4: lemmas, no claim of its own. -/
import Derived.Test.YtippmjhokhjjiaaPMemFinal3
set_option maxRecDepth 100000
set_option maxHeartbeats 16000000
open Nat renaming reduceAdd → qa, reduceMul → qb, reduceSub → qc
section
set_option linter.unusedVariables false
set_option linter.unusedSimpArgs false
namespace Go.Ab
variable {F:Funs}
def szT (j:Nat):Nat:=if j = 0 then 6 else 2
structure SkTs (ts:Nat→Tok) (B:Nat) (g:G):Prop where
 ok:∀ j,TkOk (szT j) g (ts j)
 ne:∀ i j,i≠j→TkNe (ts i) (ts j)
 bc:∃ cs,g.hp B = some (.cells cs false)
 lt:B < g.nx
structure Frm1 (B:Nat) (g g':G):Prop where
 nx:g.nx≤g'.nx
 keep:∀ i,i < g.nx→i≠B→(∀ b,g.hp i≠some (.tok b))→g'.hp i = g.hp i
theorem Frm1.refl (B:Nat) (g:G):Frm1 B g g:=⟨Nat.le_refl _,fun _ _ _ _ => rfl⟩
theorem Frm1.trans {B:Nat} {g g1 g2:G} (h:Frm1 B g g1) (k:Frm1 B g1 g2):Frm1 B g g2:=
 ⟨Nat.le_trans h.nx k.nx,fun i hi hb ht => by
  have h1:=h.keep i hi hb ht
  rw[k.keep i (by have:=h.nx;omega) hb (fun b => by rw[h1];exact ht b),h1]⟩
theorem SkTs.alive {ts:Nat→Tok} {B:Nat} {g:G} (h:SkTs ts B g) {j i e:Nat} (ht:ts j = .own i e):g.hp i = some (.tok true)∧i < g.nx∧e = szT j∧i≠B:=by
 rcases h.ok j with h1 | ⟨i',h1,h2,h3⟩
 ·rw[ht] at h1;cases h1
 ·rw[ht] at h1;cases h1
  refine ⟨h2,h3,rfl,fun hb => ?_⟩
  obtain ⟨cs,hc⟩:=h.bc
  rw[hb,hc] at h2;cases h2
theorem SkTs.app {ts:Nat→Tok} {B:Nat} {g:G} (h:SkTs ts B g) {j id nA m:Nat} {t':Tok} {hpA hp':Nat→Option Blk} {cs:List AV} (hA:∀ i,i < g.nx→hpA i = g.hp i) (hid:g.nx≤id) (ar:AppR (szT j) id (ts j) t' ⟨hpA,nA⟩ hp') (hm:id < m):
  SkTs (upd ts j t') B ⟨upd hp' B (some (.cells cs false)),m⟩∧Frm1 B g ⟨upd hp' B (some (.cells cs false)),m⟩:=by
 have hBid:B≠id:=by have:=h.lt;omega
 have keep:∀ i,i < g.nx→(∀ e,ts j≠.own i e)→hp' i = g.hp i:=fun i hi hn => by rw[ar.keep i (by omega) hn];exact hA i hi
 refine ⟨⟨fun k => ?_,fun i k hik => ?_,⟨cs,by simp[upd]⟩,by show B < m;have:=h.lt;omega⟩,⟨by show g.nx≤m;omega,fun i hi hb ht => ?_⟩⟩
 ·by_cases hk:k = j
  ·subst hk
   rw[show upd ts k t' k = t' from if_pos rfl]
   rcases ar.tok with rfl | ⟨rfl,h1⟩
   ·exact .inl rfl
   ·exact .inr ⟨id,rfl,by show upd _ _ _ _ = _;rw[upd_ne _ _ (by omega)];exact h1,hm⟩
  ·rw[show upd ts j t' k = ts k from if_neg hk]
   rcases h.ok k with h1 | ⟨i,h1,h2,h3⟩
   ·exact .inl h1
   ·obtain ⟨_,_,_,hiB⟩:=h.alive h1
    exact .inr ⟨i,h1,by show upd _ _ _ _ = _;rw[upd_ne _ _ (by omega),keep i h3 (fun e he => h.ne k j hk i _ _ h1 he),h2],by show i < m;omega⟩
 ·have hnew:∀ k,k≠j→TkNe t' (ts k):=fun k hk => ar.ne fun e he => by have:=(h.alive he).2.1;omega
  by_cases hi:i = j
  ·subst hi
   rw[show upd ts i t' i = t' from if_pos rfl,show upd ts i t' k = ts k from if_neg (fun h => hik h.symm)]
   exact hnew k fun h => hik h.symm
  ·rw[show upd ts j t' i = ts i from if_neg hi]
   by_cases hk:k = j
   ·subst hk
    rw[show upd ts k t' k = t' from if_pos rfl]
    exact (hnew i hi).symm
   ·rw[show upd ts j t' k = ts k from if_neg hk]
    exact h.ne i k hik
 ·show upd _ _ _ _ = _
  rw[upd_ne _ _ hb]
  exact keep i hi fun e he => ht true (h.alive he).1
def skC (X:Gr) (ts:Nat→Tok):List AV:=[.i .i64 X.locs,.sl (evsC X.evs) X.evs.length (ts 0),.sl [] 0 .rig,.sl [] 0 .rig,.sl (pairsC X.rmw) X.rmw.length (ts 1),.sl (pairsC X.data) X.data.length (ts 2),.sl (pairsC X.ctrl) X.ctrl.length (ts 3),.sl [] 0 .rig]
structure SkAt (X:Gr) (B:Nat) (ts:Nat→Tok) (g:G):Prop where
 tk:SkTs ts B g
 cells:g.hp B = some (.cells (skC X ts) false)
def rnC (s:RS):List AV:=[.sl (evsC s.evs) s.evs.length .non,.sl (pairsC s.rmw) s.rmw.length .non,.sl (pairsC s.data) s.data.length .non,.sl (pairsC s.ctrl) s.ctrl.length .non,.sl [] 0 .rig,.i .i64 (s.used:Int),.sl (intsC s.regs) 8 .non]
structure LayS (X:Gr) (s:RS) (n:Nat) (B R:Nat) (g0:G) (ts:Nat→Tok) (e:Env) (g:G):Prop where
 sk:SkAt X B ts g
 e0:e 0 = .mp B 0
 e4:e 4 = .mp R 0
 e6:e 6 = .i .i64 ((n:Nat):Int)
 hr:g.hp R = some (.cells (rnC s) false)
 rb:R≠B
 rn:R < g.nx
 fr:Frm1 B g0 g
def SmP (l:List (Int × Int)):Prop:=∀ p∈l,0≤p.1∧p.1≤1000000∧0≤p.2∧p.2≤1000000
theorem gr6 (a b c d e f x:AV) (l:List AV):part (a :: b :: c :: d :: e :: f :: x :: l) 6 none = some x:=rfl
theorem gr7 (a b c d e f x y:AV) (l:List AV):part (a :: b :: c :: d :: e :: f :: x :: y :: l) 7 none = some y:=rfl
theorem lay_rmw (h121:F 121 = some A_xref07_moved) {X:Gr} {s:RS} {n B R:Nat} {g0:G} {ts:Nat→Tok} {e:Env} {g:G} {Q:Out→Env→G→Prop} (I:LayS X s n B R g0 ts e g) (hn:n≤1000) (hl:X.rmw.length≤100000) (hs:s.rmw.length≤100000) (hp:SmP s.rmw)
  (hQ:∀ e' g' ts',LayS { X with rmw:=X.rmw ++ movI s.rmw n } s n B R g0 ts' e' g'→Q .nrm e' g'):
  W F (.reg true [{ dst:=some 38,op:=.mv (.t 0) },{ dst:=some 39,op:=.mv (.t 0) },{ dst:=some 40,op:=.nilck (.t 39) },{ dst:=some 41,op:=.fa 4 (.t 40) },{ dst:=some 42,op:=.ld none (.t 41),pre:=[] },
    { dst:=some 43,op:=.fa 1 (.t 4) },{ dst:=some 44,op:=.ld none (.t 43),pre:=[] },{ dst:=some 45,op:=.mv (.t 6) },{ dst:=some 46,op:=.call .pure (.c (.fn 121 [] [])) [.t 44,.t 45],pre:=[] },
    { dst:=some 47,op:=.app 2 16 (.t 42) (.t 46),pre:=[] },{ dst:=some 48,op:=.nilck (.t 38) },{ dst:=some 49,op:=.fa 4 (.t 48) },{ dst:=none,op:=.st 1 (.t 49) (.t 47),pre:=[9] }]) e g Q:=by
 obtain ⟨⟨tk,hc⟩,e0,e4,e6,hr,rb,rn,fr⟩:=I
 have hB:=tk.lt
 have hmv:=sp7_moved h121 s.rmw (n:=(n:Int)) hs (by omega) hp
 have hml:=movI_len s.rmw (n:Int)
 unfold skC at hc
 have hr0:=hr
 unfold rnC at hr
 simp (disch:=omega) only[wp,qa,qb,qc,gl,e0,e4,e6,hc,hr,hmv,gr6,gr7]
 refine bindO_app ((tk.ok 1).mono (fun i hi => rfl) (by first | omega | (dsimp only;omega))) ?_ ⟨by omega,by omega,pairsC_len _,by rw[pairsC_len,hml]⟩ ?_
 ·intro i hi
  have:=(tk.alive hi).2.1
  exact allow_lt _ (by first | omega | (dsimp only;omega))
 ·intro t' hp' ar
  have ar2:=fun cs => tk.app (j:=1) (cs:=cs) (hA:=fun i hi => rfl) (by first | omega | (dsimp only;omega)) ar (m:=g.nx + 13) (by omega)
  have kp:∀ i cs ro,i < g.nx→g.hp i = some (.cells cs ro)→hp' i = some (.cells cs ro):=fun i cs ro hi hh => by
   rw[ar.keep i (by omega) (fun e' he => by have:=(tk.alive he).1;rw[hh] at this;cases this)]
   exact hh
  have hcB:=kp B _ _ hB hc
  have hcR:=kp R _ _ rn hr0
  simp (disch:=omega) only[wp,qa,qb,qc,gl,e0,e4,e6,hcB]
  refine hQ _ _ (upd ts 1 t') ⟨⟨?_,?_⟩,e0,e4,e6,?_,rb,by first | omega | (dsimp only;omega),?_⟩
  ·exact (ar2 _).1
  ·show upd _ _ _ _ = _
   rw[upd_same]
   simp[skC,upd,pairsC_app,hml]
  ·show upd _ _ _ _ = _
   rw[upd_ne _ _ rb];exact hcR
  ·exact fr.trans (ar2 _).2
theorem lay_data (h121:F 121 = some A_xref07_moved) {X:Gr} {s:RS} {n B R:Nat} {g0:G} {ts:Nat→Tok} {e:Env} {g:G} {Q:Out→Env→G→Prop} (I:LayS X s n B R g0 ts e g) (hn:n≤1000) (hl:X.data.length≤100000) (hs:s.data.length≤100000) (hp:SmP s.data)
  (hQ:∀ e' g' ts',LayS { X with data:=X.data ++ movI s.data n } s n B R g0 ts' e' g'→Q .nrm e' g'):
  W F (.reg true [{ dst:=some 50,op:=.mv (.t 0) },{ dst:=some 51,op:=.mv (.t 0) },{ dst:=some 52,op:=.nilck (.t 51) },{ dst:=some 53,op:=.fa 5 (.t 52) },{ dst:=some 54,op:=.ld none (.t 53),pre:=[] },
    { dst:=some 55,op:=.fa 2 (.t 4) },{ dst:=some 56,op:=.ld none (.t 55),pre:=[] },{ dst:=some 57,op:=.mv (.t 6) },{ dst:=some 58,op:=.call .pure (.c (.fn 121 [] [])) [.t 56,.t 57],pre:=[] },
    { dst:=some 59,op:=.app 2 16 (.t 54) (.t 58),pre:=[] },{ dst:=some 60,op:=.nilck (.t 50) },{ dst:=some 61,op:=.fa 5 (.t 60) },{ dst:=none,op:=.st 1 (.t 61) (.t 59),pre:=[9] }]) e g Q:=by
 obtain ⟨⟨tk,hc⟩,e0,e4,e6,hr,rb,rn,fr⟩:=I
 have hB:=tk.lt
 have hmv:=sp7_moved h121 s.data (n:=(n:Int)) hs (by omega) hp
 have hml:=movI_len s.data (n:Int)
 unfold skC at hc
 have hr0:=hr
 unfold rnC at hr
 simp (disch:=omega) only[wp,qa,qb,qc,gl,e0,e4,e6,hc,hr,hmv,gr6,gr7]
 refine bindO_app ((tk.ok 2).mono (fun i hi => rfl) (by first | omega | (dsimp only;omega))) ?_ ⟨by omega,by omega,pairsC_len _,by rw[pairsC_len,hml]⟩ ?_
 ·intro i hi
  have:=(tk.alive hi).2.1
  exact allow_lt _ (by first | omega | (dsimp only;omega))
 ·intro t' hp' ar
  have ar2:=fun cs => tk.app (j:=2) (cs:=cs) (hA:=fun i hi => rfl) (by first | omega | (dsimp only;omega)) ar (m:=g.nx + 13) (by omega)
  have kp:∀ i cs ro,i < g.nx→g.hp i = some (.cells cs ro)→hp' i = some (.cells cs ro):=fun i cs ro hi hh => by
   rw[ar.keep i (by omega) (fun e' he => by have:=(tk.alive he).1;rw[hh] at this;cases this)]
   exact hh
  have hcB:=kp B _ _ hB hc
  have hcR:=kp R _ _ rn hr0
  simp (disch:=omega) only[wp,qa,qb,qc,gl,e0,e4,e6,hcB]
  refine hQ _ _ (upd ts 2 t') ⟨⟨?_,?_⟩,e0,e4,e6,?_,rb,by first | omega | (dsimp only;omega),?_⟩
  ·exact (ar2 _).1
  ·show upd _ _ _ _ = _
   rw[upd_same]
   simp[skC,upd,pairsC_app,hml]
  ·show upd _ _ _ _ = _
   rw[upd_ne _ _ rb];exact hcR
  ·exact fr.trans (ar2 _).2
theorem lay_ctrl (h121:F 121 = some A_xref07_moved) {X:Gr} {s:RS} {n B R:Nat} {g0:G} {ts:Nat→Tok} {e:Env} {g:G} {Q:Out→Env→G→Prop} (I:LayS X s n B R g0 ts e g) (hn:n≤1000) (hl:X.ctrl.length≤100000) (hs:s.ctrl.length≤100000) (hp:SmP s.ctrl)
  (hQ:∀ e' g' ts',LayS { X with ctrl:=X.ctrl ++ movI s.ctrl n } s n B R g0 ts' e' g'→Q .nrm e' g'):
  W F (.reg true [{ dst:=some 62,op:=.mv (.t 0) },{ dst:=some 63,op:=.mv (.t 0) },{ dst:=some 64,op:=.nilck (.t 63) },{ dst:=some 65,op:=.fa 6 (.t 64) },{ dst:=some 66,op:=.ld none (.t 65),pre:=[] },
    { dst:=some 67,op:=.fa 3 (.t 4) },{ dst:=some 68,op:=.ld none (.t 67),pre:=[] },{ dst:=some 69,op:=.mv (.t 6) },{ dst:=some 70,op:=.call .pure (.c (.fn 121 [] [])) [.t 68,.t 69],pre:=[] },
    { dst:=some 71,op:=.app 2 16 (.t 66) (.t 70),pre:=[] },{ dst:=some 72,op:=.nilck (.t 62) },{ dst:=some 73,op:=.fa 6 (.t 72) },{ dst:=none,op:=.st 1 (.t 73) (.t 71),pre:=[9] }]) e g Q:=by
 obtain ⟨⟨tk,hc⟩,e0,e4,e6,hr,rb,rn,fr⟩:=I
 have hB:=tk.lt
 have hmv:=sp7_moved h121 s.ctrl (n:=(n:Int)) hs (by omega) hp
 have hml:=movI_len s.ctrl (n:Int)
 unfold skC at hc
 have hr0:=hr
 unfold rnC at hr
 simp (disch:=omega) only[wp,qa,qb,qc,gl,e0,e4,e6,hc,hr,hmv,gr6,gr7]
 refine bindO_app ((tk.ok 3).mono (fun i hi => rfl) (by first | omega | (dsimp only;omega))) ?_ ⟨by omega,by omega,pairsC_len _,by rw[pairsC_len,hml]⟩ ?_
 ·intro i hi
  have:=(tk.alive hi).2.1
  exact allow_lt _ (by first | omega | (dsimp only;omega))
 ·intro t' hp' ar
  have ar2:=fun cs => tk.app (j:=3) (cs:=cs) (hA:=fun i hi => rfl) (by first | omega | (dsimp only;omega)) ar (m:=g.nx + 13) (by omega)
  have kp:∀ i cs ro,i < g.nx→g.hp i = some (.cells cs ro)→hp' i = some (.cells cs ro):=fun i cs ro hi hh => by
   rw[ar.keep i (by omega) (fun e' he => by have:=(tk.alive he).1;rw[hh] at this;cases this)]
   exact hh
  have hcB:=kp B _ _ hB hc
  have hcR:=kp R _ _ rn hr0
  simp (disch:=omega) only[wp,qa,qb,qc,gl,e0,e4,e6,hcB]
  refine hQ _ _ (upd ts 3 t') ⟨⟨?_,?_⟩,e0,e4,e6,?_,rb,by first | omega | (dsimp only;omega),?_⟩
  ·exact (ar2 _).1
  ·show upd _ _ _ _ = _
   rw[upd_same]
   simp[skC,upd,pairsC_app,hml]
  ·show upd _ _ _ _ = _
   rw[upd_ne _ _ rb];exact hcR
  ·exact fr.trans (ar2 _).2
theorem ev_set0 (e:Ev) (t:Int):(evC e).set 0 (.i .i64 t) = evC (thE t e):=rfl
theorem frzL_evC (hp:Nat→Option Blk) (e:Ev):frzL hp depth (evC e) = some (evC e):=frzL_flat (d:=8) (evC_flat e)
theorem evsC_app (l m:List Ev):evsC (l ++ m) = evsC l ++ evsC m:=by simp[evsC]
theorem evs_take {l:List Ev} {k:Nat} (h:k < l.length):l.take (k + 1) = l.take k ++ [l.getD k ev0]:=by
 rw[List.take_add_one,List.getElem?_eq_getElem h,List.getD_eq_getElem?_getD,List.getElem?_eq_getElem h];rfl
structure LayL (X:Gr) (s:RS) (t:Int) (B R:Nat) (g0:G) (ts:Nat→Tok) (i:Nat) (e:Env) (g:G):Prop where
 hi:i≤s.evs.length
 l:LayS { X with evs:=X.evs ++ (s.evs.take i).map (thE t) } s X.evs.length B R g0 ts e g
 e2:e 2 = .i .i64 t
 e7:e 7 = .i .i64 ((i:Nat):Int)
theorem rp_lay (h105:F 105 = some A_xref07_Lay) (h121:F 121 = some A_xref07_moved) {X:Gr} {s:RS} {t:Int} {B:Nat} {ts:Nat→Tok} {g:G} (S:SkAt X B ts g) (hx:X.evs.length≤500) (hs:s.evs.length≤500)
  (l1:X.rmw.length≤100000) (l2:X.data.length≤100000) (l3:X.ctrl.length≤100000) (m1:s.rmw.length≤100000) (m2:s.data.length≤100000) (m3:s.ctrl.length≤100000) (p1:SmP s.rmw) (p2:SmP s.data) (p3:SmP s.ctrl):
  ∃ v g',callS F 105 [.mp B 0,.agg (rnC s),.i .i64 t] g = some (v,g')∧(∃ ts',SkAt (layX X s t) B ts' g')∧Frm1 B g g':=by
 refine raw_of (P:=fun v g' => (∃ ts',SkAt (layX X s t) B ts' g')∧Frm1 B g g') h105 ?_
 obtain ⟨tk,hc⟩:=S
 have hB:=tk.lt
 have hc0:=hc
 unfold skC at hc
 rw[show rnC s = [.sl (evsC s.evs) s.evs.length .non,.sl (pairsC s.rmw) s.rmw.length .non,.sl (pairsC s.data) s.data.length .non,.sl (pairsC s.ctrl) s.ctrl.length .non,.sl [] 0 .rig,.i .i64 (s.used:Int),.sl (intsC s.regs) 8 .non] from rfl]
 have tr5:∀ x:AV,List.replicate 5 x ++ [.b false] = [x,x,x,x,x,.b false]:=fun _ => rfl
 simp (disch:=omega) only[A_xref07_Lay,wp,qa,qb,qc,gl,hc]
 refine blk_cut (fun e g' => ∃ ts',LayL X s t B g.nx g ts' s.evs.length e g') ?_ ?_
 ·refine W_loop (fun q e g' => ∃ (i:Nat) (ts':Nat→Tok),q = s.evs.length - i∧LayL X s t B g.nx g ts' i e g') s.evs.length ?_ ?_
  ·refine ⟨0,ts,rfl,Nat.zero_le _,⟨⟨⟨fun j => (tk.ok j).mono (fun i hi => ?_) (by first | omega | (dsimp only;omega)),tk.ne,⟨_,(show upd _ _ _ _ = _ by rw[upd_ne _ _ (by omega)];exact hc0)⟩,by first | omega | (dsimp only;omega)⟩,?_⟩,rfl,rfl,rfl,?_,by omega,by first | omega | (dsimp only;omega),⟨by first | omega | (dsimp only;omega),fun i hi hb ht => ?_⟩⟩,rfl,rfl⟩
   ·have:=(tk.alive hi).2.1
    exact upd_ne _ _ (by omega)
   ·show upd _ _ _ _ = _
    rw[upd_ne _ _ (by omega),hc0]
    simp[skC]
   ·exact upd_same _ _ _
   ·exact upd_ne _ _ (by omega)
  ·rintro q e g1 ⟨i,ts',rfl,hi,⟨⟨tk,hc⟩,e0,e4,e6,hr,rb,rn,fr⟩,e2,e7⟩
   have hB1:=tk.lt
   have hr0:=hr
   unfold rnC at hr
   by_cases c1:i < s.evs.length
   ·have c1':((i:Nat):Int) < ((s.evs.length:Nat):Int):=by omega
    have hev:=ev_part c1
    have hw:=succ_wrap (k:=i) (by omega)
    have hln:(evsC (X.evs ++ (s.evs.take i).map (thE t))).length = (X.evs ++ (s.evs.take i).map (thE t)).length * 6:=evsC_len _
    have hll:(X.evs ++ (s.evs.take i).map (thE t)).length≤1000:=by rw[List.length_append,List.length_map,List.length_take];omega
    have hnx:X.evs ++ (s.evs.take (i + 1)).map (thE t) = (X.evs ++ (s.evs.take i).map (thE t)) ++ [thE t (s.evs.getD i ev0)]:=by rw[evs_take c1,List.map_append,List.append_assoc];rfl
    generalize s.evs.getD i ev0 = ev at hev hnx
    generalize hE:X.evs ++ (s.evs.take i).map (thE t) = E at hc hln hll hnx
    unfold skC at hc
    dsimp only at hc
    simp (disch:=omega) only[wp,qa,qb,qc,gl,e0,e2,e4,e6,e7,hc,hr,c1',hev,gr6,gr7,ev_set0,frzL_evC]
    refine bindO_app (esz:=6) ((tk.ok 0).mono (fun i hi => ?_) (by first | omega | (dsimp only;omega))) ?_ ⟨by omega,by omega,by omega,by first | rfl | (rw[evC_len])⟩ ?_
    ·have:=(tk.alive hi).2.1
     simp (disch:=omega) only[upd_ne]
    ·intro i hi
     have:=(tk.alive hi).2.1
     exact allow_lt _ (by first | omega | (dsimp only;omega))
    ·intro t' hp' ar
     have ar2:=fun cs => tk.app (j:=0) (cs:=cs) (fun i hi => ?_) (by first | omega | (dsimp only;omega)) ar (m:=g1.nx + 5 + 7 + 3 + 11 + 3) (by omega)
     rotate_left
     ·simp (disch:=omega) only[upd_ne]
     have kp:∀ i cs ro,i < g1.nx→g1.hp i = some (.cells cs ro)→hp' i = some (.cells cs ro):=fun i cs ro hi hh => by
      rw[ar.keep i (by omega) (fun e' he => by have:=(tk.alive he).1;rw[hh] at this;cases this)]
      simp (disch:=omega) only[upd_ne]
      exact hh
     have hcB:=kp B _ _ hB1 hc
     have hcR:=kp g.nx _ _ rn hr0
     simp (disch:=omega) only[wp,qa,qb,qc,gl,e0,e2,e4,e6,e7,hcB,hw]
     refine ⟨s.evs.length - (i + 1),by omega,i + 1,upd ts' 0 t',rfl,by omega,⟨⟨(ar2 _).1,?_⟩,e0,e4,e6,?_,rb,by first | omega | (dsimp only;omega),fr.trans (ar2 _).2⟩,e2,rfl⟩
     ·show upd _ _ _ _ = _
      rw[upd_same,hnx]
      simp[skC,upd,evsC_app]
      rfl
     ·show upd _ _ _ _ = _
      rw[upd_ne _ _ rb];exact hcR
   ·have c1':¬ ((i:Nat):Int) < ((s.evs.length:Nat):Int):=by omega
    obtain rfl:i = s.evs.length:=by omega
    simp (disch:=omega) only[wp,qa,qb,qc,gl,e0,e4,e6,e7,hr,c1',gr6,gr7]
    refine ⟨ts',Nat.le_refl _,⟨⟨⟨fun j => (tk.ok j).mono (fun i hi => rfl) (by first | omega | (dsimp only;omega)),tk.ne,tk.bc,by first | omega | (dsimp only;omega)⟩,hc⟩,e0,e4,e6,hr0,rb,by first | omega | (dsimp only;omega),⟨by have:=fr.nx;first | omega | (dsimp only;omega),fr.keep⟩⟩,e2,e7⟩
 ·rintro e g1 ⟨ts1,_,I,e2,e7⟩
  rw[List.take_length] at I
  rw[W_seq]
  refine lay_rmw h121 I (by omega) l1 m1 p1 fun e g2 ts2 I => ?_
  rw[thenQ_nrm,W_seq]
  refine lay_data h121 I (by omega) l2 m2 p2 fun e g3 ts3 I => ?_
  rw[thenQ_nrm,W_seq]
  refine lay_ctrl h121 I (by omega) l3 m3 p3 fun e g4 ts4 I => ?_
  rw[thenQ_nrm]
  obtain ⟨⟨tk,hc⟩,e0,e4,e6,hr,rb,rn,fr⟩:=I
  have hB:=tk.lt
  have hmv:=sp7_moved h121 [] (n:=(X.evs.length:Int)) (by simp) (by omega) (fun p hp => absurd hp (List.not_mem_nil))
  simp only[movI,pairsC,List.map_nil,List.flatMap_nil,List.length_nil] at hmv
  have hc0:=hc
  unfold skC at hc
  unfold rnC at hr
  simp (disch:=omega) only[wp,qa,qb,qc,gl,e0,e4,e6,hc,hr,hmv,gr6,gr7]
  refine ⟨_,rfl,⟨ts4,⟨fun j => (tk.ok j).mono (fun i hi => ?_) (by first | omega | (dsimp only;omega)),tk.ne,⟨_,upd_same _ _ _⟩,by first | omega | (dsimp only;omega)⟩,?_⟩,⟨by have:=fr.nx;first | omega | (dsimp only;omega),fun i hi hb ht => ?_⟩⟩
  ·have:=(tk.alive hi).2.2.2
   exact upd_ne _ _ (by omega)
  ·show upd _ _ _ _ = _
   rw[upd_same]
   simp[skC,layX]
  ·show upd _ _ _ _ = _
   rw[upd_ne _ _ hb]
   exact fr.keep i hi hb ht
end Go.Ab
end
section
set_option linter.unusedVariables false
set_option linter.unusedSimpArgs false
namespace Go.Ab
variable {F:Funs}
def fsT (id:Nat):Nat→Tok:=fun j => if j = 0 then .own id 6 else .rig
def fsE (k:Nat):List Ev:=(List.range k).map wE
theorem fsE_succ (k:Nat):fsE (k + 1) = fsE k ++ [wE k]:=by simp[fsE,List.range_succ]
theorem fsE_len (k:Nat):(fsE k).length = k:=by simp[fsE]
def fsC (k:Nat) (t:Tok):List AV:=[.i .i64 2,.sl (evsC (fsE k)) k t,.sl [] 0 .rig,.sl [] 0 .rig,.sl [] 0 .rig,.sl [] 0 .rig,.sl [] 0 .rig,.sl [] 0 .rig]
structure FsI (g0:G) (C D k:Nat) (t:Tok) (e:Env) (g:G):Prop where
 hk:k≤2
 e0:e 0 = .i .i64 2
 e2:e 2 = .mp D 0
 e3:e 3 = .mp C 0
 e4:e 4 = .i .i64 ((k:Nat):Int)
 hc:g.hp C = some (.cells (fsC k t) false)
 hd:∃ cs,g.hp D = some (.cells cs false)∧cs.length = 8
 tk:TkOk 6 g t
 tn:1≤k→t≠.rig
 told:∀ i,t = .own i 6→g0.nx≤i
 cd:g0.nx≤C∧g0.nx≤D∧C < g.nx∧D < g.nx∧C≠D
 nx:g0.nx≤g.nx
 fr:∀ i,i < g0.nx→g.hp i = g0.hp i
theorem wE_build (k:Nat):splice [AV.i .i64 0,.i .i64 2,.i .i64 0,.i .i64 0,.i .i64 0,.b false] 3 [.i .i64 ((k:Nat):Int)] = evC (wE k):=rfl
theorem rp_first (h103:F 103 = some A_xref07_First) (g:G):
  ∃ v g',callS F 103 [.i .i64 2] g = some (v,g')∧(∃ id,v = .agg (skC sk0 (fsT id))∧g'.hp id = some (.tok true)∧g.nx≤id∧id < g'.nx)∧g.nx≤g'.nx∧∀ i,i < g.nx→g'.hp i = g.hp i:=by
 refine raw_of (P:=fun v g' => (∃ id,v = .agg (skC sk0 (fsT id))∧g'.hp id = some (.tok true)∧g.nx≤id∧id < g'.nx)∧g.nx≤g'.nx∧∀ i,i < g.nx→g'.hp i = g.hp i) h103 ?_
 have l7:∀ x:AV,List.replicate 7 x = [x,x,x,x,x,x,x]:=fun _ => rfl
 have l5:∀ x:AV,List.replicate 5 x = [x,x,x,x,x]:=fun _ => rfl
 have s8:∀ b1 b2 b3 b4 b5 b6 b7 b8 c1 c2 c3 c4 c5 c6 c7 c8:AV,splice [b1,b2,b3,b4,b5,b6,b7,b8] 0 [c1,c2,c3,c4,c5,c6,c7,c8] = [c1,c2,c3,c4,c5,c6,c7,c8]:=fun _ _ _ _ _ _ _ _ _ _ _ _ _ _ _ _ => rfl
 have s6:∀ b1 b2 b3 b4 b5 b6 c1 c2 c3 c4 c5 c6:AV,splice [b1,b2,b3,b4,b5,b6] 0 [c1,c2,c3,c4,c5,c6] = [c1,c2,c3,c4,c5,c6]:=fun _ _ _ _ _ _ _ _ _ _ _ _ => rfl
 have p8:∀ c1 c2 c3 c4 c5 c6 c7 c8:AV,part [c1,c2,c3,c4,c5,c6,c7,c8] 0 (some 8) = some (.agg [c1,c2,c3,c4,c5,c6,c7,c8]):=fun _ _ _ _ _ _ _ _ => rfl
 simp (disch:=omega) only[A_xref07_First,wp,qa,qb,qc,gl,l7,s8]
 refine blk_cut (fun e g' => ∃ t,FsI g (g.nx + 1 + 2) g.nx 2 t e g') ?_ ?_
 ·refine W_loop (fun q e g' => ∃ (k:Nat) (t:Tok),q = 2 - k∧FsI g (g.nx + 1 + 2) g.nx k t e g') 2 ?_ ?_
  ·refine ⟨0,.rig,rfl,by omega,rfl,rfl,rfl,rfl,upd_same _ _ _,?_,.inl rfl,by omega,fun i h => (by cases h),⟨by omega,by omega,by first | omega | (dsimp only;omega),by first | omega | (dsimp only;omega),by omega⟩,by first | omega | (dsimp only;omega),fun i hi => ?_⟩
   ·exact ⟨[.i .i64 0,.sl [] 0 .rig,.sl [] 0 .rig,.sl [] 0 .rig,.sl [] 0 .rig,.sl [] 0 .rig,.sl [] 0 .rig,.sl [] 0 .rig],by simp (disch:=omega) only[upd_ne,upd_same],rfl⟩
   ·simp (disch:=omega) only[upd_ne]
  ·rintro q e g1 ⟨k,t,rfl,hk,e0,e2,e3,e4,hc,⟨ds,hd,hdl⟩,tk,tn,told,⟨a1,a2,a3,a4,a5⟩,hx,fr⟩
   by_cases c1:k < 2
   ·have c1':((k:Nat):Int) < 2:=by omega
    have hw:=succ_wrap (k:=k) (by omega)
    have hel:(evsC (fsE k)).length = k * 6:=by rw[evsC_len,fsE_len]
    unfold fsC at hc
    simp (disch:=omega) only[wp,qa,qb,qc,gl,e0,e2,e3,e4,hc,c1',l5,s6,wE_build,frzL_evC]
    refine bindO_app1 (esz:=6) (tk.mono (fun i hi => rfl) (by first | omega | (dsimp only;omega))) (fun i hi => allow_no _ _ _) ⟨by omega,by omega,hel,rfl⟩ ?_
    intro t' hp' ar hpos
    obtain ⟨rfl,hlive⟩:=hpos (by omega)
    have kp:∀ i,i < g1.nx→(∀ b,g1.hp i≠some (.tok b))→hp' i = g1.hp i:=fun i hi hb => by
     refine ar.keep i (by omega) fun e' he => ?_
     rcases tk with h | ⟨i',h,h1,h2⟩
     ·rw[h] at he;cases he
     ·rw[h] at he;cases he;exact hb true h1
    have hcC:=(kp (g.nx + 1 + 2) a3 (fun b h => by rw[hc] at h;cases h)).trans hc
    have hcD:=(kp g.nx a4 (fun b h => by rw[hd] at h;cases h)).trans hd
    simp (disch:=omega) only[wp,qa,qb,qc,gl,e0,e2,e3,e4,hcC,hw]
    refine ⟨2 - (k + 1),by omega,k + 1,.own (g1.nx + 3 + 5) 6,rfl,by omega,e0,e2,e3,rfl,?_,⟨ds,?_,hdl⟩,.inr ⟨_,rfl,?_,?_⟩,by simp,fun i h => by cases h;omega,⟨a1,a2,by first | omega | (dsimp only;omega),by first | omega | (dsimp only;omega),a5⟩,by first | omega | (dsimp only;omega),fun i hi => ?_⟩
    ·show upd _ _ _ _ = _
     rw[upd_same,fsC,fsE_succ,evsC_app]
     rfl
    ·show upd _ _ _ _ = _
     rw[upd_ne _ _ (by omega)];exact hcD
    ·show upd _ _ _ _ = _
     rw[upd_ne _ _ (by omega)];exact hlive
    ·first | omega | (dsimp only;omega)
    ·show upd _ _ _ _ = _
     rw[upd_ne _ _ (by omega),ar.keep i (by omega) (fun e' he => ?_)]
     ·exact fr i hi
     ·rcases tk with h | ⟨i',h,h1,h2⟩
      ·rw[h] at he;cases he
      ·have:=told i' h
       rw[h] at he;cases he;omega
   ·have c1':¬ ((k:Nat):Int) < 2:=by omega
    obtain rfl:k = 2:=by omega
    simp (disch:=omega) only[wp,qa,qb,qc,gl,e0,e2,e3,e4,c1']
    exact ⟨t,Nat.le_refl _,e0,e2,e3,e4,hc,⟨ds,hd,hdl⟩,tk.mono (fun i hi => rfl) (by first | omega | (dsimp only;omega)),tn,told,⟨a1,a2,by first | omega | (dsimp only;omega),by first | omega | (dsimp only;omega),a5⟩,by first | omega | (dsimp only;omega),fr⟩
 ·rintro e g1 ⟨t,hk,e0,e2,e3,e4,hc,⟨ds,hd,hdl⟩,tk,tn,told,⟨a1,a2,a3,a4,a5⟩,hx,fr⟩
  rcases tk with rfl | ⟨id,rfl,hlive,hlt⟩
  ·exact absurd rfl (tn (by omega))
  ·have hid:=told id rfl
   have hn1:id≠g.nx:=fun h => by rw[h,hd] at hlive;cases hlive
   unfold fsC at hc
   have ds8:∃ b1 b2 b3 b4 b5 b6 b7 b8,ds = [b1,b2,b3,b4,b5,b6,b7,b8]:=by
    match ds,hdl with
    | [b1,b2,b3,b4,b5,b6,b7,b8],_ => exact ⟨b1,b2,b3,b4,b5,b6,b7,b8,rfl⟩
   obtain ⟨b1,b2,b3,b4,b5,b6,b7,b8,rfl⟩:=ds8
   simp (disch:=omega) only[wp,qa,qb,qc,gl,e2,e3,hc,hd,p8,s8,res_cell,resC]
   refine ⟨_,rfl,⟨id,?_,?_,hid,by first | omega | (dsimp only;omega)⟩,by first | omega | (dsimp only;omega),fun i hi => ?_⟩
   ·simp[skC,sk0,fsT,fsE,pairsC]
    rfl
   ·simp (disch:=omega) only[upd_ne];exact hlive
   ·simp (disch:=omega) only[upd_ne];exact fr i hi
end Go.Ab
end
section
set_option linter.unusedVariables false
set_option linter.unusedSimpArgs false
namespace Go.Ab
variable {F:Funs}
def skX (ths:List (List Ins)) (lots:List (List Int)):Nat→Gr
 | 0 => sk0
 | i + 1 => layX (skX ths lots i) (doR evX (ths.getD i []) (lots.getD i [])) ((i:Int) + 1)
structure HdOk (th:List Ins) (l:List Int):Prop where
 sh:(doR evX th l).short = false
 us:(doR evX th l).used = l.length
 ln:l.length≤1000
structure LotOk (ths:List (List Ins)) (lots:List (List Int)):Prop where
 len:lots.length = ths.length
 ok:∀ i,i < ths.length→HdOk (ths.getD i []) (lots.getD i [])
theorem skX_inv {ths lots} (hk:∀ i,i < ths.length→ThK (ths.getD i [])):∀ i,i≤ths.length→SkInv (skX ths lots i) (i:Int)∧(skX ths lots i).evs.length≤2 + 24 * i∧(skX ths lots i).rf = []∧(skX ths lots i).co = []
 | 0,_ => ⟨sk0_inv,by simp[skX,sk0],rfl,rfl⟩
 | i + 1,h => by
   obtain ⟨h1,h2,h3,h4⟩:=skX_inv hk i (by omega)
   have hth:=hk i (by omega)
   obtain ⟨r1,r2⟩:=doR_inv (V:=evX) (th:=ths.getD i []) (reads:=lots.getD i []) (fun k hkk => ⟨_,hth.ins k hkk⟩)
   have hl:=hth.len
   refine ⟨?_,?_,h3,h4⟩
   ·have:=h1.lay (by omega) r1
    exact_mod_cast this
   ·show ((skX ths lots i).evs ++ (doR evX (ths.getD i []) (lots.getD i [])).evs.map (thE ((i:Int) + 1))).length≤_
    rw[List.length_append,List.length_map]
    omega
theorem DpL.sm {es:List Ev} {l:List (Int × Int)} (h:DpL es l) (hn:es.length≤1000000):SmP l:=fun p hp => by
 obtain ⟨a,b,c,_⟩:=h.1 p hp
 omega
theorem RmL.sm {es:List Ev} {l:List (Int × Int)} (h:RmL es l) (hn:es.length≤1000000):SmP l:=fun p hp => by
 obtain ⟨a,b,c,_⟩:=h.pairs p hp
 omega
structure SnI (ths:List (List Ins)) (lots:List (List Int)) (B i:Nat) (e:Env) (g:G):Prop where
 hi:i≤ths.length
 e1:e 1 = .sl (coC lots) lots.length .non
 e2:e 2 = .mp 0 0
 e4:e 4 = .mp 1 0
 e6:e 6 = .mp B 0
 e7:e 7 = .i .i64 ((i:Nat):Int)
 h0:g.hp 0 = some (.cells [.i .i64 2,.sl (thsC ths) ths.length .non] false)
 h1:g.hp 1 = some (.cells [.i .i64 0,.sl [] 0 .rig,.sl [] 0 .rig,.sl [] 0 .rig,.sl [] 0 .rig,.sl [] 0 .rig,.sl [] 0 .rig,.sl [] 0 .rig] false)
 sk:∃ ts,SkAt (skX ths lots i) B ts g
 b2:2≤B
theorem Frm1.cells {B:Nat} {g g':G} (h:Frm1 B g g') {i:Nat} {cs:List AV} {ro:Bool} (hi:i < g.nx) (hb:i≠B) (hc:g.hp i = some (.cells cs ro)):g'.hp i = some (.cells cs ro):=by
 rw[h.keep i hi hb (fun b hh => by rw[hc] at hh;cases hh)];exact hc
theorem SkAt.mono {X:Gr} {B:Nat} {ts:Nat→Tok} {g:G} {hp':Nat→Option Blk} {m:Nat} (h:SkAt X B ts g) (hk:∀ i,i < g.nx→hp' i = g.hp i) (hm:g.nx≤m):SkAt X B ts ⟨hp',m⟩:=
 ⟨⟨fun j => (h.tk.ok j).mono (fun i hi => hk i (h.tk.alive hi).2.1) hm,h.tk.ne,⟨_,(hk B h.tk.lt).trans h.cells⟩,Nat.lt_of_lt_of_le h.tk.lt hm⟩,(hk B h.tk.lt).trans h.cells⟩
theorem frz_sk (hp) {X:Gr} (ts:Nat→Tok) (h1:X.rf = []) (h2:X.co = []) (h3:X.ctrli = []) (c:Int):frz hp depth (.tup [.agg (skC X ts),.i .i64 c]) = some (.tup [.agg (grC X),.i .i64 c]):=by
 show frz hp (8 + 1) _ = _
 simp only[frz,frzL,skC,Option.map_some,grC,h1,h2,h3]
 rfl
theorem sp7_skel (A:ChF F) (D:RunF F) (h90:F 90 = some A_xref07_Skeleton) (h103:F 103 = some A_xref07_First) (h105:F 105 = some A_xref07_Lay) (h121:F 121 = some A_xref07_moved)
  {ths:List (List Ins)} {lots:List (List Int)} {L:Nat} (P:PgK ths L) (hlot:LotOk ths lots):
  pureS F 90 [.agg [.i .i64 2,.sl (thsC ths) ths.length .non],.sl (coC lots) lots.length .non] = some (.tup [.agg (grC (skX ths lots ths.length)),.i .i64 0]):=by
 refine pure_of h90 ?_
 have hck:=sp4_check A P
 have l7:∀ x:AV,List.replicate 7 x = [x,x,x,x,x,x,x]:=fun _ => rfl
 have l5:∀ x:AV,List.replicate 5 x = [x,x,x,x,x]:=fun _ => rfl
 have s8:∀ b1 b2 b3 b4 b5 b6 b7 b8 c1 c2 c3 c4 c5 c6 c7 c8:AV,splice [b1,b2,b3,b4,b5,b6,b7,b8] 0 [c1,c2,c3,c4,c5,c6,c7,c8] = [c1,c2,c3,c4,c5,c6,c7,c8]:=fun _ _ _ _ _ _ _ _ _ _ _ _ _ _ _ _ => rfl
 have s7:∀ b1 b2 b3 b4 b5 b6 b7 c1 c2 c3 c4 c5 c6 c7:AV,splice [b1,b2,b3,b4,b5,b6,b7] 0 [c1,c2,c3,c4,c5,c6,c7] = [c1,c2,c3,c4,c5,c6,c7]:=fun _ _ _ _ _ _ _ _ _ _ _ _ _ _ => rfl
 have p8:∀ c1 c2 c3 c4 c5 c6 c7 c8:AV,part [c1,c2,c3,c4,c5,c6,c7,c8] 0 (some 8) = some (.agg [c1,c2,c3,c4,c5,c6,c7,c8]):=fun _ _ _ _ _ _ _ _ => rfl
 have f2:∀ hp,frz hp depth (.agg [.i .i64 2,.sl (thsC ths) ths.length .non]) = some (.agg [.i .i64 2,.sl (thsC ths) ths.length .non]):=fun hp => by
  refine frz_d_agg ?_
  show frzL _ (7 + 1) _ = _
  simp only[frzL,frz]
 simp (disch:=omega) only[A_xref07_Skeleton,wp,qa,qb,qc,gl,l7,hck,f2,Int.reduceBNe]
 refine bindO_call (P:=fun v g' => (∃ id,v = .agg (skC sk0 (fsT id))∧g'.hp id = some (.tok true)∧11≤id∧id < g'.nx)∧11≤g'.nx∧g'.hp 0 = some (.cells [.i .i64 2,.sl (thsC ths) ths.length .non] false)∧g'.hp 1 = some (.cells [.i .i64 0,.sl [] 0 .rig,.sl [] 0 .rig,.sl [] 0 .rig,.sl [] 0 .rig,.sl [] 0 .rig,.sl [] 0 .rig,.sl [] 0 .rig] false)) ?_ ?_
 ·obtain ⟨v,g',h1,⟨id,h2,h3,h4,h5⟩,h6,h7⟩:=rp_first h103 _
  exact ⟨v,g',h1,⟨id,h2,h3,h4,h5⟩,h6,by rw[h7 0 (by dsimp only;omega)];rfl,by rw[h7 1 (by dsimp only;omega)];rfl⟩
 ·rintro v g2 ⟨⟨id,rfl,hlive,hid,hlt⟩,hx,h0,h1⟩
  rw[skC]
  simp (disch:=omega) only[wp,qa,qb,qc,gl,s8,h0,h1]
  refine blk_cut (fun e g => SnI ths lots 9 ths.length e g) ?_ ?_
  ·refine W_loop (fun q e g => ∃ i:Nat,q = ths.length - i∧SnI ths lots 9 i e g) ths.length ?_ ?_
   ·refine ⟨0,rfl,Nat.zero_le _,rfl,rfl,rfl,rfl,rfl,?_,?_,⟨fsT id,⟨fun j => ?_,fun i j hij => ?_,⟨skC (skX ths lots 0) (fsT id),?_⟩,by first | omega | (dsimp only;omega)⟩,?_⟩,by omega⟩
    ·simp (disch:=omega) only[upd_ne];exact h0
    ·simp (disch:=omega) only[upd_ne];exact h1
    ·unfold fsT
     by_cases hj:j = 0
     ·subst hj
      refine .inr ⟨id,rfl,?_,by first | omega | (dsimp only;omega)⟩
      simp (disch:=omega) only[upd_ne];exact hlive
     ·rw[if_neg hj];exact .inl rfl
    ·unfold fsT
     by_cases hi:i = 0
     ·subst hi
      rw[if_pos rfl,if_neg (fun h => hij h.symm)];exact TkNe.rig_r
     ·rw[if_neg hi];exact TkNe.rig_l
    ·simp (disch:=omega) only[upd_same];rfl
    ·simp (disch:=omega) only[upd_same];rfl
   ·rintro q e g ⟨i,rfl,hi,e1,e2,e4,e6,e7,h0,h1,⟨ts,S⟩,hB⟩
    by_cases c1:i < ths.length
    ·have c1':((i:Nat):Int) < ((ths.length:Nat):Int):=by omega
     have c2':((i:Nat):Int) < ((lots.length:Nat):Int):=by have:=hlot.len;omega
     have hth:=th_at c1
     have hlt2:=co_part (l:=lots) (k:=i) (by have:=hlot.len;omega)
     have hwi:=succ_wrap (k:=i) (by have:=P.four;omega)
     obtain ⟨inv,il,_,_⟩:=skX_inv (lots:=lots) P.th i hi
     have hdo:=rp_do D (vok A.ex) (P.th i c1) (lots.getD i []) .non (hlot.ok i c1).ln
     obtain ⟨r1,r2⟩:=doR_inv (V:=evX) (th:=ths.getD i []) (reads:=lots.getD i []) (fun k hkk => ⟨_,(P.th i c1).ins k hkk⟩)
     have hl:=(P.th i c1).len
     have hsh:=(hlot.ok i c1).sh
     have hus:=(hlot.ok i c1).us
     have hsx:skX ths lots (i + 1) = layX (skX ths lots i) (doR evX (ths.getD i []) (lots.getD i [])) ((i:Int) + 1):=rfl
     have h4:=P.four
     generalize ths.getD i [] = th at hth hdo r1 r2 hl hsh hus hsx
     generalize lots.getD i [] = lot at hlt2 hdo r1 r2 hsh hus hsx
     generalize doR evX th lot = s at hdo r1 r2 hsh hus hsx
     generalize skX ths lots i = X at inv il S hsx
     rw[hsh] at hdo
     unfold roC at hdo
     rw[hsh] at hdo
     simp only[Bool.false_eq_true,if_false,Bool.not_false] at hdo
     have c3:(((s.used:Nat):Int) != ((lot.length:Nat):Int)) = false:=by rw[hus];simp
     simp (disch:=omega) only[wp,qa,qb,qc,gl,e1,e2,e4,e6,e7,h0,c1',c2',hth,hlt2,hdo,s7,c3,l5,List.getElem?_cons_zero,List.getElem?_cons_succ,i7_0,hwi]
     have hBn:=S.tk.lt
     have hsq1:X.evs.length * X.evs.length≤98 * 98:=Nat.mul_le_mul (by omega) (by omega)
     have hsq2:s.evs.length * s.evs.length≤24 * 24:=Nat.mul_le_mul (by omega) (by omega)
     have hd1:=inv.dl
     have hd2:=inv.cl
     have hd3:=inv.rmw.len
     have hs1:=r1.b.dl
     have hs2:=r1.b.cl
     have hs3:=r1.rmw.len
     have hlay:∀ g1:G,SkAt X 9 ts g1→∃ v g',callS F 105 [.mp 9 0,.agg (rnC s),.i .i64 ((i + 1:Nat):Int)] g1 = some (v,g')∧(∃ ts',SkAt (skX ths lots (i + 1)) 9 ts' g')∧Frm1 9 g1 g':=fun g1 S1 => by
      rw[hsx,show ((i + 1:Nat):Int) = (i:Int) + 1 by omega]
      exact rp_lay h105 h121 S1 (by omega) (by omega) (by omega) (by omega) (by omega) (by omega) (by omega) (by omega) (r1.rmw.sm (by omega)) (r1.b.data.sm (by omega)) (r1.b.ctrl.sm (by omega))
     rw[rnC] at hlay
     refine bindO_call _ (hlay _ (S.mono ?_ ?_)) ?_
     ·intro i hi
      simp (disch:=omega) only[upd_ne]
     ·first | omega | (dsimp only;omega)
     rintro v g3 ⟨⟨ts3,S3⟩,fr⟩
     have h03:=fr.cells (i:=0) (by first | omega | (dsimp only;omega)) (by omega) (by simp (disch:=omega) only[upd_ne];exact h0)
     have h13:=fr.cells (i:=1) (by first | omega | (dsimp only;omega)) (by omega) (by simp (disch:=omega) only[upd_ne];exact h1)
     simp (disch:=omega) only[wp,qa,qb,qc,gl,e7,hwi]
     exact ⟨ths.length - (i + 1),by omega,i + 1,rfl,by omega,e1,e2,e4,e6,rfl,h03,h13,⟨ts3,S3.mono (fun i hi => rfl) (by first | omega | (dsimp only;omega))⟩,hB⟩
    ·have c1':¬ ((i:Nat):Int) < ((ths.length:Nat):Int):=by omega
     obtain rfl:i = ths.length:=by omega
     simp (disch:=omega) only[wp,qa,qb,qc,gl,e2,e4,e6,e7,h0,c1']
     exact ⟨Nat.le_refl _,e1,e2,e4,e6,e7,h0,h1,⟨ts,⟨fun j => (S.tk.ok j).mono (fun i hi => rfl) (by first | omega | (dsimp only;omega)),S.tk.ne,S.tk.bc,by have:=S.tk.lt;first | omega | (dsimp only;omega)⟩,S.cells⟩,hB⟩
  ·rintro e g ⟨_,e1,e2,e4,e6,e7,h0,h1,⟨ts,S⟩,hB⟩
   have hc:=S.cells
   have hlt:=S.tk.lt
   obtain ⟨inv,il,hrf,hco⟩:=skX_inv (lots:=lots) P.th ths.length (Nat.le_refl _)
   have hz:=frz_sk (fun x => none) ts hrf hco inv.ctrli 0
   rw[skC] at hc hz
   simp (disch:=omega) only[wp,qa,qb,qc,gl,e2,e4,e6,hc,h1,p8,s8]
   refine retC7 (b:=1) (ro:=false) (w:=.i .i64 0) e4 rfl (p8 ..) rfl ?_
   exact frz_sk _ ts hrf hco inv.ctrli 0
end Go.Ab
end
section
set_option linter.unusedVariables false
set_option linter.unusedSimpArgs false
namespace Go.Ab
variable {F:Funs}
theorem coC_app (l m:List (List Int)):coC (l ++ m) = coC l ++ coC m:=by simp[coC]
structure VlOk (th:List Ins) (dom:List Int) (l:List Int):Prop where
 ok:HdOk th l
 dom:∀ x∈l,x∈dom
def VsP (th:List Ins) (dom:List Int) (g:G) (v:AV) (g':G):Prop:=∃ L t,v = .sl (coC L) L.length t∧TkOk 1 g' t∧(∀ h∈L,VlOk th dom h)∧L.length≤20001∧g.nx≤g'.nx
structure VsI (th:List Ins) (dom head:List Int) (g0:G) (i:Nat) (out:List (List Int)) (t:Tok) (e:Env) (g:G):Prop where
 hi:i≤dom.length
 e0:e 0 = .sl (insLC th) th.length .non
 e1:e 1 = .sl (intsC dom) dom.length .non
 e2:∃ w,e 2 = .sl (intsC head) head.length w
 e3:e 3 = .sl (coC out) out.length t
 e11:e 11 = .i .i64 ((i:Nat):Int)
 tk:TkOk 1 g t
 ok:∀ h∈out,VlOk th dom h
 ol:out.length≤20001
 nx:g0.nx≤g.nx
theorem rp_valuesF (A:ChF F) (D:RunF F) (h101:F 101 = some A_xref13_values) {th:List Ins} (hth:ThK th) {dom:List Int} (head:List Int) (w:Tok) (out:List (List Int)) (t:Tok) (g:G)
  (hh:head.length≤100) (hu:(doR evX th head).used = head.length) (hdm:∀ x∈head,x∈dom) (tk:TkOk 1 g t) (hok:∀ h∈out,VlOk th dom h) (hol:out.length≤20000) (hsh:(doR evX th head).short = false):
  ∃ v g',callS F 101 [.sl (insLC th) th.length .non,.sl (intsC dom) dom.length .non,.sl (intsC head) head.length w,.sl (coC out) out.length t] g = some (v,g')∧VsP th dom g v g':=by
 refine raw_of h101 ?_
 have hdo:=rp_do D (vok A.ex) hth head .non (by omega)
 have hl:=hth.len
 have l5:∀ x:AV,List.replicate 5 x = [x,x,x,x,x]:=fun _ => rfl
 have s7:∀ b1 b2 b3 b4 b5 b6 b7 c1 c2 c3 c4 c5 c6 c7:AV,splice [b1,b2,b3,b4,b5,b6,b7] 0 [c1,c2,c3,c4,c5,c6,c7] = [c1,c2,c3,c4,c5,c6,c7]:=fun _ _ _ _ _ _ _ _ _ _ _ _ _ _ => rfl
 have hhd:VlOk th dom head:=⟨⟨hsh,hu,by omega⟩,hdm⟩
 have hil:(intsC head).length = head.length * 1:=by rw[intsC_len,Nat.mul_one]
 have hcl:(coC out).length = out.length * 1:=by rw[coC_len,Nat.mul_one]
 generalize doR evX th head = s at hdo hu hsh
 unfold roC at hdo
 rw[hsh] at hdo
 simp only[Bool.false_eq_true,if_false,Bool.not_false] at hdo
 have c3:(((s.used:Nat):Int) == ((head.length:Nat):Int)) = true:=by rw[hu];simp
 simp (disch:=omega) only[A_xref13_values,wp,qa,qb,qc,gl,hdo,s7,l5,c3,List.getElem?_cons_zero,List.getElem?_cons_succ]
 refine bindO_app (.inl rfl) (fun i h => by cases h) ⟨by omega,by omega,rfl,hil⟩ ?_
 intro t1 hp1 ar1
 simp (disch:=omega) only[wp,qa,qb,qc,gl]
 refine bindO_app1 (esz:=1) (tk.mono (fun i hi => ?_) (by first | omega | (dsimp only;omega))) (fun i hi => allow_no _ _ _) ⟨by omega,by omega,hcl,rfl⟩ ?_
 ·rcases tk with h | ⟨i',h,h1,h2⟩
  ·rw[h] at hi;cases hi
  ·rw[h] at hi;cases hi
   rw[ar1.keep i (by omega) (fun e h => by cases h)]
   simp (disch:=omega) only[upd_ne]
 ·intro t2 hp2 ar2 hpos
  simp (disch:=omega) only[wp,qa,qb,qc,gl]
  refine ⟨_,rfl,out ++ [head],t2,?_,ar2.ok (by first | omega | (dsimp only;omega)),fun h hm => ?_,by simp;omega,by first | omega | (dsimp only;omega)⟩
  ·show AV.sl _ _ _ = _
   rw[coC_app,List.length_append];rfl
  ·rcases List.mem_append.1 hm with hm | hm
   ·exact hok h hm
   ·obtain rfl:h = head:=by simpa using hm
    exact hhd
theorem rp_values (A:ChF F) (D:RunF F) (h101:F 101 = some A_xref13_values) {th:List Ins} (hth:ThK th) {dom:List Int} (hd:dom.length≤1000):∀ (n:Nat) (head:List Int) (w:Tok) (out:List (List Int)) (t:Tok) (g:G),
  th.length≤head.length + n→head.length≤20→(doR evX th head).used = head.length→(∀ x∈head,x∈dom)→TkOk 1 g t→(∀ h∈out,VlOk th dom h)→out.length≤20000 →
  ∃ v g',callS F 101 [.sl (insLC th) th.length .non,.sl (intsC dom) dom.length .non,.sl (intsC head) head.length w,.sl (coC out) out.length t] g = some (v,g')∧VsP th dom g v g':=by
 intro n
 induction n with
 | zero =>
   intro head w out t g hn hh hu hdm tk hok hol
   refine rp_valuesF A D h101 hth head w out t g (by omega) hu hdm tk hok hol ?_
   cases hsh:(doR evX th head).short with
   | false => rfl
   | true => have:=doR_far hsh;omega
 | succ n ih =>
   intro head w out t g hn hh hu hdm tk hok hol
   cases hsh:(doR evX th head).short with
   | false => exact rp_valuesF A D h101 hth head w out t g (by omega) hu hdm tk hok hol hsh
   | true =>
   refine raw_of h101 ?_
   have hdo:=rp_do D (vok A.ex) hth head .non (by omega)
   have hl:=hth.len
   have hfar:=doR_far hsh
   have hmore:=fun x => doR_more (V:=evX) (th:=th) (h:=head) (x:=x) hsh
   have l5:∀ x:AV,List.replicate 5 x = [x,x,x,x,x]:=fun _ => rfl
   have s7:∀ b1 b2 b3 b4 b5 b6 b7 c1 c2 c3 c4 c5 c6 c7:AV,splice [b1,b2,b3,b4,b5,b6,b7] 0 [c1,c2,c3,c4,c5,c6,c7] = [c1,c2,c3,c4,c5,c6,c7]:=fun _ _ _ _ _ _ _ _ _ _ _ _ _ _ => rfl
   have hil:(intsC head).length = head.length * 1:=by rw[intsC_len,Nat.mul_one]
   generalize doR evX th head = s at hdo hu hsh
   unfold roC at hdo
   rw[hsh] at hdo
   simp only[if_true,Bool.not_true] at hdo
   simp (disch:=omega) only[A_xref13_values,wp,qa,qb,qc,gl,hdo,s7,l5,List.getElem?_cons_zero,List.getElem?_cons_succ]
   refine blk_cut (fun e g' => ∃ i out' t',VsI th dom head g i out' t' e g') ?_ ?_
   ·refine W_loop (fun q e g' => ∃ (i:Nat) (out':List (List Int)) (t':Tok),q = dom.length - i∧VsI th dom head g i out' t' e g') dom.length ?_ ?_
    ·refine ⟨0,out,t,rfl,Nat.zero_le _,rfl,rfl,⟨w,rfl⟩,rfl,rfl,tk.mono (fun i hi => ?_) (by first | omega | (dsimp only;omega)),hok,by omega,by first | omega | (dsimp only;omega)⟩
     rcases tk with h | ⟨i',h,h1,h2⟩
     ·rw[h] at hi;cases hi
     ·rw[h] at hi;cases hi
      simp (disch:=omega) only[upd_ne]
    ·rintro q e g1 ⟨i,out1,t1,rfl,hi,e0,e1,⟨w1,e2⟩,e3,e11,tk1,hok1,hol1,hx1⟩
     by_cases c1:i < dom.length
     ·have c1':((i:Nat):Int) < ((dom.length:Nat):Int):=by omega
      by_cases c2:out1.length≤20000
      ·have c2':((out1.length:Nat):Int)≤20000:=by omega
       have hip:=ints_part c1
       have hw:=succ_wrap (k:=i) (by omega)
       have hxm:dom.getD i 0∈dom:=getD_mem c1
       generalize dom.getD i 0 = x at hip hxm
       simp (disch:=omega) only[wp,qa,qb,qc,gl,e0,e1,e2,e3,e11,c1',c2',hip]
       refine bindO_app (.inl rfl) (fun i h => by cases h) ⟨by omega,by omega,rfl,hil⟩ ?_
       intro t2 hp2 ar2
       simp (disch:=omega) only[wp,qa,qb,qc,gl,e0,e1,e2,e3,e11,hip]
       refine bindO_app (esz:=1) (ar2.ok (by first | omega | (dsimp only;omega))) ?_ ⟨by omega,by omega,hil,rfl⟩ ?_
       ·intro i2 h2
        rcases ar2.tok with h | ⟨h,_⟩
        ·rw[h] at h2;cases h2
        ·rw[h] at h2;cases h2
         exact allow_hd _ rfl
       intro t3 hp3 ar3
       simp (disch:=omega) only[wp,qa,qb,qc,gl,e0,e1,e2,e3,e11,hip]
       have ha:intsC (head ++ [x]) = intsC head ++ [.i .i64 x]:=by simp[intsC]
       have hla:(head ++ [x]).length = head.length + 1:=by simp
       have hrec:=fun g2 (tk2:TkOk 1 g2 t1) => ih (head ++ [x]) t3 out1 t1 g2 (by omega) (by omega) (by rw[hmore x,hla]) (fun y hy => by
        rcases List.mem_append.1 hy with hy | hy
        ·exact hdm y hy
        ·obtain rfl:y = x:=by simpa using hy
         exact hxm) tk2 hok1 c2
       rw[ha,hla] at hrec
       refine bindO_call _ (hrec _ (tk1.mono (fun i2 h2 => ?_) ?_)) ?_
       ·rcases tk1 with h | ⟨i',h,h1,h3⟩
        ·rw[h] at h2;cases h2
        ·rw[h] at h2;cases h2
         rw[ar3.keep i2 (by omega) (fun e h => by
          rcases ar2.tok with h4 | ⟨h4,_⟩
          ·rw[h4] at h;cases h
          ·rw[h4] at h;cases h;omega)]
         dsimp only
         rw[ar2.keep i2 (by omega) (fun e h => by cases h)]
       ·first | omega | (dsimp only;omega)
       rintro v g4 ⟨L,t4,rfl,tk4,ok4,l4,nx4⟩
       dsimp only at nx4
       simp (disch:=omega) only[wp,qa,qb,qc,gl,e11,hw]
       exact ⟨dom.length - (i + 1),by omega,i + 1,L,t4,rfl,by omega,e0,e1,⟨w1,e2⟩,rfl,rfl,tk4.mono (fun i hi => rfl) (by first | omega | (dsimp only;omega)),ok4,l4,by first | omega | (dsimp only;omega)⟩
      ·have c2':¬ ((out1.length:Nat):Int)≤20000:=by omega
       simp (disch:=omega) only[wp,qa,qb,qc,gl,e0,e1,e2,e3,e11,c1',c2']
       exact ⟨i,out1,t1,hi,e0,e1,⟨w1,e2⟩,e3,e11,tk1.mono (fun i hi => rfl) (by first | omega | (dsimp only;omega)),hok1,hol1,by first | omega | (dsimp only;omega)⟩
     ·have c1':¬ ((i:Nat):Int) < ((dom.length:Nat):Int):=by omega
      simp (disch:=omega) only[wp,qa,qb,qc,gl,e0,e1,e2,e3,e11,c1']
      exact ⟨i,out1,t1,hi,e0,e1,⟨w1,e2⟩,e3,e11,tk1.mono (fun i hi => rfl) (by first | omega | (dsimp only;omega)),hok1,hol1,by first | omega | (dsimp only;omega)⟩
   ·rintro e g1 ⟨i,out1,t1,hi,e0,e1,⟨w1,e2⟩,e3,e11,tk1,hok1,hol1,hx1⟩
    simp (disch:=omega) only[wp,qa,qb,qc,gl,e3]
    exact ⟨_,rfl,out1,t1,rfl,tk1.mono (fun i hi => rfl) (by first | omega | (dsimp only;omega)),hok1,hol1,by first | omega | (dsimp only;omega)⟩
end Go.Ab
end
section
set_option linter.unusedVariables false
set_option linter.unusedSimpArgs false
namespace Go.Ab
variable {F:Funs}
def dmS (m:List Int) (v:Int):List Int:=if v∈m then m else m ++ [v]
def domF (l:List Int):List Int:=(l.take 8).foldl dmS []
structure DmI (l:List Int) (i:Nat) (t:Tok) (e:Env) (g:G):Prop where
 hi:i≤l.length∧i≤8
 e0:e 0 = .sl (intsC l) l.length .non
 e3:e 3 = .sl (intsC ((l.take i).foldl dmS [])) ((l.take i).foldl dmS []).length t
 e4:e 4 = .i .i64 ((i:Nat):Int)
 tk:TkOk 1 g t
 hl:((l.take i).foldl dmS []).length≤i
structure DmJ (l m:List Int) (v:Int) (i k:Nat) (t:Tok) (e:Env) (g:G):Prop where
 hk:k≤m.length
 e0:e 0 = .sl (intsC l) l.length .non
 e3:e 3 = .sl (intsC m) m.length t
 e4:e 4 = .i .i64 ((i:Nat):Int)
 e5:e 5 = .b (decide (v∈m.take k))
 e6:e 6 = .i .i64 ((k:Nat):Int)
 tk:TkOk 1 g t
theorem domF_end {l:List Int} {i:Nat} (h:i≤l.length∧i≤8) (he:i = l.length∨i = 8):(l.take i).foldl dmS [] = domF l:=by
 unfold domF
 congr 1
 rcases he with rfl | rfl
 ·rw[List.take_length,List.take_of_length_le h.2]
 ·rfl
theorem sp13_domain (h102:F 102 = some A_xref13_Domain) (l:List Int) (hl:l.length≤1000000):pureS F 102 [.sl (intsC l) l.length .non] = some (.sl (intsC (domF l)) (domF l).length .non):=by
 refine pure_of h102 ?_
 simp (disch:=omega) only[A_xref13_Domain,wp,qa,qb,qc]
 refine blk_cut (fun e g => ∃ t,e 3 = .sl (intsC (domF l)) (domF l).length t) ?_ ?_
 ·refine W_loop (fun q e g => ∃ (i:Nat) (t:Tok),q = l.length - i∧DmI l i t e g) l.length ?_ ?_
  ·exact ⟨0,.rig,rfl,⟨Nat.zero_le _,by omega⟩,rfl,rfl,rfl,.inl rfl,Nat.le_refl _⟩
  ·rintro q e g ⟨i,t,rfl,hi,e0,e3,e4,tk,hml⟩
   by_cases c1:i < l.length
   ·have c1':((i:Nat):Int) < ((l.length:Nat):Int):=by omega
    by_cases c8:i < 8
    ·have c8':((i:Nat):Int) < 8:=by omega
     have hip:=ints_part c1
     have hwi:=succ_wrap (k:=i) (by omega)
     have hnx:=foldl_take (f:=dmS) (b:=[]) (d:=(0:Int)) c1
     generalize l.getD i 0 = v at hip hnx
     generalize (l.take i).foldl dmS [] = m at e3 hml hnx
     simp (disch:=omega) only[wp,qa,qb,qc,e0,e3,e4,c1',c8']
     refine blk_cut (fun e g => DmJ l m v i m.length t e g) ?_ ?_
     ·refine W_loop (fun q e g => ∃ k:Nat,q = m.length - k∧DmJ l m v i k t e g) m.length ?_ ?_
      ·exact ⟨0,rfl,Nat.zero_le _,e0,e3,e4,by simp;rfl,rfl,tk.mono (fun i hi => rfl) (by first | omega | (dsimp only;omega))⟩
      ·rintro q e g ⟨k,rfl,hk,e0,e3,e4,e5,e6,tk⟩
       by_cases c2:k < m.length
       ·have c2':((k:Nat):Int) < ((m.length:Nat):Int):=by omega
        have hkp:=ints_part c2
        have hwk:=succ_wrap (k:=k) (by omega)
        have hmem:decide (v∈m.take (k + 1)) = (decide (v∈m.take k) || (m.getD k 0 == v)):=by
         rw[take_getD c2]
         generalize m.getD k 0 = y
         by_cases h1:v∈m.take k
         ·rw[decide_eq_true h1,decide_eq_true (List.mem_append_left _ h1)];rfl
         ·by_cases h2:y = v
          ·subst h2
           rw[decide_eq_true (List.mem_append_right _ (List.mem_singleton.2 rfl))];simp
          ·rw[decide_eq_false h1,decide_eq_false (fun h => by
            rcases List.mem_append.1 h with h | h
            ·exact h1 h
            ·exact h2 (List.mem_singleton.1 h).symm)]
           simp[h2]
        generalize m.getD k 0 = y at hkp hmem
        cases hb:decide (v∈m.take k) with
        | true =>
          rw[hb] at e5 hmem
          simp (disch:=omega) only[wp,qa,qb,qc,e0,e3,e4,e5,e6,c2',hwk]
          exact ⟨m.length - (k + 1),by omega,k + 1,rfl,by omega,e0,e3,e4,by rw[hmem];rfl,rfl,tk.mono (fun i hi => rfl) (by first | omega | (dsimp only;omega))⟩
        | false =>
          rw[hb] at e5 hmem
          simp (disch:=omega) only[wp,qa,qb,qc,e0,e3,e4,e5,e6,c2',hwk,hkp,hip,allow_lt]
          exact ⟨m.length - (k + 1),by omega,k + 1,rfl,by omega,e0,e3,e4,by rw[hmem];rfl,rfl,tk.mono (fun i hi => rfl) (by first | omega | (dsimp only;omega))⟩
       ·have c2':¬ ((k:Nat):Int) < ((m.length:Nat):Int):=by omega
        obtain rfl:k = m.length:=by omega
        simp (disch:=omega) only[wp,qa,qb,qc,e0,e3,e4,e5,e6,c2']
        exact ⟨Nat.le_refl _,e0,e3,e4,e5,e6,tk.mono (fun i hi => rfl) (by first | omega | (dsimp only;omega))⟩
     ·rintro e g ⟨hk,e0,e3,e4,e5,e6,tk⟩
      rw[List.take_length] at e5
      by_cases c3:v∈m
      ·have hd:dmS m v = m:=if_pos c3
       rw[hd] at hnx
       simp only[c3,decide_true] at e5
       simp (disch:=omega) only[wp,qa,qb,qc,e0,e3,e4,e5,hwi]
       exact ⟨l.length - (i + 1),by omega,i + 1,t,rfl,⟨by omega,by omega⟩,e0,by rw[hnx];exact e3,rfl,tk.mono (fun i hi => rfl) (by first | omega | (dsimp only;omega)),by rw[hnx];omega⟩
      ·have hd:dmS m v = m ++ [v]:=if_neg c3
       rw[hd] at hnx
       simp only[c3,decide_false] at e5
       have hil:(intsC m).length = m.length * 1:=by rw[intsC_len,Nat.mul_one]
       simp (disch:=omega) only[wp,qa,qb,qc,e0,e3,e4,e5,hip]
       refine bindO_app (esz:=1) (tk.mono (fun i hi => rfl) (by first | omega | (dsimp only;omega))) (fun i hi => allow_no _ _ _) ⟨by omega,by omega,hil,rfl⟩ ?_
       intro t2 hp2 ar2
       simp (disch:=omega) only[wp,qa,qb,qc,e4,hwi]
       refine ⟨l.length - (i + 1),by omega,i + 1,t2,rfl,⟨by omega,by omega⟩,e0,?_,rfl,ar2.ok (by first | omega | (dsimp only;omega)),by rw[hnx];simp;omega⟩
       rw[hnx,List.length_append]
       show AV.sl _ _ _ = _
       simp[intsC]
    ·have c8':¬ ((i:Nat):Int) < 8:=by omega
     have hd:=domF_end hi (.inr (by omega))
     rw[hd] at e3
     simp (disch:=omega) only[wp,qa,qb,qc,e0,e3,e4,c1',c8']
     exact ⟨t,rfl⟩
   ·have c1':¬ ((i:Nat):Int) < ((l.length:Nat):Int):=by omega
    have hd:=domF_end hi (.inl (by omega))
    rw[hd] at e3
    simp (disch:=omega) only[wp,qa,qb,qc,e0,e3,e4,c1']
    exact ⟨t,rfl⟩
 ·rintro e g ⟨t,e3⟩
  simp (disch:=omega) only[wp,qa,qb,qc,e3]
theorem dmS_len (m:List Int) (v:Int):(dmS m v).length≤m.length + 1:=by
 unfold dmS;split<;>simp
theorem domF_len (l:List Int):(domF l).length≤8:=by
 unfold domF
 have key:∀ (l m:List Int),(l.foldl dmS m).length≤m.length + l.length:=by
  intro l
  induction l with
  | nil => intro m;exact Nat.le_refl _
  | cons v l ih =>
    intro m
    have:=ih (dmS m v)
    have:=dmS_len m v
    simp only[List.foldl_cons,List.length_cons]
    omega
 have:=key (l.take 8) []
 rw[List.length_take,List.length_nil] at this
 omega
theorem sp13_values (A:ChF F) (D:RunF F) (h88:F 88 = some A_xref13_Values) (h101:F 101 = some A_xref13_values) (h102:F 102 = some A_xref13_Domain) {th:List Ins} (hth:ThK th) (dom:List Int) (hd:dom.length≤1000000):
  ∃ L:List (List Int),pureS F 88 [.sl (insLC th) th.length .non,.sl (intsC dom) dom.length .non] = some (.sl (coC L) L.length .non)∧(∀ h∈L,VlOk th (domF dom) h)∧L.length≤20001:=by
 have key:∃ v,pureS F 88 [.sl (insLC th) th.length .non,.sl (intsC dom) dom.length .non] = some v∧∃ L:List (List Int),v = .sl (coC L) L.length .non∧(∀ h∈L,VlOk th (domF dom) h)∧L.length≤20001:=by
  refine pureV_of h88 ?_
  have hdm:=sp13_domain h102 dom hd
  have hdl:=domF_len dom
  have hlen:=hth.len
  have hval:=rp_values A D h101 hth (dom:=domF dom) (by omega) th.length [] .rig [] .rig
  simp (disch:=omega) only[A_xref13_Values,wp,qa,qb,qc,gl,hdm]
  refine bindO_call _ (hval _ (by simp) (by simp) ?_ (fun x hx => absurd hx (List.not_mem_nil)) (.inl rfl) (fun x hx => absurd hx (List.not_mem_nil)) (by simp)) ?_
  ·have:=(runR_used evX [] th th.length 0 rs0).2.2 (Nat.le_refl 0)
   show (runR evX [] th th.length 0 rs0).used = 0
   simpa using this
  ·rintro v g' ⟨L,t,rfl,tk,ok,hL,nx⟩
   simp (disch:=omega) only[wp,qa,qb,qc,gl]
   refine ⟨_,?_,L,rfl,ok,hL⟩
   simp (disch:=omega) only[wp,qa,qb,qc]
 obtain ⟨v,h1,L,rfl,h2,h3⟩:=key
 exact ⟨L,h1,h2,h3⟩
end Go.Ab
end
section
set_option linter.unusedVariables false
set_option linter.unusedSimpArgs false
namespace Go.Ab
variable {F:Funs}
def ccC (l:List (List (List Int))):List AV:=l.map fun c => .sl (coC c) c.length .non
theorem ccC_len (l:List (List (List Int))):(ccC l).length = l.length:=by simp[ccC]
theorem ccC_app (l m:List (List (List Int))):ccC (l ++ m) = ccC l ++ ccC m:=by simp[ccC]
theorem cc_part {l:List (List (List Int))} {k:Nat} (h:k < l.length):part ((ccC l).drop (k * 1)) 0 none = some (.sl (coC (l.getD k [])) (l.getD k []).length .non):=by
 simp only[part,Nat.mul_one,ccC]
 rw[List.getElem?_drop,Nat.add_zero,List.getElem?_map,List.getD_eq_getElem?_getD,List.getElem?_eq_getElem h]
 rfl
structure LtOk (all:List (List (List Int))) (i:Nat) (lot:List (List Int)):Prop where
 len:lot.length = i
 mem:∀ j,j < i→lot.getD j []∈all.getD j []
theorem LtOk.snoc {all:List (List (List Int))} {i:Nat} {lot:List (List Int)} {h:List Int} (k:LtOk all i lot) (hm:h∈all.getD i []):LtOk all (i + 1) (lot ++ [h]):=by
 refine ⟨by simp[k.len],fun j hj => ?_⟩
 by_cases hji:j = i
 ·subst hji
  have hl:=k.len
  have:(lot ++ [h]).getD j [] = h:=by rw[List.getD_eq_getElem?_getD,List.getElem?_append_right (by omega),hl,Nat.sub_self];rfl
  rw[this];exact hm
 ·have hl:=k.len
  have:(lot ++ [h]).getD j [] = lot.getD j []:=by rw[List.getD_eq_getElem?_getD,List.getElem?_append_left (by omega),←List.getD_eq_getElem?_getD]
  rw[this];exact k.mem j (by omega)
structure LoI (all:List (List (List Int))) (i:Nat) (ls:List (List (List Int))) (e:Env) (g:G):Prop where
 hi:i≤all.length
 e0:e 0 = .sl (ccC all) all.length .non
 e3:∃ w,e 3 = .sl (ccC ls) ls.length w
 e4:e 4 = .i .i64 ((i:Nat):Int)
 ok:∀ lot∈ls,LtOk all i lot
 ll:ls.length≤200001
structure LoM (all ls m:List (List (List Int))) (i:Nat) (t:Tok) (e:Env) (g:G):Prop where
 e0:e 0 = .sl (ccC all) all.length .non
 e3:∃ w,e 3 = .sl (ccC ls) ls.length w
 e4:e 4 = .i .i64 ((i:Nat):Int)
 e5:e 5 = .sl (ccC m) m.length t
 tk:TkOk 1 g t
 ok:∀ lot∈m,LtOk all (i + 1) lot
 ml:m.length≤200001
theorem LoM.mv {all ls m:List (List (List Int))} {i:Nat} {t:Tok} {e e':Env} {g:G} {n:Nat} (h:LoM all ls m i t e g) (h0:e' 0 = e 0) (h3:e' 3 = e 3) (h4:e' 4 = e 4) (h5:e' 5 = e 5) (hn:g.nx≤n):LoM all ls m i t e' ⟨g.hp,n⟩:=
 ⟨h0.trans h.e0,by rw[h3];exact h.e3,h4.trans h.e4,h5.trans h.e5,h.tk.mono (fun i hi => rfl) hn,h.ok,h.ml⟩
theorem sp13_lots (h89:F 89 = some A_xref13_Lots) (all:List (List (List Int))) (hall:all.length≤1000) (hL:∀ L∈all,L.length≤1000000):
  ∃ ls:List (List (List Int)),pureS F 89 [.sl (ccC all) all.length .non] = some (.sl (ccC ls) ls.length .non)∧(∀ lot∈ls,LtOk all all.length lot)∧ls.length≤200001:=by
 have key:∃ v,pureS F 89 [.sl (ccC all) all.length .non] = some v∧∃ ls:List (List (List Int)),v = .sl (ccC ls) ls.length .non∧(∀ lot∈ls,LtOk all all.length lot)∧ls.length≤200001:=by
  refine pureV_of h89 ?_
  simp (disch:=omega) only[A_xref13_Lots,wp,qa,qb,qc,gl]
  refine blk_cut (fun e g => ∃ ls,LoI all all.length ls e g) ?_ ?_
  ·refine W_loop (fun q e g => ∃ (i:Nat) (ls:List (List (List Int))),q = all.length - i∧LoI all i ls e g) all.length ?_ ?_
   ·exact ⟨0,[[]],rfl,Nat.zero_le _,rfl,⟨_,rfl⟩,rfl,fun lot hl => by
     obtain rfl:lot = []:=by simpa using hl
     exact ⟨rfl,fun j hj => absurd hj (Nat.not_lt_zero j)⟩,by simp⟩
   ·rintro q e g ⟨i,ls,rfl,hi,e0,⟨w,e3⟩,e4,ok,ll⟩
    by_cases c1:i < all.length
    ·have c1':((i:Nat):Int) < ((all.length:Nat):Int):=by omega
     have hwi:=succ_wrap (k:=i) (by omega)
     have hai:=cc_part c1
     have hLi:(all.getD i []).length≤1000000:=hL _ (getD_mem c1)
     simp (disch:=omega) only[wp,qa,qb,qc,e0,e3,e4,c1']
     refine blk_cut (fun e g => ∃ m t,LoM all ls m i t e g) ?_ ?_
     ·refine W_loop (fun q e g => ∃ (k:Nat) (m:List (List (List Int))) (t:Tok),q = ls.length - k∧k≤ls.length∧LoM all ls m i t e g∧e 6 = .i .i64 ((k:Nat):Int)) ls.length ?_ ?_
      ·refine ⟨0,[],.rig,rfl,Nat.zero_le _,⟨e0,⟨w,e3⟩,e4,rfl,.inl rfl,fun x hx => absurd hx (List.not_mem_nil),by simp⟩,rfl⟩
      ·rintro q e g ⟨k,m,t,rfl,hk,I,e6⟩
       have e0:=I.e0
       obtain ⟨w,e3⟩:=I.e3
       have e4:=I.e4
       by_cases c2:k < ls.length
       ·have c2':((k:Nat):Int) < ((ls.length:Nat):Int):=by omega
        have hwk:=succ_wrap (k:=k) (by omega)
        have hlk:=cc_part c2
        have hlot:=ok _ (getD_mem (d:=[]) c2)
        generalize ls.getD k [] = lot at hlk hlot
        have hll:=hlot.len
        have hcl:(coC lot).length = lot.length * 1:=by rw[coC_len,Nat.mul_one]
        simp (disch:=omega) only[wp,qa,qb,qc,e0,e3,e4,e6,c2']
        refine blk_end (fun e g => (∃ m t,LoM all ls m i t e g)∧e 6 = .i .i64 ((k:Nat):Int)) ?_ ?_
        ·refine W_loop (fun q e g => ∃ (j:Nat) (m:List (List (List Int))) (t:Tok),q = (all.getD i []).length - j∧j≤(all.getD i []).length∧LoM all ls m i t e g∧e 6 = .i .i64 ((k:Nat):Int)∧e 7 = .i .i64 ((j:Nat):Int)) (all.getD i []).length ?_ ?_
         ·exact ⟨0,m,t,rfl,Nat.zero_le _,I.mv rfl rfl rfl rfl (by first | omega | (dsimp only;omega)),e6,rfl⟩
         ·rintro q e g ⟨j,m,t,rfl,hj,I,e6,e7⟩
          have e0:=I.e0
          obtain ⟨w,e3⟩:=I.e3
          have e4:=I.e4
          have e5:=I.e5
          have tk:=I.tk
          by_cases c3:j < (all.getD i []).length
          ·have c3':((j:Nat):Int) < (((all.getD i []).length:Nat):Int):=by omega
           by_cases c4:m.length≤200000
           ·have c4':((m.length:Nat):Int)≤200000:=by omega
            have hwj:=succ_wrap (k:=j) (by omega)
            have hjp:=co_part c3
            have hmem:(all.getD i []).getD j []∈all.getD i []:=getD_mem c3
            have hcm:(ccC m).length = m.length * 1:=by rw[ccC_len,Nat.mul_one]
            generalize hA:all.getD i [] = A at hai hjp hmem c3 c3' hj hLi
            generalize A.getD j [] = hd at hjp hmem
            simp (disch:=omega) only[wp,qa,qb,qc,e0,e3,e4,e5,e6,e7,c3',c4',hai,hlk]
            refine bindO_app (.inl rfl) (fun i h => by cases h) ⟨by omega,by omega,rfl,hcl⟩ ?_
            intro t1 hp1 ar1
            simp (disch:=omega) only[wp,qa,qb,qc,e0,e3,e4,e5,e6,e7,hai,hjp]
            refine bindO_app (esz:=1) (ar1.ok (by first | omega | (dsimp only;omega))) ?_ ⟨by omega,by omega,hcl,rfl⟩ ?_
            ·intro i2 h2
             rcases ar1.tok with h | ⟨h,_⟩
             ·rw[h] at h2;cases h2
             ·rw[h] at h2;cases h2
              exact allow_hd _ rfl
            intro t2 hp2 ar2
            simp (disch:=omega) only[wp,qa,qb,qc,e0,e3,e4,e5,e6,e7]
            have live:∀ i2,t = .own i2 1→i2 < g.nx∧hp2 i2 = g.hp i2:=fun i2 h2 => by
             rcases tk with h | ⟨i',h,h1,h3⟩
             ·rw[h] at h2;cases h2
             ·rw[h] at h2;cases h2
              refine ⟨h3,?_⟩
              rw[ar2.keep i2 (by omega) (fun e h => by
               rcases ar1.tok with h4 | ⟨h4,_⟩
               ·rw[h4] at h;cases h
               ·rw[h4] at h;cases h;omega)]
              dsimp only
              rw[ar1.keep i2 (by omega) (fun e h => by cases h)]
            refine bindO_app (esz:=1) (tk.mono (fun i2 h2 => (live i2 h2).2) (by first | omega | (dsimp only;omega))) (fun i2 h2 => allow_lt _ (by have:=(live i2 h2).1;first | omega | (dsimp only;omega))) ⟨by omega,by omega,hcm,rfl⟩ ?_
            intro t3 hp3 ar3
            simp (disch:=omega) only[wp,qa,qb,qc,e6,e7,hwj]
            refine ⟨A.length - (j + 1),by omega,j + 1,m ++ [lot ++ [hd]],t3,rfl,by omega,⟨e0,⟨w,e3⟩,e4,?_,ar3.ok (by first | omega | (dsimp only;omega)),fun x hx => ?_,by simp;omega⟩,rfl⟩
            ·show AV.sl _ _ _ = _
             rw[ccC_app,List.length_append]
             simp[ccC,coC_app,coC]
            ·rcases List.mem_append.1 hx with hx | hx
             ·exact I.ok x hx
             ·obtain rfl:x = lot ++ [hd]:=by simpa using hx
              exact hlot.snoc (by rw[hA];exact hmem)
           ·have c4':¬ ((m.length:Nat):Int)≤200000:=by omega
            simp (disch:=omega) only[wp,qa,qb,qc,e0,e3,e4,e5,e6,e7,c3',c4',hai]
            exact ⟨m,t,I.mv rfl rfl rfl rfl (by first | omega | (dsimp only;omega))⟩
          ·have c3':¬ ((j:Nat):Int) < (((all.getD i []).length:Nat):Int):=by omega
           simp (disch:=omega) only[wp,qa,qb,qc,e0,e3,e4,e5,e6,e7,c3',hai]
           exact ⟨m,t,I.mv rfl rfl rfl rfl (by first | omega | (dsimp only;omega))⟩
        ·rintro e g ⟨⟨m,t,I⟩,e6⟩
         simp (disch:=omega) only[wp,qa,qb,qc,e6,hwk]
         exact ⟨ls.length - (k + 1),by omega,k + 1,m,t,rfl,by omega,I.mv rfl rfl rfl rfl (by first | omega | (dsimp only;omega)),rfl⟩
       ·have c2':¬ ((k:Nat):Int) < ((ls.length:Nat):Int):=by omega
        simp (disch:=omega) only[wp,qa,qb,qc,e0,e3,e4,e6,c2']
        exact ⟨m,t,I.mv rfl rfl rfl rfl (by first | omega | (dsimp only;omega))⟩
     ·rintro e g ⟨m,t,I⟩
      have e4:=I.e4
      have e5:=I.e5
      simp (disch:=omega) only[wp,qa,qb,qc,e4,e5,hwi]
      exact ⟨all.length - (i + 1),by omega,i + 1,m,rfl,by omega,I.e0,⟨t,rfl⟩,rfl,I.ok,I.ml⟩
    ·have c1':¬ ((i:Nat):Int) < ((all.length:Nat):Int):=by omega
     obtain rfl:i = all.length:=by omega
     simp (disch:=omega) only[wp,qa,qb,qc,e0,e3,e4,c1']
     exact ⟨ls,hi,e0,⟨w,e3⟩,e4,ok,ll⟩
  ·rintro e g ⟨ls,hi,e0,⟨w,e3⟩,e4,ok,ll⟩
   simp (disch:=omega) only[wp,qa,qb,qc,e3]
   refine ⟨_,?_,ls,rfl,ok,ll⟩
   simp (disch:=omega) only[wp,qa,qb,qc]
 obtain ⟨v,h1,ls,rfl,h2,h3⟩:=key
 exact ⟨ls,h1,h2,h3⟩
end Go.Ab
end
section
set_option linter.unusedVariables false
set_option linter.unusedSimpArgs false
namespace Go.Ab
variable {F:Funs}
theorem vApp_src {al:Nat→Bool} {id esz bytes b off m:Nat} {x:AV} {g:G} {ds ds':List AV} {ro:Bool} (ha:al b = true) (hb:g.hp b = some (.cells ds ro)) (hf:frzL (fun _ => none) depth ((ds.drop off).take (m * esz)) = some ds'):
  vApp al id esz bytes x (.ms b off m) g = vApp al id esz bytes x (.sl ds' m .non) g:=by
 cases x<;>first | rfl | skip
 unfold vApp vSrc
 simp only[rd_S,ha,selB_true,hb,hf]
def gfC (X:Gr) (R C:Nat):List AV:=[.i .i64 X.locs,.sl (evsC X.evs) X.evs.length .non,.ms R 0 X.evs.length,.ms C 0 2,.sl (pairsC X.rmw) X.rmw.length .non,.sl (pairsC X.data) X.data.length .non,.sl (pairsC X.ctrl) X.ctrl.length .non,.sl (pairsC X.ctrli) X.ctrli.length .non]
def putX (X:Gr) (rf:List Int) (co:List (List Int)):Gr:={ X with rf:=rf,co:=co }
def gcC (X:Gr) (rf:List Int) (co:List (List Int)) (t1 t2:Tok):List AV:=[.i .i64 X.locs,.sl (evsC X.evs) X.evs.length .non,.sl (intsC rf) rf.length t1,.sl (coC co) co.length t2,.sl (pairsC X.rmw) X.rmw.length .non,.sl (pairsC X.data) X.data.length .non,.sl (pairsC X.ctrl) X.ctrl.length .non,.sl (pairsC X.ctrli) X.ctrli.length .non]
theorem frzL_ints' (hp:Nat→Option Blk) (l:List Int):frzL hp depth (intsC l) = some (intsC l):=frzL_ints hp 8 l
structure CpI (X:Gr) (rf:List Int) (cs:List (List Int)) (R C B1 B2 B3:Nat) (g0:G) (i:Nat) (t1 t:Tok) (e:Env) (g:G):Prop where
 hi:i≤2
 e1:e 1 = .mp B1 0
 e2:e 2 = .mp B2 0
 e3:e 3 = .mp B3 0
 e4:e 4 = .i .i64 ((i:Nat):Int)
 h1:g.hp B1 = some (.cells (gfC X R C) false)
 h2:g.hp B2 = some (.cells [.i .i64 0,.sl [] 0 .rig,.sl [] 0 .rig,.sl [] 0 .rig,.sl [] 0 .rig,.sl [] 0 .rig,.sl [] 0 .rig,.sl [] 0 .rig] false)
 h3:g.hp B3 = some (.cells (gcC X rf (cs.take i) t1 t) false)
 tk:TkOk 1 g t
 told:∀ j,t = .own j 1→g0.nx≤j
 bs:g0.nx≤B1∧g0.nx≤B2∧g0.nx≤B3∧B1 < g.nx∧B2 < g.nx∧B3 < g.nx∧B1≠B3∧B2≠B3
 nx:g0.nx≤g.nx
 st:∀ j,j < g0.nx→g.hp j = g0.hp j
 fresh:∀ j,g.nx≤j→g.hp j = none
theorem rp_copied (h131:F 131 = some A_xref13_copied) {X:Gr} {rf c0 c1:List Int} {R C:Nat} {t0 t1:Tok} {g:G} (hr:g.hp R = some (.cells (intsC rf) false)) (hc:g.hp C = some (.cells [.sl (intsC c0) c0.length t0,.sl (intsC c1) c1.length t1] false))
  (hrl:rf.length = X.evs.length) (hR:R < g.nx) (hC:C < g.nx) (hn:X.evs.length≤1000) (hc0:c0.length≤1000) (hc1:c1.length≤1000) (hfr:∀ i,g.nx≤i→g.hp i = none):
  ∃ v g',callS F 131 [.agg (gfC X R C)] g = some (v,g')∧(∃ t1 t2,v = .agg (gcC X rf [c0,c1] t1 t2))∧g.nx≤g'.nx∧(∀ i,i < g.nx→g'.hp i = g.hp i)∧∀ i,g'.nx≤i→g'.hp i = none:=by
 refine raw_of (P:=fun v g' => (∃ t1 t2,v = .agg (gcC X rf [c0,c1] t1 t2))∧g.nx≤g'.nx∧(∀ i,i < g.nx→g'.hp i = g.hp i)∧∀ i,g'.nx≤i→g'.hp i = none) h131 ?_
 have l7:∀ x:AV,List.replicate 7 x = [x,x,x,x,x,x,x]:=fun _ => rfl
 have s8:∀ b1 b2 b3 b4 b5 b6 b7 b8 c1 c2 c3 c4 c5 c6 c7 c8:AV,splice [b1,b2,b3,b4,b5,b6,b7,b8] 0 [c1,c2,c3,c4,c5,c6,c7,c8] = [c1,c2,c3,c4,c5,c6,c7,c8]:=fun _ _ _ _ _ _ _ _ _ _ _ _ _ _ _ _ => rfl
 have p8:∀ c1 c2 c3 c4 c5 c6 c7 c8:AV,part [c1,c2,c3,c4,c5,c6,c7,c8] 0 (some 8) = some (.agg [c1,c2,c3,c4,c5,c6,c7,c8]):=fun _ _ _ _ _ _ _ _ => rfl
 rw[gfC]
 simp (disch:=omega) only[A_xref13_copied,wp,qa,qb,qc,gl,l7,s8,p8]
 rw[vApp_src (ds:=intsC rf) (ds':=intsC rf) (ro:=false) (allow_no _ _ _) (by simp (disch:=omega) only[upd_ne];exact hr) (by rw[List.drop_zero,intsC_all hrl];exact frzL_ints' _ _)]
 refine bindO_app (.inl rfl) (fun i h => by cases h) ⟨by omega,by omega,rfl,by rw[intsC_len,hrl,Nat.mul_one]⟩ ?_
 intro tr hpr arr
 have kp:∀ i,i < g.nx + 2 + 3→hpr i = _:=fun i hi => arr.keep i (by omega) (fun e h => by cases h)
 dsimp only at kp
 have h1:hpr g.nx = some (.cells (gfC X R C) false):=by rw[kp _ (by omega)];simp (disch:=omega) only[upd_ne,upd_same];rfl
 have h2:hpr (g.nx + 1) = some (.cells [.i .i64 0,.sl [] 0 .rig,.sl [] 0 .rig,.sl [] 0 .rig,.sl [] 0 .rig,.sl [] 0 .rig,.sl [] 0 .rig,.sl [] 0 .rig] false):=by rw[kp _ (by omega)];simp (disch:=omega) only[upd_ne,upd_same]
 have h3:hpr (g.nx + 2 + 1) = some (.cells [.i .i64 X.locs,.sl (evsC X.evs) X.evs.length .non,.ms R 0 X.evs.length,.ms C 0 2,.sl (pairsC X.rmw) X.rmw.length .non,.sl (pairsC X.data) X.data.length .non,.sl (pairsC X.ctrl) X.ctrl.length .non,.sl (pairsC X.ctrli) X.ctrli.length .non] false):=by rw[kp _ (by omega)];simp (disch:=omega) only[upd_ne,upd_same]
 have hold:∀ i,i < g.nx→hpr i = g.hp i:=fun i hi => by rw[kp _ (by omega)];simp (disch:=omega) only[upd_ne]
 have hfr2:∀ i,g.nx + 2 + 3 + 5≤i→hpr i = none:=fun i hi => by
  rw[arr.keep i (by omega) (fun e h => by cases h)]
  simp (disch:=omega) only[upd_ne]
  exact hfr i (by omega)
 clear kp
 simp (disch:=omega) only[wp,qa,qb,qc,gl,h1,h2,h3]
 refine blk_cut (fun e g' => ∃ t1 t,CpI X rf [c0,c1] R C g.nx (g.nx + 1) (g.nx + 2 + 1) g 2 t1 t e g') ?_ ?_
 ·refine W_loop (fun q e g' => ∃ (i:Nat) (t1 t:Tok),q = 2 - i∧CpI X rf [c0,c1] R C g.nx (g.nx + 1) (g.nx + 2 + 1) g i t1 t e g') 2 ?_ ?_
  ·refine ⟨0,tr,.rig,rfl,by omega,rfl,rfl,rfl,rfl,?_,?_,?_,.inl rfl,(fun j h => by cases h),⟨by omega,by omega,by omega,by first | omega | (dsimp only;omega),by first | omega | (dsimp only;omega),by first | omega | (dsimp only;omega),by omega,by omega⟩,by first | omega | (dsimp only;omega),fun j hj => ?_,fun j hj => ?_⟩
   ·simp (disch:=omega) only[upd_ne];exact h1
   ·simp (disch:=omega) only[upd_ne];exact h2
   ·simp (disch:=omega) only[upd_same]
    simp[gcC,coC,hrl]
   ·simp (disch:=omega) only[upd_ne];exact hold j hj
   ·try dsimp only at hj
    simp (disch:=omega) only[upd_ne];exact hfr2 j (by omega)
  ·rintro q e g1 ⟨i,tt,t,rfl,hi,e1,e2,e3,e4,h1,h2,h3,tk,told,⟨b1,b2,b3,b4,b5,b6,b7,b8⟩,hx,st,fresh⟩
   by_cases d1:i < 2
   ·have d1':((i:Nat):Int) < ((2:Nat):Int):=by omega
    have hwi:=succ_wrap (k:=i) (by omega)
    have hC1:g1.hp C = some (.cells [.sl (intsC c0) c0.length t0,.sl (intsC c1) c1.length t1] false):=(st C hC).trans hc
    have hpt:∃ tw,part [AV.sl (intsC c0) c0.length t0,AV.sl (intsC c1) c1.length t1] (i * 1) none = some (.sl (intsC (([c0,c1]:List (List Int)).getD i [])) (([c0,c1]:List (List Int)).getD i []).length tw)∧(([c0,c1]:List (List Int)).getD i []).length≤1000∧([c0,c1]:List (List Int)).take (i + 1) = ([c0,c1]:List (List Int)).take i ++ [([c0,c1]:List (List Int)).getD i []]:=by
     have:i = 0∨i = 1:=by omega
     rcases this with rfl | rfl
     ·exact ⟨t0,rfl,hc0,rfl⟩
     ·exact ⟨t1,rfl,hc1,rfl⟩
    obtain ⟨tw,hpt,hcl,hnx⟩:=hpt
    have htl:(([c0,c1]:List (List Int)).take i).length≤2:=by rw[List.length_take];simp;omega
    generalize ([c0,c1]:List (List Int)).getD i [] = ci at hpt hcl hnx
    generalize hpre:([c0,c1]:List (List Int)).take i = pre at h3 htl hnx
    have hil:(intsC ci).length = ci.length * 1:=by rw[intsC_len,Nat.mul_one]
    have hpl:(coC pre).length = pre.length * 1:=by rw[coC_len,Nat.mul_one]
    have h10:=h1
    rw[gfC] at h1
    rw[gcC] at h3
    simp (disch:=omega) only[wp,qa,qb,qc,gl,e1,e2,e3,e4,h1,h3,d1',hC1,hpt]
    refine bindO_app (.inl rfl) (fun i h => by cases h) ⟨by omega,by omega,rfl,hil⟩ ?_
    intro ta hpa ara
    simp (disch:=omega) only[wp,qa,qb,qc,gl,e1,e2,e3,e4]
    have live:∀ i2,t = .own i2 1→i2 < g1.nx∧g.nx≤i2∧hpa i2 = g1.hp i2∧g1.hp i2 = some (.tok true):=fun i2 h2' => by
     rcases tk with h | ⟨i',h,h1',h3'⟩
     ·rw[h] at h2';cases h2'
     ·rw[h] at h2';cases h2'
      exact ⟨h3',told _ h,by rw[ara.keep i2 (by omega) (fun e h => by cases h)],h1'⟩
    refine bindO_app1 (esz:=1) (tk.mono (fun i2 h2 => (live i2 h2).2.2.1) (by first | omega | (dsimp only;omega))) (fun i2 h2 => allow_lt _ (by have:=(live i2 h2).1;first | omega | (dsimp only;omega))) ⟨by omega,by omega,hpl,rfl⟩ ?_
    intro tb hpb arb hpos
    obtain ⟨rfl,hlv⟩:=hpos (by omega)
    have kp:∀ i2 cs ro,i2 < g1.nx→g1.hp i2 = some (.cells cs ro)→hpb i2 = some (.cells cs ro):=fun i2 cs ro hi2 hh => by
     rw[arb.keep i2 (by omega) (fun e h => by
      rcases tk with h4 | ⟨i',h4,h5,h6⟩
      ·rw[h4] at h;cases h
      ·rw[h4] at h;cases h;rw[hh] at h5;cases h5)]
     dsimp only
     rw[ara.keep i2 (by omega) (fun e h => by cases h)]
     exact hh
    have k3:=kp _ _ _ b6 h3
    simp (disch:=omega) only[wp,qa,qb,qc,gl,e3,e4,k3,hwi]
    refine ⟨2 - (i + 1),by omega,i + 1,tt,.own (g1.nx + 5 + 9) 1,rfl,by omega,e1,e2,e3,rfl,?_,?_,?_,.inr ⟨_,rfl,?_,?_⟩,(fun j h => by cases h;omega),⟨b1,b2,b3,by first | omega | (dsimp only;omega),by first | omega | (dsimp only;omega),by first | omega | (dsimp only;omega),b7,b8⟩,by first | omega | (dsimp only;omega),fun j hj => ?_,fun j hj => ?_⟩
    ·show upd _ _ _ _ = _
     rw[upd_ne _ _ b7];exact kp _ _ _ b4 h10
    ·show upd _ _ _ _ = _
     rw[upd_ne _ _ b8];exact kp _ _ _ b5 h2
    ·show upd _ _ _ _ = _
     rw[upd_same,hnx,gcC,coC_app,List.length_append]
     simp[coC]
    ·show upd _ _ _ _ = _
     rw[upd_ne _ _ (by omega)];exact hlv
    ·first | omega | (dsimp only;omega)
    ·show upd _ _ _ _ = _
     rw[upd_ne _ _ (by omega),arb.keep j (by omega) (fun e h => by
      have:=told j
      rcases tk with h4 | ⟨i',h4,h5,h6⟩
      ·rw[h4] at h;cases h
      ·have:=told i' h4
       rw[h4] at h;cases h;omega)]
     dsimp only
     rw[ara.keep j (by omega) (fun e h => by cases h)]
     exact st j hj
    ·try dsimp only at hj
     simp (disch:=omega) only[upd_ne]
     rw[arb.keep j (by omega) (fun e h => by
      rcases tk with h4 | ⟨i',h4,h5,h6⟩
      ·rw[h4] at h;cases h
      ·rw[h4] at h;cases h;omega)]
     dsimp only
     rw[ara.keep j (by omega) (fun e h => by cases h)]
     exact fresh j (by omega)
   ·have d1':¬ ((i:Nat):Int) < ((2:Nat):Int):=by omega
    obtain rfl:i = 2:=by omega
    have h10:=h1
    rw[gfC] at h1
    simp (disch:=omega) only[wp,qa,qb,qc,gl,e1,e2,e3,e4,h1,d1']
    exact ⟨tt,t,by omega,e1,e2,e3,e4,h10,h2,h3,tk.mono (fun i hi => rfl) (by first | omega | (dsimp only;omega)),told,⟨b1,b2,b3,by first | omega | (dsimp only;omega),by first | omega | (dsimp only;omega),by first | omega | (dsimp only;omega),b7,b8⟩,by first | omega | (dsimp only;omega),st,fun j hj => fresh j (by first | omega | (dsimp only at hj;omega))⟩
 ·rintro e g1 ⟨tt,t,hi,e1,e2,e3,e4,h1,h2,h3,tk,told,⟨b1,b2,b3,b4,b5,b6,b7,b8⟩,hx,st,fresh⟩
  rw[show ([c0,c1]:List (List Int)).take 2 = [c0,c1] from rfl,gcC] at h3
  simp (disch:=omega) only[wp,qa,qb,qc,gl,e1,e2,e3,h2,h3,s8,p8,res_cell,resC]
  refine ⟨_,rfl,⟨tt,t,rfl⟩,by first | omega | (dsimp only;omega),fun j hj => ?_,fun j hj => ?_⟩
  ·show upd _ _ _ _ = _
   rw[upd_ne _ _ (by omega)]
   exact st j hj
  ·try dsimp only at hj
   simp (disch:=omega) only[upd_ne]
   exact fresh j (by omega)
end Go.Ab
end
section
set_option linter.unusedVariables false
set_option linter.unusedSimpArgs false
namespace Go.Ab
variable {F:Funs}
def gsC (L:List Gr):List AV:=L.flatMap grC
theorem gsC_len (L:List Gr):(gsC L).length = L.length * 8:=by
 induction L with
 | nil => rfl
 | cons X L ih => simp only[gsC,List.flatMap_cons,List.length_append,List.length_cons,grC_len] at ih ⊢;omega
theorem gsC_snoc (L:List Gr) (Y:Gr):gsC (L ++ [Y]) = gsC L ++ grC Y:=by simp[gsC]
structure EnS (P:Gr→Prop) (Eb:Nat) (L:List Gr) (t:Tok) (g:G):Prop where
 he:g.hp Eb = some (.cells [.sl (gsC L) L.length t,.b (decide (20000 < L.length))] false)
 tk:TkOk 8 g t
 ll:L.length≤20001
 ok:∀ Y∈L,P Y
 lt:Eb < g.nx
 fresh:∀ i,g.nx≤i→g.hp i = none
structure CoPre (X:Gr) (j:Nat) (l:List Int):Prop where
 wr:∀ v∈l,0≤v∧v < X.evs.length∧isWr (j:Int) (X.evs.getD v.toNat ev0) = true
 nd:l.Nodup
 hd:∃ r,l = (j:Int) :: r
def CoFull (X:Gr) (j:Nat) (l:List Int):Prop:=∀ w:Nat,w < X.evs.length→isWr (j:Int) (X.evs.getD w ev0) = true→(w:Int)∈l
theorem nat_nodup {l:List Int} (hn:l.Nodup) (hb:∀ v∈l,0≤v):(l.map Int.toNat).Nodup:=by
 rw[List.Nodup,List.pairwise_map]
 refine List.Pairwise.imp_of_mem (fun {a b} ha hb' hab => ?_) hn
 have:=hb a ha
 have:=hb b hb'
 omega
theorem nodup_filter {l:List Int} {n:Nat} {p:Nat→Bool} (hn:l.Nodup) (hb:∀ v∈l,0≤v∧v < (n:Int)) (hp:∀ w,w < n→((w:Int)∈l↔p w = true)):l.length = ((List.range n).filter p).length:=by
 have h1:=nat_nodup hn fun v hv => (hb v hv).1
 have h2:((List.range n).filter p).Nodup:=List.Nodup.sublist List.filter_sublist List.nodup_range
 have h3:(l.map Int.toNat).Perm ((List.range n).filter p):=(List.perm_ext_iff_of_nodup h1 h2).2 fun a => by
  rw[List.mem_map,List.mem_filter,List.mem_range]
  constructor
  ·rintro ⟨v,hv,rfl⟩
   obtain ⟨b1,b2⟩:=hb v hv
   refine ⟨by omega,(hp _ (by omega)).1 ?_⟩
   rw[Int.toNat_of_nonneg b1];exact hv
  ·rintro ⟨ha,hpa⟩
   exact ⟨(a:Int),(hp a ha).2 hpa,by simp⟩
 have:=h3.length_eq
 rwa [List.length_map] at this
theorem nodup_len {l:List Int} {n:Nat} (hn:l.Nodup) (hb:∀ v∈l,0≤v∧v < (n:Int)):l.length≤n:=by
 have h:=nodup_filter (p:=fun (w:Nat) => decide ((w:Int)∈l)) hn hb (fun w _ => by simp)
 have:=List.length_filter_le (fun (w:Nat) => decide ((w:Int)∈l)) (List.range n)
 rw[List.length_range] at this
 omega
theorem evs_map (l:List Ev):l = (List.range l.length).map fun i => l.getD i ev0:=by
 refine List.ext_getElem (by simp) fun i h1 h2 => ?_
 rw[List.getElem_map,List.getElem_range,List.getD_eq_getElem?_getD,List.getElem?_eq_getElem h1];rfl
theorem wr_count (l:List Ev) (p:Ev→Bool):(l.filter p).length = ((List.range l.length).filter fun i => p (l.getD i ev0)).length:=by
 conv => lhs;rw[evs_map l]
 rw[List.filter_map,List.length_map]
 rfl
theorem CoPre.len {X:Gr} {j:Nat} {l:List Int} (h:CoPre X j l):l.length≤X.evs.length:=nodup_len h.nd fun v hv => ⟨(h.wr v hv).1,(h.wr v hv).2.1⟩
theorem CoPre.snoc {X:Gr} {j:Nat} {l:List Int} (h:CoPre X j l) {w:Nat} (hw:w < X.evs.length) (hk:isWr (j:Int) (X.evs.getD w ev0) = true) (hn:(w:Int) ∉ l):CoPre X j (l ++ [(w:Int)]):=by
 obtain ⟨r,hr⟩:=h.hd
 refine ⟨fun v hv => ?_,?_,r ++ [(w:Int)],by rw[hr];rfl⟩
 ·rcases List.mem_append.1 hv with hv | hv
  ·exact h.wr v hv
  ·obtain rfl:v = (w:Int):=by simpa using hv
   exact ⟨by omega,by omega,by simpa using hk⟩
 ·rw[List.nodup_append]
  exact ⟨h.nd,by simp,fun a ha b hb => by
   obtain rfl:b = (w:Int):=by simpa using hb
   exact fun he => hn (he ▸ ha)⟩
theorem CoPre.ok {X Y:Gr} {j:Nat} {l:List Int} (he:Y.evs = X.evs) (h:CoPre X j l) (hf:CoFull X j l) (hl:Y.co.getD j [] = l):CoOk Y j:=by
 obtain ⟨r,hr⟩:=h.hd
 have hat:∀ i,i < l.length→l.getD i 0∈l:=fun i hi => getD_mem hi
 refine ⟨fun i hi => ?_,fun i hi k hk => ?_,?_,?_,?_⟩
 ·rw[hl] at hi ⊢
  obtain ⟨a,b,c⟩:=h.wr _ (hat i hi)
  rw[he]
  simp only[isWr,Bool.and_eq_true,beq_iff_eq] at c
  exact ⟨a,b,c.1,c.2⟩
 ·rw[hl] at hi ⊢
  have hp:=List.pairwise_iff_getElem.1 h.nd k i (by omega) hi hk
  rw[List.getD_eq_getElem?_getD,List.getD_eq_getElem?_getD,List.getElem?_eq_getElem hi,List.getElem?_eq_getElem (show k < l.length by omega)]
  exact hp
 ·rw[hl]
  unfold cntW
  rw[List.take_length,he,wr_count]
  refine nodup_filter h.nd (fun v hv => ⟨(h.wr v hv).1,(h.wr v hv).2.1⟩) fun w hw => ⟨fun hm => ?_,fun hp => hf w hw hp⟩
  have:=(h.wr _ hm).2.2
  simpa using this
 ·rw[hl,hr];simp
 ·rw[hl,hr];rfl
end Go.Ab
end
section
set_option linter.unusedVariables false
set_option linter.unusedSimpArgs false
namespace Go.Ab
variable {F:Funs}
def coC2 (cs:Nat→List Int) (ts:Nat→Tok):List AV:=[.sl (intsC (cs 0)) (cs 0).length (ts 0),.sl (intsC (cs 1)) (cs 1).length (ts 1)]
theorem co2_part {cs:Nat→List Int} {ts:Nat→Tok} {j:Nat} (h:j < 2):part [AV.sl (intsC (cs 0)) (cs 0).length (ts 0),.sl (intsC (cs 1)) (cs 1).length (ts 1)] (j * 1) none = some (.sl (intsC (cs j)) (cs j).length (ts j)):=by
 have:j = 0∨j = 1:=by omega
 rcases this with rfl | rfl<;>rfl
theorem co2_set {cs:Nat→List Int} {ts:Nat→Tok} {j:Nat} (h:j < 2) (l:List Int) (n:Nat) (t:Tok) (hn:n = l.length):[AV.sl (intsC (cs 0)) (cs 0).length (ts 0),.sl (intsC (cs 1)) (cs 1).length (ts 1)].set (j * 1) (.sl (intsC l) n t) = coC2 (upd cs j l) (upd ts j t):=by
 subst hn
 have:j = 0∨j = 1:=by omega
 rcases this with rfl | rfl<;>simp[coC2,upd]
theorem upd_upd {α:Type} (f:Nat→α) (j:Nat) (a b:α):upd (upd f j a) j b = upd f j b:=by
 funext k;unfold upd;split<;>rfl
theorem upd_id {α:Type} (f:Nat→α) (j:Nat):upd f j (f j) = f:=by
 funext k;unfold upd;split
 ·rename_i h;rw[h]
 ·rfl
structure Frm2 (A B:Nat) (g g':G):Prop where
 nx:g.nx≤g'.nx
 keep:∀ i,i < g.nx→i≠A→i≠B→(∀ b,g.hp i≠some (.tok b))→g'.hp i = g.hp i
def CoP (P:Gr→Prop) (Eb:Nat) (g g':G):Prop:=∃ L t,EnS P Eb L t g'∧Frm1 Eb g g'
structure CoW (P:Gr→Prop) (X:Gr) (Eb R C B4 loc:Nat) (rf was:List Int) (cs:Nat→List Int) (ts:Nat→Tok) (g0:G) (w:Nat) (more:Bool) (L:List Gr) (t:Tok) (l':List Int) (t':Tok) (e:Env) (g:G):Prop where
 hw:2≤w∧w≤X.evs.length
 e0:e 0 = .mp Eb 0
 e2:e 2 = .i .i64 ((loc:Nat):Int)
 e4:e 4 = .mp B4 0
 e6:e 6 = .b more
 e7:e 7 = .sl (intsC was) was.length (ts loc)
 e8:e 8 = .i .i64 ((w:Nat):Int)
 h4:g.hp B4 = some (.cells (gfC X R C) false)
 hr:g.hp R = some (.cells (intsC rf) false)
 hc:g.hp C = some (.cells (coC2 (upd cs loc l') (upd ts loc t')) false)
 en:EnS P Eb L t g
 fr:Frm2 Eb C g0 g
 b4:g0.nx≤B4∧B4 < g.nx
 no:more = false→∀ v:Nat,2≤v→v < w→isWr (loc:Int) (X.evs.getD v ev0) = true→(v:Int)∈was
theorem CoW.rc {P:Gr→Prop} {X:Gr} {Eb R C B4 loc:Nat} {rf was:List Int} {cs:Nat→List Int} {ts:Nat→Tok} {g0:G} {w:Nat} {more:Bool} {L:List Gr} {t:Tok} {l':List Int} {t':Tok} {e:Env} {g:G} (I:CoW P X Eb R C B4 loc rf was cs ts g0 w more L t l' t' e g):R < g.nx∧C < g.nx:=by
 constructor
 ·by_cases h:R < g.nx
  ·exact h
  ·have:=I.en.fresh R (by omega);rw[I.hr] at this;cases this
 ·by_cases h:C < g.nx
  ·exact h
  ·have:=I.en.fresh C (by omega);rw[I.hc] at this;cases this
theorem EnS.mv {P:Gr→Prop} {Eb:Nat} {L:List Gr} {t:Tok} {g:G} (h:EnS P Eb L t g) {hp':Nat→Option Blk} {m:Nat} (hk:∀ i,i < g.nx→hp' i = g.hp i) (hm:g.nx≤m) (hf:∀ i,m≤i→hp' i = none):EnS P Eb L t ⟨hp',m⟩:=
 ⟨(hk _ h.lt).trans h.he,h.tk.mono (fun i hi => hk i (by
   rcases h.tk with h1 | ⟨i',h1,h2,h3⟩
   ·rw[hi] at h1;cases h1
   ·rw[hi] at h1;cases h1;exact h3)) hm,h.ll,h.ok,Nat.lt_of_lt_of_le h.lt hm,hf⟩
theorem CoW.mv {P:Gr→Prop} {X:Gr} {Eb R C B4 loc:Nat} {rf was:List Int} {cs:Nat→List Int} {ts:Nat→Tok} {g0:G} {w:Nat} {more:Bool} {L:List Gr} {t:Tok} {l':List Int} {t':Tok} {e:Env} {g:G} (I:CoW P X Eb R C B4 loc rf was cs ts g0 w more L t l' t' e g)
  {e':Env} {hp':Nat→Option Blk} {m:Nat} (h0:e' 0 = e 0) (h2:e' 2 = e 2) (h4:e' 4 = e 4) (h6:e' 6 = e 6) (h7:e' 7 = e 7) (h8:e' 8 = e 8) (hk:∀ i,i < g.nx→hp' i = g.hp i) (hm:g.nx≤m) (hf:∀ i,m≤i→hp' i = none):CoW P X Eb R C B4 loc rf was cs ts g0 w more L t l' t' e' ⟨hp',m⟩:=
 ⟨I.hw,h0.trans I.e0,h2.trans I.e2,h4.trans I.e4,h6.trans I.e6,h7.trans I.e7,h8.trans I.e8,(hk _ I.b4.2).trans I.h4,(hk _ I.rc.1).trans I.hr,(hk _ I.rc.2).trans I.hc,I.en.mv hk hm hf,
  ⟨Nat.le_trans I.fr.nx hm,fun i hi a b c => by show hp' i = _;rw[hk i (Nat.lt_of_lt_of_le hi I.fr.nx)];exact I.fr.keep i hi a b c⟩,⟨I.b4.1,Nat.lt_of_lt_of_le I.b4.2 hm⟩,I.no⟩
theorem rp_co (h122:F 122 = some A_xref13_E_co) (h131:F 131 = some A_xref13_copied) {P:Gr→Prop} {X:Gr} {Eb R C:Nat} {rf:List Int} (hlocs:X.locs = 2) (hn:X.evs.length≤100) (hn2:2≤X.evs.length) (hfst:∀ w:Nat,w < 2→(X.evs.getD w ev0).lc = (w:Int)) (hrl:rf.length = X.evs.length)
  (hP:∀ cs:Nat→List Int,(∀ j,j < 2→CoPre X j (cs j)∧CoFull X j (cs j))→P (putX X rf [cs 0,cs 1])) (hne:Eb≠R∧Eb≠C∧R≠C):
  ∀ (k loc:Nat) (cs:Nat→List Int) (ts:Nat→Tok) (L:List Gr) (t:Tok) (g:G),(2 - loc) * (X.evs.length + 2) + (X.evs.length + 1 - (cs loc).length)≤k→loc≤2→EnS P Eb L t g→g.hp R = some (.cells (intsC rf) false)→g.hp C = some (.cells (coC2 cs ts) false)→R < g.nx→C < g.nx →
    (∀ j,j < 2→CoPre X j (cs j))→(∀ j,j < loc→CoFull X j (cs j)) →
    ∃ v g',callS F 122 [.mp Eb 0,.agg (gfC X R C),.i .i64 ((loc:Nat):Int)] g = some (v,g')∧CoP P Eb g g':=by
 intro k
 induction k using Nat.strongRecOn with
 | _ k ih =>
   intro loc cs ts L t g hk hloc en hr hc hR hC hpre hful
   obtain ⟨ne1,ne2,ne3⟩:=hne
   refine raw_of (P:=fun v g' => CoP P Eb g g') h122 ?_
   have he:=en.he
   have hEl:=en.lt
   have hgf:gfC X R C = [.i .i64 2,.sl (evsC X.evs) X.evs.length .non,.ms R 0 X.evs.length,.ms C 0 2,.sl (pairsC X.rmw) X.rmw.length .non,.sl (pairsC X.data) X.data.length .non,.sl (pairsC X.ctrl) X.ctrl.length .non,.sl (pairsC X.ctrli) X.ctrli.length .non]:=by rw[gfC,hlocs]
   have hcp:=fun g1 (a1:g1.hp R = some (.cells (intsC rf) false)) (a2:g1.hp C = some (.cells (coC2 cs ts) false)) (a3:R < g1.nx) (a4:C < g1.nx) (a5:∀ i,g1.nx≤i→g1.hp i = none) => rp_copied h131 (X:=X) (g:=g1) a1 a2 hrl a3 a4 (by omega) (by have:=(hpre 0 (by omega)).len;omega) (by have:=(hpre 1 (by omega)).len;omega) a5
   have l7:∀ x:AV,List.replicate 7 x = [x,x,x,x,x,x,x]:=fun _ => rfl
   have s8:∀ b1 b2 b3 b4 b5 b6 b7 b8 c1 c2 c3 c4 c5 c6 c7 c8:AV,splice [b1,b2,b3,b4,b5,b6,b7,b8] 0 [c1,c2,c3,c4,c5,c6,c7,c8] = [c1,c2,c3,c4,c5,c6,c7,c8]:=fun _ _ _ _ _ _ _ _ _ _ _ _ _ _ _ _ => rfl
   have tkl:∀ i,t = .own i 8→i < g.nx∧g.hp i = some (.tok true):=fun i hi => by
    rcases en.tk with h | ⟨i',h,h1,h2⟩
    ·rw[h] at hi;cases hi
    ·rw[h] at hi;cases hi;exact ⟨h2,h1⟩
   have p8:∀ c1 c2 c3 c4 c5 c6 c7 c8:AV,part [c1,c2,c3,c4,c5,c6,c7,c8] 0 (some 8) = some (.agg [c1,c2,c3,c4,c5,c6,c7,c8]):=fun _ _ _ _ _ _ _ _ => rfl
   by_cases cb:20000 < L.length
   ·rw[decide_eq_true cb] at he
    rw[hgf]
    simp (disch:=omega) only[A_xref13_E_co,wp,qa,qb,qc,gl,he]
    refine ⟨_,rfl,L,t,⟨?_,en.tk.mono (fun i hi => ?_) (by first | omega | (dsimp only;omega)),en.ll,en.ok,by first | omega | (dsimp only;omega),fun i hi => ?_⟩,⟨by first | omega | (dsimp only;omega),fun i hi _ _ => ?_⟩⟩
    ·simp (disch:=omega) only[upd_ne];exact en.he
    ·have:=(tkl i hi).1
     simp (disch:=omega) only[upd_ne]
    ·dsimp only at hi
     simp (disch:=omega) only[upd_ne]
     exact en.fresh i (by omega)
    ·simp (disch:=omega) only[upd_ne]
   ·rw[decide_eq_false cb] at he
    by_cases c2:loc = 2
    ·subst c2
     have c2':((((2:Nat):Int)) == (2:Int)) = true:=rfl
     have hgl:=gsC_len L
     rw[hgf]
     rw[hgf] at hcp
     simp (disch:=omega) only[A_xref13_E_co,wp,qa,qb,qc,gl,he,c2',p8,l7]
     refine bindO_see _ (hcp _ ?_ ?_ (by first | omega | (dsimp only;omega)) (by first | omega | (dsimp only;omega)) (fun i hi => ?_)) (fun v g' hv i b hb => ?_) ?_
     ·simp (disch:=omega) only[upd_ne];exact hr
     ·simp (disch:=omega) only[upd_ne];exact hc
     ·dsimp only at hi
      simp (disch:=omega) only[upd_ne];exact en.fresh i (by omega)
     ·by_cases hi:i < g.nx + 1 + 4 + 4 + 12
      ·rw[hv.2.2.1 i hi];exact hb
      ·dsimp only at hb
       rw[upd_ne _ _ (by omega),en.fresh i (by omega)] at hb
       cases hb
     rintro v g2 ⟨⟨t1,t2,rfl⟩,hx,hkeep,hfr2⟩
     dsimp only at hx hkeep
     rw[gcC]
     simp (disch:=omega) only[wp,qa,qb,qc,gl,s8]
     have lv:∀ i,i < g.nx→g2.hp i = g.hp i:=fun i hi => by rw[hkeep i (by omega),upd_ne _ _ (by omega)]
     refine bindO_app1 (esz:=8) (en.tk.mono (fun i hi => lv i (tkl i hi).1) (by omega)) (fun i hi => allow_lt _ (by have:=(tkl i hi).1;omega)) ⟨by omega,by omega,hgl,rfl⟩ ?_
     intro t3 hp3 ar3 hpos
     obtain ⟨rfl,hlv⟩:=hpos (by omega)
     have k3:∀ i,i < g.nx→(∀ e,t≠.own i e)→hp3 i = g.hp i:=fun i hi hne => by
      rw[ar3.keep i (by omega) hne];exact lv i hi
     have ne3:∀ i cs ro,g.hp i = some (.cells cs ro)→∀ e,t≠.own i e:=fun i cs ro hh e h => by
      rcases en.tk with h4 | ⟨i',h4,h5,h6⟩
      ·rw[h4] at h;cases h
      ·rw[h4] at h;cases h;rw[hh] at h5;cases h5
     have he3:=(k3 Eb hEl (ne3 _ _ _ he)).trans he
     simp (disch:=omega) only[wp,qa,qb,qc,gl,he3]
     refine ⟨_,rfl,L ++ [putX X rf [cs 0,cs 1]],.own (g.nx + 1 + 4 + 4 + 8) 8,⟨?_,.inr ⟨_,rfl,?_,?_⟩,by simp;omega,fun Y hY => ?_,by first | omega | (dsimp only;omega),fun i hi => ?_⟩,⟨by first | omega | (dsimp only;omega),fun i hi hb ht => ?_⟩⟩
     ·show upd _ _ _ _ = _
      rw[upd_same,gsC_snoc,List.length_append]
      have hdec:(decide ((20000:Int) < ((L.length + 1:Nat):Int))) = decide (20000 < L.length + [putX X rf [cs 0,cs 1]].length):=by
       rw[decide_eq_decide];simp;omega
      rw[hdec]
      rfl
     ·simp (disch:=omega) only[upd_ne];exact hlv
     ·first | omega | (dsimp only;omega)
     ·rcases List.mem_append.1 hY with hY | hY
      ·exact en.ok Y hY
      ·obtain rfl:Y = putX X rf [cs 0,cs 1]:=by simpa using hY
       exact hP cs fun j hj => ⟨hpre j hj,hful j hj⟩
     ·dsimp only at hi
      simp (disch:=omega) only[upd_ne]
      rw[ar3.keep i (by omega) (fun e h => by have:=(tkl i (by rcases en.tk with h4 | ⟨i',h4,_,_⟩<;>rw[h4] at h<;>cases h;exact h4)).1;omega)]
      exact hfr2 i (by omega)
     ·simp (disch:=omega) only[upd_ne]
      rw[ar3.keep i (by omega) (fun e h => ht true (tkl i (by rcases en.tk with h4 | ⟨i',h4,_,_⟩<;>rw[h4] at h<;>cases h;exact h4)).2)]
      exact lv i hi
    ·have c2':(((loc:Nat):Int) == (2:Int)) = false:=by simp;omega
     have hc':=hc
     rw[coC2] at hc'
     have hl2:loc < 2:=by omega
     have hpt:=co2_part (cs:=cs) (ts:=ts) hl2
     rw[hgf]
     have hmul:(2 - loc) * (X.evs.length + 2) = (2 - (loc + 1)) * (X.evs.length + 2) + (X.evs.length + 2):=by
      rw[←Nat.succ_mul];congr 1;omega
     have hcl:=(hpre loc hl2).len
     have enr:∀ (cs':Nat→List Int) (loc':Nat),(2 - loc') * (X.evs.length + 2) + (X.evs.length + 1 - (cs' loc').length) < (2 - loc) * (X.evs.length + 2) + (X.evs.length + 1 - (cs loc).length)→_:=fun cs' loc' hm => ih _ (Nat.lt_of_lt_of_le hm hk) loc' cs'
     simp (disch:=omega) only[A_xref13_E_co,wp,qa,qb,qc,gl,he,c2',p8,hc',hpt]
     refine blk_cut (fun e g' => ∃ more L1 t1 l' t',CoW P X Eb R C g.nx loc rf (cs loc) cs ts g X.evs.length more L1 t1 l' t' e g') ?_ ?_
     ·refine W_loop (fun q e g' => ∃ (w:Nat) (more:Bool) (L1:List Gr) (t1:Tok) (l':List Int) (t':Tok),q = X.evs.length - w∧CoW P X Eb R C g.nx loc rf (cs loc) cs ts g w more L1 t1 l' t' e g') (X.evs.length - 2) ?_ ?_
      ·refine ⟨2,false,L,t,cs loc,ts loc,rfl,⟨by omega,hn2⟩,rfl,rfl,rfl,rfl,rfl,rfl,?_,?_,?_,⟨?_,en.tk.mono (fun i hi => ?_) (by first | omega | (dsimp only;omega)),en.ll,en.ok,by first | omega | (dsimp only;omega),fun i hi => ?_⟩,⟨by first | omega | (dsimp only;omega),fun i hi _ _ _ => ?_⟩,⟨Nat.le_refl _,by first | omega | (dsimp only;omega)⟩,fun _ v h1 h2 => by omega⟩
       ·simp (disch:=omega) only[upd_same];rw[hgf]
       ·simp (disch:=omega) only[upd_ne];exact hr
       ·simp (disch:=omega) only[upd_ne];rw[upd_id,upd_id];exact hc
       ·simp (disch:=omega) only[upd_ne];exact en.he
       ·have:=(tkl i hi).1
        simp (disch:=omega) only[upd_ne]
       ·try dsimp only at hi
        simp (disch:=omega) only[upd_ne]
        exact en.fresh i (by omega)
       ·simp (disch:=omega) only[upd_ne]
      ·rintro q e g1 ⟨w,more,L1,t1,l',t',rfl,I⟩
       have e0:=I.e0
       have e2:=I.e2
       have e4:=I.e4
       have e6:=I.e6
       have e7:=I.e7
       have e8:=I.e8
       have h4:=I.h4
       have hx1:=I.fr.nx
       obtain ⟨b41,b42⟩:=I.b4
       rw[hgf] at h4
       by_cases d1:w < X.evs.length
       ·have d1':((w:Nat):Int) < ((X.evs.length:Nat):Int):=by omega
        have hev:=ev_part d1
        have hww:=succ_wrap (k:=w) (by omega)
        have hwx:isWr (loc:Int) (X.evs.getD w ev0) = isWr (loc:Int) (X.evs.getD w ev0):=rfl
        generalize hxe:X.evs.getD w ev0 = x at hev hwx
        have hRC:R < g1.nx∧C < g1.nx:=by
         constructor
         ·by_cases h:R < g1.nx
          ·exact h
          ·have:=I.en.fresh R (by omega);rw[I.hr] at this;cases this
         ·by_cases h:C < g1.nx
          ·exact h
          ·have:=I.en.fresh C (by omega);rw[I.hc] at this;cases this
        -- one more event
        rw[W_seq]
        refine W_cut (fun e g2 => CoW P X Eb R C g.nx loc rf (cs loc) cs ts g w more L1 t1 l' t' e g2) ?_ ?_
        ·simp (disch:=omega) only[wp,qa,qb,qc,gl,e0,e2,e4,e6,e7,e8,h4,d1']
         exact I.mv rfl rfl rfl rfl rfl rfl (fun i hi => rfl) (by first | omega | (dsimp only;omega)) (fun i hi => I.en.fresh i (by first | omega | (dsimp only at hi;omega)))
        clear I e0 e2 e4 e6 e7 e8 h4 hx1 b41 b42 hRC
        clear e g1
        rintro e g1 I
        have hRC:=I.rc
        rw[W_seq,W_blk,W_seq]
        have h4:=I.h4
        rw[hgf] at h4
        obtain ⟨b41,b42⟩:=I.b4
        have e4:=I.e4
        have e8:=I.e8
        have d1':((w:Nat):Int) < ((X.evs.length:Nat):Int):=by omega
        have l5:∀ y:AV,List.replicate 5 y = [y,y,y,y,y]:=fun _ => rfl
        have s6:∀ b1 b2 b3 b4 b5 b6 c1 c2 c3 c4 c5 c6:AV,splice [b1,b2,b3,b4,b5,b6] 0 [c1,c2,c3,c4,c5,c6] = [c1,c2,c3,c4,c5,c6]:=fun _ _ _ _ _ _ _ _ _ _ _ _ => rfl
        refine W_cut (fun e g2 => CoW P X Eb R C g.nx loc rf (cs loc) cs ts g w more L1 t1 l' t' e g2∧∃ b,e 9 = .mp b 0∧g2.hp b = some (.cells (evC x) false)∧b < g2.nx) ?_ ?_
        ·rw[evC] at hev
         simp (disch:=omega) only[wp,qa,qb,qc,gl,e4,e8,h4,d1',hev,l5,s6]
         refine ⟨I.mv rfl rfl rfl rfl rfl rfl (fun i hi => ?_) (by first | omega | (dsimp only;omega)) (fun i hi => ?_),_,rfl,upd_same _ _ _,by first | omega | (dsimp only;omega)⟩
         ·simp (disch:=omega) only[upd_ne]
         ·try dsimp only at hi
          simp (disch:=omega) only[upd_ne]
          exact I.en.fresh i (by omega)
        clear e4 e8 h4 b41 b42 hRC I
        clear e g1
        rintro e g1 ⟨I,b,e9,h9,b9⟩
        rw[W_seq]
        have e2:=I.e2
        refine W_cut (fun e g2 => CoW P X Eb R C g.nx loc rf (cs loc) cs ts g w more L1 t1 l' t' e g2∧e 10 = .b (!isWr (loc:Int) x)) ?_ ?_
        ·cases hk2:(x.kd == 2) with
         | false =>
           have hk2':(x.kd != 2) = true:=by rw[bne,hk2];rfl
           have hw0:isWr (loc:Int) x = false:=by rw[isWr,hk2];rfl
           simp (disch:=omega) only[wp,qa,qb,qc,gl,e2,e9,h9,hk2',hw0]
           exact I.mv rfl rfl rfl rfl rfl rfl (fun i hi => rfl) (by first | omega | (dsimp only;omega)) (fun i hi => I.en.fresh i (by first | omega | (dsimp only at hi;omega)))
         | true =>
           have hk2':(x.kd != 2) = false:=by rw[bne,hk2];rfl
           have hw0:isWr (loc:Int) x = (x.lc == (loc:Int)):=by rw[isWr,hk2];rfl
           simp (disch:=omega) only[wp,qa,qb,qc,gl,e2,e9,h9,hk2',hw0]
           exact ⟨I.mv rfl rfl rfl rfl rfl rfl (fun i hi => rfl) (by first | omega | (dsimp only;omega)) (fun i hi => I.en.fresh i (by first | omega | (dsimp only at hi;omega))),rfl⟩
        clear e9 h9 b9 e2 I hev
        clear e g1
        rintro e g1 ⟨I,e10⟩
        rw[W_seq]
        refine W_cut (fun e g2 => CoW P X Eb R C g.nx loc rf (cs loc) cs ts g w more L1 t1 l' t' e g2∧e 10 = .b (!isWr (loc:Int) x || decide ((w:Int)∈cs loc))) ?_ ?_
        ·have e7:=I.e7
         have e8:=I.e8
         simp (disch:=omega) only[wp,qa,qb,qc,gl]
         refine blk_end (fun e g2 => CoW P X Eb R C g.nx loc rf (cs loc) cs ts g w more L1 t1 l' t' e g2∧e 10 = .b (!isWr (loc:Int) x || decide ((w:Int)∈cs loc))) ?_ ?_
         ·refine W_loop (fun q e g2 => ∃ k:Nat,q = (cs loc).length - k∧k≤(cs loc).length∧CoW P X Eb R C g.nx loc rf (cs loc) cs ts g w more L1 t1 l' t' e g2∧e 10 = .b (!isWr (loc:Int) x || decide ((w:Int)∈(cs loc).take k))∧e 11 = .i .i64 ((k:Nat):Int)) (cs loc).length ?_ ?_
          ·refine ⟨0,rfl,Nat.zero_le _,I.mv rfl rfl rfl rfl rfl rfl (fun i hi => rfl) (by first | omega | (dsimp only;omega)) (fun i hi => I.en.fresh i (by first | omega | (dsimp only at hi;omega))),?_,rfl⟩
           simp (disch:=omega) only[wp,qa,qb,qc,e10,List.take_zero,List.not_mem_nil]
          ·rintro q e g2 ⟨k2,rfl,hk2,I,e10,e11⟩
           have e7:=I.e7
           have e8:=I.e8
           by_cases d2:k2 < (cs loc).length
           ·have d2':((k2:Nat):Int) < (((cs loc).length:Nat):Int):=by omega
            have hip:=ints_part d2
            have hwk:=succ_wrap (k:=k2) (by omega)
            have hmem:decide ((w:Int)∈(cs loc).take (k2 + 1)) = (decide ((w:Int)∈(cs loc).take k2) || ((cs loc).getD k2 0 == (w:Int))):=by
             rw[take_getD d2]
             generalize (cs loc).getD k2 0 = y
             by_cases h1:(w:Int)∈(cs loc).take k2
             ·rw[decide_eq_true h1,decide_eq_true (List.mem_append_left _ h1)];rfl
             ·by_cases h2:y = (w:Int)
              ·subst h2
               rw[decide_eq_true (List.mem_append_right _ (List.mem_singleton.2 rfl))];simp
              ·rw[decide_eq_false h1,decide_eq_false (fun h => by
                rcases List.mem_append.1 h with h | h
                ·exact h1 h
                ·exact h2 (List.mem_singleton.1 h).symm)]
               simp[h2]
            generalize (cs loc).getD k2 0 = y at hip hmem
            cases hb:(!isWr (loc:Int) x || decide ((w:Int)∈(cs loc).take k2)) with
            | true =>
              rw[hb] at e10
              simp (disch:=omega) only[wp,qa,qb,qc,gl,e7,e8,e10,e11,d2',hwk]
              exact ⟨(cs loc).length - (k2 + 1),by omega,k2 + 1,rfl,by omega,I.mv rfl rfl rfl rfl rfl rfl (fun i hi => rfl) (by first | omega | (dsimp only;omega)) (fun i hi => I.en.fresh i (by first | omega | (dsimp only at hi;omega))),by rw[hmem,←Bool.or_assoc,hb];rfl,rfl⟩
            | false =>
              rw[hb] at e10
              simp (disch:=omega) only[wp,qa,qb,qc,gl,e7,e8,e10,e11,d2',hwk,hip]
              exact ⟨(cs loc).length - (k2 + 1),by omega,k2 + 1,rfl,by omega,I.mv rfl rfl rfl rfl rfl rfl (fun i hi => rfl) (by first | omega | (dsimp only;omega)) (fun i hi => I.en.fresh i (by first | omega | (dsimp only at hi;omega))),by rw[hmem,←Bool.or_assoc,hb];rfl,rfl⟩
           ·have d2':¬ ((k2:Nat):Int) < (((cs loc).length:Nat):Int):=by omega
            obtain rfl:k2 = (cs loc).length:=by omega
            rw[List.take_length] at e10
            simp (disch:=omega) only[wp,qa,qb,qc,gl,e7,e8,e10,e11,d2']
            exact I.mv rfl rfl rfl rfl rfl rfl (fun i hi => rfl) (by first | omega | (dsimp only;omega)) (fun i hi => I.en.fresh i (by first | omega | (dsimp only at hi;omega)))
         ·rintro e g2 ⟨I,e10⟩
          simp (disch:=omega) only[wp,qa,qb,qc]
          exact ⟨I,e10⟩
        clear e10 I
        clear e g1
        rintro e g1 ⟨I,e10⟩
        have e0:=I.e0
        have e2:=I.e2
        have e4:=I.e4
        have e7:=I.e7
        have e8:=I.e8
        have h4:=I.h4
        rw[hgf] at h4
        obtain ⟨b41,b42⟩:=I.b4
        cases hb:(!isWr (loc:Int) x || decide ((w:Int)∈cs loc)) with
        | true =>
          rw[hb] at e10
          simp (disch:=omega) only[wp,qa,qb,qc,gl,e8,e10,hww]
          have I2:∀ e' m,e' 0 = e 0→e' 2 = e 2→e' 4 = e 4→e' 6 = e 6→e' 7 = e 7→e' 8 = .i .i64 ((w + 1:Nat):Int)→g1.nx≤m→CoW P X Eb R C g.nx loc rf (cs loc) cs ts g (w + 1) more L1 t1 l' t' e' ⟨g1.hp,m⟩:=fun e' m a0 a2 a4 a6 a7 a8 hm =>
           ⟨⟨by have:=I.hw.1;omega,by omega⟩,a0.trans I.e0,a2.trans I.e2,a4.trans I.e4,a6.trans I.e6,a7.trans I.e7,a8,I.h4,I.hr,I.hc,I.en.mv (fun i hi => rfl) hm (fun i hi => I.en.fresh i (by omega)),⟨Nat.le_trans I.fr.nx hm,I.fr.keep⟩,⟨b41,Nat.lt_of_lt_of_le b42 hm⟩,fun hmo v h2 hv hvw => by
             by_cases hvw2:v = w
             ·subst hvw2
              rw[hxe] at hvw
              rw[hvw] at hb
              simpa using hb
             ·exact I.no hmo v h2 (by omega) hvw⟩
          exact ⟨X.evs.length - (w + 1),by omega,w + 1,more,L1,t1,l',t',rfl,I2 _ _ rfl rfl rfl rfl rfl rfl (by first | omega | (dsimp only;omega))⟩
        | false =>
          rw[hb] at e10
          simp only[Bool.or_eq_false_iff,Bool.not_eq_false',decide_eq_false_iff_not] at hb
          have hc1:=I.hc
          rw[coC2] at hc1
          have hil:(intsC (cs loc)).length = (cs loc).length * 1:=by rw[intsC_len,Nat.mul_one]
          simp (disch:=omega) only[wp,qa,qb,qc,gl,e0,e2,e4,e7,e8,e10,h4]
          refine bindO_app (.inl rfl) (fun i h => by cases h) ⟨by omega,by omega,rfl,hil⟩ ?_
          intro ta hpa ara
          simp (disch:=omega) only[wp,qa,qb,qc,gl,e0,e2,e4,e7,e8]
          refine bindO_app (esz:=1) (ara.ok (by first | omega | (dsimp only;omega))) ?_ ⟨by omega,by omega,hil,rfl⟩ ?_
          ·intro i2 h2
           rcases ara.tok with h | ⟨h,_⟩
           ·rw[h] at h2;cases h2
           ·rw[h] at h2;cases h2
            exact allow_hd _ rfl
          intro tb hpb arb
          have kp:∀ i,i < g1.nx→hpb i = g1.hp i:=fun i hi => by
           rw[arb.keep i (by omega) (fun e h => by
            rcases ara.tok with h4 | ⟨h4,_⟩
            ·rw[h4] at h;cases h
            ·rw[h4] at h;cases h;omega)]
           dsimp only
           rw[ara.keep i (by omega) (fun e h => by cases h)]
          have kf:∀ i,g1.nx + 2 + 1 + 8≤i→hpb i = none:=fun i hi => by
           rw[arb.keep i (by omega) (fun e h => by
            rcases ara.tok with h4 | ⟨h4,_⟩
            ·rw[h4] at h;cases h
            ·rw[h4] at h;cases h;omega)]
           dsimp only
           rw[ara.keep i (by omega) (fun e h => by cases h)]
           exact I.en.fresh i (by omega)
          have hcb:=(kp C I.rc.2).trans hc1
          have h4b:=(kp g.nx b42).trans h4
          have hset:=co2_set (cs:=upd cs loc l') (ts:=upd ts loc t') hl2 (cs loc ++ [(w:Int)]) ((cs loc).length + 1) tb (by simp)
          rw[upd_upd,upd_upd,show intsC (cs loc ++ [(w:Int)]) = intsC (cs loc) ++ [.i .i64 (w:Int)] by simp[intsC]] at hset
          have hlen1:(upd cs loc (cs loc ++ [(w:Int)]) loc).length = (cs loc).length + 1:=by rw[upd_same];simp
          have hrec:=enr (upd cs loc (cs loc ++ [(w:Int)])) loc (by rw[hlen1];omega) (upd ts loc tb) L1 t1
          rw[hgf] at hrec
          have hpre2:∀ j,j < 2→CoPre X j (upd cs loc (cs loc ++ [(w:Int)]) j):=fun j hj => by
           by_cases hjl:j = loc
           ·subst hjl
            rw[upd_same]
            exact (hpre j hj).snoc d1 (by rw[hxe];exact hb.1) hb.2
           ·rw[upd_ne _ _ hjl];exact hpre j hj
          have hful2:∀ j,j < loc→CoFull X j (upd cs loc (cs loc ++ [(w:Int)]) j):=fun j hj => by
           rw[upd_ne _ _ (by omega)];exact hful j hj
          have tk1:∀ i e,t1 = .own i e→i < g1.nx∧i≠C:=fun i e hi => by
           rcases I.en.tk with h | ⟨i',h,h1,h2⟩
           ·rw[h] at hi;cases hi
           ·rw[h] at hi;cases hi
            exact ⟨h2,fun hh => by rw[hh,I.hc] at h1;cases h1⟩
          simp (disch:=omega) only[wp,qa,qb,qc,gl,e0,e2,e4,hcb,h4b,hset,p8]
          refine bindO_call _ (hrec _ (Nat.le_refl _) (by omega) ⟨(upd_ne _ _ ne2).trans ((kp Eb I.en.lt).trans I.en.he),I.en.tk.mono (fun i hi => (upd_ne _ _ (tk1 i _ hi).2).trans (kp i (tk1 i _ hi).1)) ?_,I.en.ll,I.en.ok,?_,fun i hi => ?_⟩ ((upd_ne _ _ ne3).trans ((kp R I.rc.1).trans I.hr)) (upd_same _ _ _) ?_ ?_ hpre2 hful2) ?_
          ·first | omega | (dsimp only;omega)
          ·have:=I.en.lt
           first | omega | (dsimp only;omega)
          ·try dsimp only at hi
           simp (disch:=omega) only[upd_ne]
           exact kf i (by omega)
          ·have:=I.rc.1
           first | omega | (dsimp only;omega)
          ·have:=I.rc.2
           first | omega | (dsimp only;omega)
          ·rintro v g3 ⟨L3,t3,en3,fr3⟩
           have fx:=fr3.nx
           dsimp only at fx
           have hx1:=I.fr.nx
           have hrc:=I.rc
           simp (disch:=omega) only[wp,qa,qb,qc,gl,e8,hww]
           refine ⟨X.evs.length - (w + 1),by omega,w + 1,true,L3,t3,cs loc ++ [(w:Int)],tb,rfl,⟨by have:=I.hw.1;omega,by omega⟩,e0,e2,e4,rfl,e7,rfl,?_,?_,?_,en3.mv (fun i hi => rfl) (by first | omega | (dsimp only;omega)) (fun i hi => en3.fresh i (by first | omega | (dsimp only at hi;omega))),⟨by first | omega | (dsimp only;omega),fun i hi a b c => ?_⟩,⟨b41,by first | omega | (dsimp only;omega)⟩,fun h => by cases h⟩
           ·refine fr3.cells (by first | omega | (dsimp only;omega)) (by omega) ?_
            rw[hgf]
            exact (upd_ne _ _ (by omega)).trans h4b
           ·exact fr3.cells (by first | omega | (dsimp only;omega)) (by omega) ((upd_ne _ _ ne3).trans ((kp R hrc.1).trans I.hr))
           ·exact fr3.cells (by first | omega | (dsimp only;omega)) (by omega) (upd_same _ _ _)
           ·have h1:=I.fr.keep i hi a b c
            have h2:upd hpb C (some (.cells (coC2 (upd cs loc (cs loc ++ [(w:Int)])) (upd ts loc tb)) false)) i = g.hp i:=by
             rw[upd_ne _ _ b,kp i (by omega),h1]
            exact (fr3.keep i (by first | omega | (dsimp only;omega)) a (fun b' hb' => c b' (h2 ▸ hb'))).trans h2
       ·have d1':¬ ((w:Nat):Int) < ((X.evs.length:Nat):Int):=by omega
        obtain rfl:w = X.evs.length:=by have:=I.hw;omega
        simp (disch:=omega) only[wp,qa,qb,qc,gl,e0,e2,e4,e6,e7,e8,h4,d1']
        exact ⟨more,L1,t1,l',t',I.hw,e0,e2,e4,e6,e7,e8,I.h4,I.hr,I.hc,⟨I.en.he,I.en.tk.mono (fun i hi => rfl) (by first | omega | (dsimp only;omega)),I.en.ll,I.en.ok,by have:=I.en.lt;first | omega | (dsimp only;omega),fun i hi => I.en.fresh i (by first | omega | (dsimp only at hi;omega))⟩,⟨by first | omega | (dsimp only;omega),I.fr.keep⟩,⟨b41,by first | omega | (dsimp only;omega)⟩,I.no⟩
     ·rintro e g1 ⟨more,L1,t1,l',t',I⟩
      have e0:=I.e0
      have e2:=I.e2
      have e4:=I.e4
      have e6:=I.e6
      have e7:=I.e7
      have h4:=I.h4
      have hc1:=I.hc
      have hx1:=I.fr.nx
      obtain ⟨b41,b42⟩:=I.b4
      rw[hgf] at h4
      rw[coC2] at hc1
      have hset:=co2_set (cs:=upd cs loc l') (ts:=upd ts loc t') hl2 (cs loc) _ (ts loc) rfl
      rw[upd_upd,upd_upd,upd_id,upd_id] at hset
      have hwl:IntKind.i64.wrap (((loc:Nat):Int) + 1) = ((loc + 1:Nat):Int):=succ_wrap (by omega)
      have hC1:C < g1.nx:=by omega
      have tkl1:∀ i e,t1 = .own i e→i < g1.nx∧g1.hp i = some (.tok true):=fun i e hi => by
       rcases I.en.tk with h | ⟨i',h,h1,h2⟩
       ·rw[h] at hi;cases hi
       ·rw[h] at hi;cases hi;exact ⟨h2,h1⟩
      have tkC:∀ i e,t1 = .own i e→i≠C:=fun i e hi h => by
       have:=(tkl1 i e hi).2
       rw[h,I.hc] at this;cases this
      -- the state with the order put back
      have EN:∀ m,g1.nx≤m→EnS P Eb L1 t1 ⟨upd g1.hp C (some (.cells (coC2 cs ts) false)),m⟩∧Frm1 Eb g ⟨upd g1.hp C (some (.cells (coC2 cs ts) false)),m⟩:=fun m hm => by
       refine ⟨⟨(upd_ne _ _ ne2).trans I.en.he,I.en.tk.mono (fun i hi => upd_ne _ _ (tkC i 8 hi)) hm,I.en.ll,I.en.ok,by have:=I.en.lt;first | omega | (dsimp only;omega),fun i hi => ?_⟩,⟨by first | omega | (dsimp only;omega),fun i hi hb ht => ?_⟩⟩
       ·try dsimp only at hi
        simp (disch:=omega) only[upd_ne]
        exact I.en.fresh i (by omega)
       ·by_cases hiC:i = C
        ·subst hiC;exact (upd_same _ _ _).trans hc.symm
        ·exact (upd_ne _ _ hiC).trans (I.fr.keep i hi hb hiC ht)
      cases hmr:more with
      | true =>
        rw[hmr] at e6
        simp (disch:=omega) only[wp,qa,qb,qc,gl,e0,e2,e4,e6,e7,h4,hc1,hset]
        exact ⟨_,rfl,L1,t1,(EN _ (by first | omega | (dsimp only;omega))).1,(EN _ (by first | omega | (dsimp only;omega))).2⟩
      | false =>
        rw[hmr] at e6
        have hrec:=enr cs (loc + 1) (by omega) ts L1 t1
        rw[hgf] at hrec
        have hfull:∀ j,j < loc + 1→CoFull X j (cs j):=fun j hj => by
         by_cases hjl:j = loc
         ·subst hjl
          intro v hv hvw
          by_cases hv2:v < 2
          ·have h1:=hfst v hv2
           simp only[isWr,Bool.and_eq_true,beq_iff_eq] at hvw
           obtain ⟨r,hr'⟩:=(hpre j hl2).hd
           rw[hr',show (v:Int) = (j:Int) by omega]
           exact List.mem_cons_self ..
          ·exact I.no hmr v (by omega) hv hvw
         ·exact hful j (by omega)
        simp (disch:=omega) only[wp,qa,qb,qc,gl,e0,e2,e4,e6,e7,h4,hc1,hset,p8,hwl]
        refine bindO_call _ (hrec _ (Nat.le_refl _) (by omega) (EN _ ?_).1 ?_ (upd_same _ _ _) ?_ ?_ hpre hfull) ?_
        ·first | omega | (dsimp only;omega)
        ·exact (upd_ne _ _ ne3).trans I.hr
        ·first | omega | (dsimp only;omega)
        ·first | omega | (dsimp only;omega)
        ·rintro v g3 ⟨L3,t3,en3,fr3⟩
         simp (disch:=omega) only[wp,qa,qb,qc,gl]
         exact ⟨_,rfl,L3,t3,en3,(EN _ (by first | omega | (dsimp only;omega))).2.trans fr3⟩
end Go.Ab
end
section
set_option linter.unusedVariables false
set_option linter.unusedSimpArgs false
namespace Go.Ab
variable {F:Funs}
theorem RfOk.congr {X:Gr} {rf rf':List Int} {co co':List (List Int)} {i:Nat} (h:RfOk (putX X rf co) i) (he:rf'.getD i 0 = rf.getD i 0):RfOk (putX X rf' co') i:=by
 unfold RfOk at h ⊢
 have e1:(putX X rf' co').rf.getD i 0 = (putX X rf co).rf.getD i 0:=he
 rw[e1]
 exact h
def cs0:Nat→List Int:=fun j => [(j:Int)]
theorem EnS.mvR {P:Gr→Prop} {Eb R:Nat} {L:List Gr} {t:Tok} {g:G} {cs:List AV} {ro:Bool} (h:EnS P Eb L t g) (hR:g.hp R = some (.cells cs ro)) (hne:Eb≠R) {hp':Nat→Option Blk} {m:Nat} (hk:∀ i,i < g.nx→i≠R→hp' i = g.hp i) (hm:g.nx≤m) (hf:∀ i,m≤i→hp' i = none):EnS P Eb L t ⟨hp',m⟩:=
 ⟨(hk _ h.lt hne).trans h.he,h.tk.mono (fun i hi => by
   rcases h.tk with h1 | ⟨i',h1,h2,h3⟩
   ·rw[hi] at h1;cases h1
   ·rw[hi] at h1;cases h1
    exact hk i h3 (fun hh => by rw[hh,hR] at h2;cases h2)) hm,h.ll,h.ok,Nat.lt_of_lt_of_le h.lt hm,hf⟩
structure RfR (P:Gr→Prop) (X:Gr) (Eb R:Nat) (rf:List Int) (i:Nat) (g g':G):Prop where
 en:∃ L t,EnS P Eb L t g'
 hr:∃ rf',g'.hp R = some (.cells (intsC rf') false)∧rf'.length = X.evs.length∧∀ j,j < i→rf'.getD j 0 = rf.getD j 0
 fr:Frm2 Eb R g g'
structure RfW (P:Gr→Prop) (X:Gr) (Eb R C B4 b:Nat) (ts:Nat→Tok) (rf:List Int) (i:Nat) (g0:G) (w:Nat) (L:List Gr) (t:Tok) (rf1:List Int) (e:Env) (g:G):Prop where
 hw:w≤X.evs.length
 e0:e 0 = .mp Eb 0
 e2:e 2 = .i .i64 ((i:Nat):Int)
 e4:e 4 = .mp B4 0
 e6:e 6 = .mp b 0
 e7:e 7 = .i .i64 ((w:Nat):Int)
 h4:g.hp B4 = some (.cells (gfC X R C) false)
 h6:g.hp b = some (.cells (evC (X.evs.getD i ev0)) false)
 hr:g.hp R = some (.cells (intsC rf1) false)
 rl:rf1.length = X.evs.length
 rp:∀ j,j < i→rf1.getD j 0 = rf.getD j 0
 hc:g.hp C = some (.cells (coC2 cs0 ts) false)
 en:EnS P Eb L t g
 fr:Frm2 Eb R g0 g
 bs:g0.nx≤B4∧g0.nx≤b∧B4 < g.nx∧b < g.nx
 rc:R < g0.nx∧C < g0.nx∧Eb < g0.nx
theorem RfW.mv {P:Gr→Prop} {X:Gr} {Eb R C B4 b:Nat} {ts:Nat→Tok} {rf:List Int} {i:Nat} {g0:G} {w:Nat} {L:List Gr} {t:Tok} {rf1:List Int} {e:Env} {g:G} (I:RfW P X Eb R C B4 b ts rf i g0 w L t rf1 e g)
  {e':Env} {hp':Nat→Option Blk} {m:Nat} (h0:e' 0 = e 0) (h2:e' 2 = e 2) (h4:e' 4 = e 4) (h6:e' 6 = e 6) (h7:e' 7 = e 7) (hk:∀ i,i < g.nx→hp' i = g.hp i) (hm:g.nx≤m) (hf:∀ i,m≤i→hp' i = none):RfW P X Eb R C B4 b ts rf i g0 w L t rf1 e' ⟨hp',m⟩:=
 have hx:=I.fr.nx
 ⟨I.hw,h0.trans I.e0,h2.trans I.e2,h4.trans I.e4,h6.trans I.e6,h7.trans I.e7,(hk _ I.bs.2.2.1).trans I.h4,(hk _ I.bs.2.2.2).trans I.h6,(hk _ (Nat.lt_of_lt_of_le I.rc.1 hx)).trans I.hr,I.rl,I.rp,(hk _ (Nat.lt_of_lt_of_le I.rc.2.1 hx)).trans I.hc,I.en.mv hk hm hf,
  ⟨Nat.le_trans I.fr.nx hm,fun i hi a b c => by show hp' i = _;rw[hk i (Nat.lt_of_lt_of_le hi I.fr.nx)];exact I.fr.keep i hi a b c⟩,⟨I.bs.1,I.bs.2.1,Nat.lt_of_lt_of_le I.bs.2.2.1 hm,Nat.lt_of_lt_of_le I.bs.2.2.2 hm⟩,I.rc⟩
theorem rp_rf (h106:F 106 = some A_xref13_E_rf) (h122:F 122 = some A_xref13_E_co) (h131:F 131 = some A_xref13_copied) {P:Gr→Prop} {X:Gr} {Eb R C:Nat} {ts:Nat→Tok} (hlocs:X.locs = 2) (hn:X.evs.length≤100) (hn2:2≤X.evs.length) (hfst:∀ w:Nat,w < 2→X.evs.getD w ev0 = wE w)
  (hP:∀ (rf:List Int) (cs:Nat→List Int),rf.length = X.evs.length→(∀ i,i < X.evs.length→RfOk (putX X rf []) i)→(∀ j,j < 2→CoPre X j (cs j)∧CoFull X j (cs j))→P (putX X rf [cs 0,cs 1])) (hne:Eb≠R∧Eb≠C∧R≠C):
  ∀ (d i:Nat) (rf:List Int) (L:List Gr) (t:Tok) (g:G),X.evs.length - i≤d→i≤X.evs.length→EnS P Eb L t g→g.hp R = some (.cells (intsC rf) false)→rf.length = X.evs.length→g.hp C = some (.cells (coC2 cs0 ts) false)→R < g.nx→C < g.nx→(∀ j,j < i→RfOk (putX X rf []) j) →
    ∃ v g',callS F 106 [.mp Eb 0,.agg (gfC X R C),.i .i64 ((i:Nat):Int)] g = some (v,g')∧RfR P X Eb R rf i g g':=by
 intro d
 induction d using Nat.strongRecOn with
 | _ d ih =>
   intro i rf L t g hd hi en hr hrl hc hR hC hok
   obtain ⟨ne1,ne2,ne3⟩:=hne
   refine raw_of (P:=fun v g' => RfR P X Eb R rf i g g') h106 ?_
   have he:=en.he
   have hEl:=en.lt
   have hgf:gfC X R C = [.i .i64 2,.sl (evsC X.evs) X.evs.length .non,.ms R 0 X.evs.length,.ms C 0 2,.sl (pairsC X.rmw) X.rmw.length .non,.sl (pairsC X.data) X.data.length .non,.sl (pairsC X.ctrl) X.ctrl.length .non,.sl (pairsC X.ctrli) X.ctrli.length .non]:=by rw[gfC,hlocs]
   have p8:∀ c1 c2 c3 c4 c5 c6 c7 c8:AV,part [c1,c2,c3,c4,c5,c6,c7,c8] 0 (some 8) = some (.agg [c1,c2,c3,c4,c5,c6,c7,c8]):=fun _ _ _ _ _ _ _ _ => rfl
   have l5:∀ y:AV,List.replicate 5 y = [y,y,y,y,y]:=fun _ => rfl
   have s6:∀ b1 b2 b3 b4 b5 b6 c1 c2 c3 c4 c5 c6:AV,splice [b1,b2,b3,b4,b5,b6] 0 [c1,c2,c3,c4,c5,c6] = [c1,c2,c3,c4,c5,c6]:=fun _ _ _ _ _ _ _ _ _ _ _ _ => rfl
   have ret0:∀ m,g.nx + 1≤m→RfR P X Eb R rf i g ⟨upd g.hp g.nx (some (.cells (gfC X R C) false)),m⟩:=fun m hm =>
    ⟨⟨L,t,en.mv (fun i hi => upd_ne _ _ (by omega)) (by omega) (fun i hi => by rw[upd_ne _ _ (by omega)];exact en.fresh i (by omega))⟩,⟨rf,(upd_ne _ _ (by omega)).trans hr,hrl,fun _ _ => rfl⟩,⟨by show g.nx≤m;omega,fun i hi _ _ _ => upd_ne _ _ (by omega)⟩⟩
   by_cases cb:20000 < L.length
   ·rw[decide_eq_true cb] at he
    rw[hgf] at ret0 ⊢
    simp (disch:=omega) only[A_xref13_E_rf,wp,qa,qb,qc,gl,he]
    exact ⟨_,rfl,ret0 _ (by omega)⟩
   ·rw[decide_eq_false cb] at he
    by_cases ci:i = X.evs.length
    ·have ci':(((i:Nat):Int) == ((X.evs.length:Nat):Int)) = true:=by rw[ci];simp
     have hpre:∀ j,j < 2→CoPre X j (cs0 j):=fun j hj => by
      refine ⟨fun v hv => ?_,by simp[cs0],[],rfl⟩
      obtain rfl:v = (j:Int):=by simpa [cs0] using hv
      refine ⟨by omega,by omega,?_⟩
      rw[Int.toNat_natCast,hfst j hj]
      simp[isWr,wE]
     have hco:=fun g1 e1 e2 e3 e4 e5 => rp_co h122 h131 (P:=P) (X:=X) (Eb:=Eb) (R:=R) (C:=C) (rf:=rf) hlocs hn hn2 (fun w hw => by rw[hfst w hw];rfl) hrl (fun cs h => hP rf cs hrl (fun j hj => hok j (by omega)) h) ⟨ne1,ne2,ne3⟩ _ 0 cs0 ts L t g1 (Nat.le_refl _) (by omega) e1 e2 e3 e4 e5 hpre (fun j hj => absurd hj (Nat.not_lt_zero j))
     rw[hgf] at hco
     simp (disch:=omega) only[A_xref13_E_rf,wp,qa,qb,qc,gl,he,ci',p8,hgf]
     refine bindO_call _ (hco _ (en.mv (fun i hi => upd_ne _ _ (by omega)) ?_ (fun i hi => ?_)) ((upd_ne _ _ (by omega)).trans hr) ((upd_ne _ _ (by omega)).trans hc) ?_ ?_) ?_
     ·first | omega | (dsimp only;omega)
     ·try dsimp only at hi
      rw[upd_ne _ _ (by omega)];exact en.fresh i (by omega)
     ·first | omega | (dsimp only;omega)
     ·first | omega | (dsimp only;omega)
     ·rintro v g2 ⟨L2,t2,en2,fr2⟩
      have fx:=fr2.nx
      dsimp only at fx
      simp (disch:=omega) only[wp,qa,qb,qc,gl]
      exact ⟨_,rfl,⟨L2,t2,en2⟩,⟨rf,fr2.cells (by first | omega | (dsimp only;omega)) (by omega) ((upd_ne _ _ (by omega)).trans hr),hrl,fun _ _ => rfl⟩,⟨by omega,fun i hi a b c => by
       have h1:upd g.hp g.nx (some (.cells [.i .i64 2,.sl (evsC X.evs) X.evs.length .non,.ms R 0 X.evs.length,.ms C 0 2,.sl (pairsC X.rmw) X.rmw.length .non,.sl (pairsC X.data) X.data.length .non,.sl (pairsC X.ctrl) X.ctrl.length .non,.sl (pairsC X.ctrli) X.ctrli.length .non] false)) i = g.hp i:=upd_ne _ _ (by omega)
       exact (fr2.keep i (by first | omega | (dsimp only;omega)) a (fun b' hb' => c b' (h1 ▸ hb'))).trans h1⟩⟩
    ·have ci':(((i:Nat):Int) == ((X.evs.length:Nat):Int)) = false:=by rw[beq_eq_false_iff_ne];omega
     have hev:=ev_part (l:=X.evs) (k:=i) (by omega)
     have hwi:=succ_wrap (k:=i) (by omega)
     have hil:(intsC rf).length = X.evs.length:=by rw[intsC_len,hrl]
     have hrec:=fun rf2 => ih (X.evs.length - (i + 1)) (by omega) (i + 1) rf2
     generalize hre:X.evs.getD i ev0 = r at hev
     by_cases ck:r.kd = 1
     ·have ck':(r.kd != 1) = false:=by simpa using ck
      rw[evC] at hev
      simp (disch:=omega) only[A_xref13_E_rf,wp,qa,qb,qc,gl,he,ci',p8,hgf,hev,l5,s6,ck']
      refine blk_end (fun e g' => ∃ L1 t1 rf1,RfW P X Eb R C g.nx (g.nx + 1 + 4 + 5 + 5) ts rf i g X.evs.length L1 t1 rf1 e g') ?_ ?_
      ·refine W_loop (fun q e g' => ∃ (w:Nat) (L1:List Gr) (t1:Tok) (rf1:List Int),q = X.evs.length - w∧RfW P X Eb R C g.nx (g.nx + 1 + 4 + 5 + 5) ts rf i g w L1 t1 rf1 e g') X.evs.length ?_ ?_
       ·refine ⟨0,L,t,rf,rfl,Nat.zero_le _,rfl,rfl,rfl,rfl,rfl,?_,?_,?_,hrl,fun _ _ => rfl,?_,en.mv (fun i2 h2 => ?_) ?_ (fun i2 h2 => ?_),⟨by first | omega | (dsimp only;omega),fun i2 h2 _ _ _ => ?_⟩,⟨by omega,by omega,by first | omega | (dsimp only;omega),by first | omega | (dsimp only;omega)⟩,⟨hR,hC,hEl⟩⟩
        ·simp (disch:=omega) only[upd_ne,upd_same];rw[hgf]
        ·rw[hre];exact upd_same _ _ _
        ·simp (disch:=omega) only[upd_ne];exact hr
        ·simp (disch:=omega) only[upd_ne];exact hc
        ·simp (disch:=omega) only[upd_ne]
        ·first | omega | (dsimp only;omega)
        ·try dsimp only at h2
         simp (disch:=omega) only[upd_ne]
         exact en.fresh i2 (by omega)
        ·simp (disch:=omega) only[upd_ne]
       ·rintro q e g1 ⟨w,L1,t1,rf1,rfl,I⟩
        have e0:=I.e0
        have e2:=I.e2
        have e4:=I.e4
        have e6:=I.e6
        have e7:=I.e7
        have h4:=I.h4
        have h6:=I.h6
        have hr1:=I.hr
        have hc1:=I.hc
        have hx1:=I.fr.nx
        obtain ⟨b1,b2,b3,b4⟩:=I.bs
        rw[hgf] at h4
        rw[hre,evC] at h6
        by_cases d1:w < X.evs.length
        ·have d1':((w:Nat):Int) < ((X.evs.length:Nat):Int):=by omega
         have hevx:=ev_part d1
         have hww:=succ_wrap (k:=w) (by omega)
         have hil1:(intsC rf1).length = X.evs.length:=by rw[intsC_len,I.rl]
         generalize hxe:X.evs.getD w ev0 = x at hevx
         rw[evC] at hevx
         have next:∀ (e':Env) (hp':Nat→Option Blk) (m:Nat),e' 0 = e 0→e' 2 = e 2→e' 4 = e 4→e' 6 = e 6→e' 7 = .i .i64 ((w + 1:Nat):Int)→(∀ i,i < g1.nx→hp' i = g1.hp i)→g1.nx≤m→(∀ i,m≤i→hp' i = none) →
           ∃ m',m' < X.evs.length - w∧∃ (w:Nat) (L1:List Gr) (t1:Tok) (rf1:List Int),m' = X.evs.length - w∧RfW P X Eb R C g.nx (g.nx + 1 + 4 + 5 + 5) ts rf i g w L1 t1 rf1 e' ⟨hp',m⟩:=fun e' hp' m a0 a2 a4 a6 a7 hk hm hf => by
          have J:=I.mv (e':=upd e' 7 (e 7)) a0 a2 a4 a6 rfl hk hm hf
          exact ⟨X.evs.length - (w + 1),by omega,w + 1,L1,t1,rf1,rfl,⟨by omega,J.e0,J.e2,J.e4,J.e6,a7,J.h4,J.h6,J.hr,J.rl,J.rp,J.hc,J.en,J.fr,J.bs,J.rc⟩⟩
         cases k1:(x.kd == 2) with
         | false =>
           simp (disch:=omega) only[wp,qa,qb,qc,gl,e0,e2,e4,e6,e7,h4,h6,d1',hevx,l5,s6,k1,hww]
           refine next _ _ _ rfl rfl rfl rfl rfl (fun i2 h2 => ?_) (by omega) (fun i2 h2 => ?_)
           ·simp (disch:=omega) only[upd_ne]
           ·simp (disch:=omega) only[upd_ne];exact I.en.fresh i2 (by omega)
         | true =>
         cases k2:(x.lc == r.lc) with
         | false =>
           simp (disch:=omega) only[wp,qa,qb,qc,gl,e0,e2,e4,e6,e7,h4,h6,d1',hevx,l5,s6,k1,k2,hww]
           refine next _ _ _ rfl rfl rfl rfl rfl (fun i2 h2 => ?_) (by omega) (fun i2 h2 => ?_)
           ·simp (disch:=omega) only[upd_ne]
           ·simp (disch:=omega) only[upd_ne];exact I.en.fresh i2 (by omega)
         | true =>
         cases k3:(x.vl == r.vl) with
         | false =>
           simp (disch:=omega) only[wp,qa,qb,qc,gl,e0,e2,e4,e6,e7,h4,h6,d1',hevx,l5,s6,k1,k2,k3,hww]
           refine next _ _ _ rfl rfl rfl rfl rfl (fun i2 h2 => ?_) (by omega) (fun i2 h2 => ?_)
           ·simp (disch:=omega) only[upd_ne]
           ·simp (disch:=omega) only[upd_ne];exact I.en.fresh i2 (by omega)
         | true =>
           have hrec:=hrec (rf1.set i (w:Int)) L1 t1
           rw[hgf] at hrec
           have hok2:∀ j,j < i + 1→RfOk (putX X (rf1.set i (w:Int)) []) j:=fun j hj => by
            by_cases hji:j = i
            ·subst hji
             have hs:(rf1.set j (w:Int)).getD j 0 = (w:Int):=by
              rw[List.getD_eq_getElem?_getD,List.getElem?_set_self (by have:=I.rl;omega)];rfl
             refine ⟨fun h => absurd ?_ h,fun _ => ?_⟩
             ·show (X.evs.getD j ev0).kd = 1
              rw[hre];exact ck
             ·show 0≤(rf1.set j (w:Int)).getD j 0∧(rf1.set j (w:Int)).getD j 0 < X.evs.length∧(X.evs.getD ((rf1.set j (w:Int)).getD j 0).toNat ev0).kd = 2∧(X.evs.getD ((rf1.set j (w:Int)).getD j 0).toNat ev0).lc = (X.evs.getD j ev0).lc∧(X.evs.getD ((rf1.set j (w:Int)).getD j 0).toNat ev0).vl = (X.evs.getD j ev0).vl
              rw[hs,Int.toNat_natCast,hxe,hre]
              exact ⟨by omega,by omega,by simpa using k1,by simpa using k2,by simpa using k3⟩
            ·exact (hok j (by omega)).congr (by rw[List.getD_eq_getElem?_getD,List.getElem?_set_ne (by omega),←List.getD_eq_getElem?_getD,I.rp j (by omega)])
           simp (disch:=omega) only[wp,qa,qb,qc,gl,e0,e2,e4,e6,e7,h4,h6,d1',hevx,l5,s6,k1,k2,k3,hr1,hil1,intsC_set,hwi,p8]
           have hR1:R < g1.nx:=by omega
           have hC1:C < g1.nx:=by omega
           refine bindO_call _ (hrec _ (Nat.le_refl _) (by omega) (I.en.mvR I.hr ne1 (fun i2 h2 h3 => ?_) ?_ (fun i2 h2 => ?_)) (upd_same _ _ _) (by rw[List.length_set,I.rl]) ?_ ?_ ?_ hok2) ?_
           ·simp (disch:=omega) only[upd_ne]
           ·first | omega | (dsimp only;omega)
           ·try dsimp only at h2
            simp (disch:=omega) only[upd_ne]
            exact I.en.fresh i2 (by omega)
           ·simp (disch:=omega) only[upd_ne];exact I.hc
           ·first | omega | (dsimp only;omega)
           ·first | omega | (dsimp only;omega)
           ·rintro v g3 ⟨⟨L3,t3,en3⟩,⟨rf3,hr3,rl3,rp3⟩,fr3⟩
            have fx:=fr3.nx
            dsimp only at fx
            have hEl1:=I.en.lt
            have k3:∀ i2,i2 < g1.nx→i2≠Eb→i2≠R→(∀ b,g1.hp i2≠some (.tok b))→g3.hp i2 = g1.hp i2:=fun i2 h2 a b c => by
             rw[fr3.keep i2 (by first | omega | (dsimp only;omega)) a b (fun b' hb' => by
              simp (disch:=omega) only[upd_ne] at hb'
              exact c b' hb')]
             simp (disch:=omega) only[upd_ne]
            have kc:∀ i2 cs ro,i2 < g1.nx→i2≠Eb→i2≠R→g1.hp i2 = some (.cells cs ro)→g3.hp i2 = some (.cells cs ro):=fun i2 cs ro h2 a b h => by
             rw[k3 i2 h2 a b (fun b' hb' => by rw[h] at hb';cases hb'),h]
            simp (disch:=omega) only[wp,qa,qb,qc,gl,e7,hww]
            refine ⟨X.evs.length - (w + 1),by omega,w + 1,L3,t3,rf3,rfl,by omega,e0,e2,e4,e6,rfl,?_,?_,hr3,rl3,fun j hj => ?_,kc C _ _ hC1 (by omega) (by omega) I.hc,en3.mv (fun i hi => rfl) (by first | omega | (dsimp only;omega)) (fun i hi => en3.fresh i (by first | omega | (dsimp only at hi;omega))),⟨by first | omega | (dsimp only;omega),fun i2 h2 a b c => ?_⟩,⟨by omega,by omega,by first | omega | (dsimp only;omega),by first | omega | (dsimp only;omega)⟩,⟨hR,hC,hEl⟩⟩
            ·exact kc _ _ _ b3 (by omega) (by omega) I.h4
            ·exact kc _ _ _ b4 (by omega) (by omega) I.h6
            ·rw[rp3 j (by omega),List.getD_eq_getElem?_getD,List.getElem?_set_ne (by omega),←List.getD_eq_getElem?_getD,I.rp j hj]
            ·have h1:=I.fr.keep i2 h2 a b c
             exact (k3 i2 (by omega) a b (fun b' hb' => c b' (h1 ▸ hb'))).trans h1
        ·have d1':¬ ((w:Nat):Int) < ((X.evs.length:Nat):Int):=by omega
         obtain rfl:w = X.evs.length:=by have:=I.hw;omega
         simp (disch:=omega) only[wp,qa,qb,qc,gl,e0,e2,e4,e6,e7,h4,d1']
         exact ⟨L1,t1,rf1,I.mv rfl rfl rfl rfl rfl (fun i hi => rfl) (by first | omega | (dsimp only;omega)) (fun i hi => I.en.fresh i (by first | omega | (dsimp only at hi;omega)))⟩
      ·rintro e g1 ⟨L1,t1,rf1,I⟩
       simp (disch:=omega) only[wp,qa,qb,qc,gl]
       exact ⟨_,rfl,⟨L1,t1,I.en⟩,⟨rf1,I.hr,I.rl,I.rp⟩,I.fr⟩
     ·have ck':(r.kd != 1) = true:=by simpa using ck
      have hrec:=hrec (rf.set i (-1)) L t
      rw[hgf] at hrec
      have hok2:∀ j,j < i + 1→RfOk (putX X (rf.set i (-1)) []) j:=fun j hj => by
       by_cases hji:j = i
       ·subst hji
        refine ⟨fun _ => ?_,fun h => absurd h ?_⟩
        ·show (rf.set j (-1)).getD j 0 = -1
         rw[List.getD_eq_getElem?_getD,List.getElem?_set_self (by omega)];rfl
        ·show ¬ (X.evs.getD j ev0).kd = 1
         rw[hre];exact ck
       ·exact (hok j (by omega)).congr (by rw[List.getD_eq_getElem?_getD,List.getD_eq_getElem?_getD,List.getElem?_set_ne (by omega)])
      rw[evC] at hev
      simp (disch:=omega) only[A_xref13_E_rf,wp,qa,qb,qc,gl,he,ci',p8,hgf,hev,l5,s6,ck',hr,hil,intsC_set,hwi]
      refine bindO_call _ (hrec _ (Nat.le_refl _) (by omega) (EnS.mv (g:=⟨upd g.hp R (some (.cells (intsC (rf.set i (-1))) false)),g.nx⟩) ⟨(upd_ne _ _ ne1).trans en.he,en.tk.mono (fun i2 h2 => upd_ne _ _ (fun hh => by
        rcases en.tk with h | ⟨i',h,h1,h3⟩
        ·rw[h] at h2;cases h2
        ·rw[h] at h2;cases h2;rw[hh,hr] at h1;cases h1)) (Nat.le_refl _),en.ll,en.ok,hEl,fun i2 h2 => (upd_ne _ _ (by dsimp only at h2;omega)).trans (en.fresh i2 h2)⟩ (fun i2 h2 => ?_) ?_ (fun i2 h2 => ?_)) (upd_same _ _ _) (by rw[List.length_set,hrl]) ?_ ?_ ?_ hok2) ?_
      ·dsimp only at h2
       by_cases hh:i2 = R
       ·subst hh;simp (disch:=omega) only[upd_same]
       ·simp (disch:=omega) only[upd_ne]
      ·first | omega | (dsimp only;omega)
      ·try dsimp only at h2
       simp (disch:=omega) only[upd_ne]
       exact en.fresh i2 (by omega)
      ·simp (disch:=omega) only[upd_ne];exact hc
      ·first | omega | (dsimp only;omega)
      ·first | omega | (dsimp only;omega)
      ·rintro v g2 ⟨⟨L2,t2,en2⟩,⟨rf2,hr2,rl2,rp2⟩,fr2⟩
       have fx:=fr2.nx
       dsimp only at fx
       simp (disch:=omega) only[wp,qa,qb,qc,gl]
       refine ⟨_,rfl,⟨L2,t2,en2⟩,⟨rf2,hr2,rl2,fun j hj => (rp2 j (by omega)).trans (by rw[List.getD_eq_getElem?_getD,List.getD_eq_getElem?_getD,List.getElem?_set_ne (by omega)])⟩,⟨by omega,fun i2 h2 a b c => ?_⟩⟩
       rw[fr2.keep i2 (by first | omega | (dsimp only;omega)) a b (fun b' hb' => by
        simp (disch:=omega) only[upd_ne] at hb'
        exact c b' hb')]
       simp (disch:=omega) only[upd_ne]
end Go.Ab
end
section
set_option linter.unusedVariables false
set_option linter.unusedSimpArgs false
namespace Go.Ab
variable {F:Funs}
structure GrP (X Y:Gr):Prop where
 is:∃ (rf:List Int) (cs:Nat→List Int),Y = putX X rf [cs 0,cs 1]∧rf.length = X.evs.length∧(∀ i,i < X.evs.length→RfOk (putX X rf []) i)∧∀ j,j < 2→CoPre X j (cs j)∧CoFull X j (cs j)
def coFn (i:Nat):List AV:=[if 0 < i then .sl [.i .i64 0] 1 .rig else .sl [] 0 .rig,if 1 < i then .sl [.i .i64 1] 1 .rig else .sl [] 0 .rig]
theorem flat_rep (n:Nat):(List.replicate n [AV.i .i64 0]).flatten = intsC (List.replicate n 0):=by
 induction n with
 | zero => rfl
 | succ n ih => rw[List.replicate_succ,List.flatten_cons,ih,List.replicate_succ];rfl
structure FnI (X:Gr) (B3 R C Eb:Nat) (i:Nat) (e:Env) (g0 g:G):Prop where
 hi:i≤2
 e0:e 0 = .mp Eb 0
 e3:e 3 = .mp B3 0
 e4:e 4 = .i .i64 ((i:Nat):Int)
 h3:g.hp B3 = some (.cells (gfC X R C) false)
 hr:g.hp R = some (.cells (intsC (List.replicate X.evs.length 0)) false)
 hc:g.hp C = some (.cells (coFn i) false)
 ol:∀ i,i < g0.nx→g.hp i = g0.hp i
 lt:g0.nx≤B3∧g0.nx≤R∧g0.nx≤C∧B3 < g.nx∧R < g.nx∧C < g.nx∧B3≠C∧R≠C
 fresh:∀ i,g.nx≤i→g.hp i = none
 nx:g0.nx≤g.nx
theorem rp_finish (h91:F 91 = some A_xref13_E_Finish) (h106:F 106 = some A_xref13_E_rf) (h122:F 122 = some A_xref13_E_co) (h131:F 131 = some A_xref13_copied) {P:Gr→Prop} {X:Gr} {Eb:Nat} {L:List Gr} {t:Tok} {g:G}
  (hlocs:X.locs = 2) (hrf:X.rf = []) (hco:X.co = []) (hn:X.evs.length≤100) (hn2:2≤X.evs.length) (hfst:∀ w:Nat,w < 2→X.evs.getD w ev0 = wE w) (hP:∀ Y,GrP X Y→P Y) (en:EnS P Eb L t g):
  ∃ v g',callS F 91 [.mp Eb 0,.agg (grC X)] g = some (v,g')∧CoP P Eb g g':=by
 refine raw_of (P:=fun v g' => CoP P Eb g g') h91 ?_
 have hEl:=en.lt
 have hgr:grC X = [.i .i64 2,.sl (evsC X.evs) X.evs.length .non,.sl [] 0 .non,.sl [] 0 .non,.sl (pairsC X.rmw) X.rmw.length .non,.sl (pairsC X.data) X.data.length .non,.sl (pairsC X.ctrl) X.ctrl.length .non,.sl (pairsC X.ctrli) X.ctrli.length .non]:=by rw[grC,hlocs,hrf,hco];rfl
 have hgf:∀ R C,gfC X R C = [.i .i64 2,.sl (evsC X.evs) X.evs.length .non,.ms R 0 X.evs.length,.ms C 0 2,.sl (pairsC X.rmw) X.rmw.length .non,.sl (pairsC X.data) X.data.length .non,.sl (pairsC X.ctrl) X.ctrl.length .non,.sl (pairsC X.ctrli) X.ctrli.length .non]:=fun R C => by rw[gfC,hlocs]
 have p8:∀ c1 c2 c3 c4 c5 c6 c7 c8:AV,part [c1,c2,c3,c4,c5,c6,c7,c8] 0 (some 8) = some (.agg [c1,c2,c3,c4,c5,c6,c7,c8]):=fun _ _ _ _ _ _ _ _ => rfl
 have mk2:∀ (id:Nat) (g:G),vMksl id [.sl [] 0 .rig] 1 24 (.i .i64 2) (.i .i64 2) g = some (.ms id 0 2,⟨upd g.hp id (some (.cells [.sl [] 0 .rig,.sl [] 0 .rig] false)),g.nx⟩):=fun id g => by
  have:=vMksl_ms (id:=id) (z:=[.sl [] 0 .rig]) (b:=24) (n:=2) (g:=g) (by omega) (by omega) (by omega) rfl
  exact this
 have mk1:∀ (id:Nat) (g:G),vMksl id [.i .i64 0] 1 8 (.i .i64 ((X.evs.length:Nat):Int)) (.i .i64 ((X.evs.length:Nat):Int)) g = some (.ms id 0 X.evs.length,⟨upd g.hp id (some (.cells (intsC (List.replicate X.evs.length 0)) false)),g.nx⟩):=fun id g => by
  have:=vMksl_ms (id:=id) (z:=[.i .i64 0]) (b:=8) (n:=X.evs.length) (g:=g) (by omega) (by omega) (by omega) rfl
  rw[flat_rep] at this
  exact this
 rw[hgr]
 simp (disch:=omega) only[A_xref13_E_Finish,wp,qa,qb,qc,gl,o_mksl,mk1,mk2]
 refine blk_cut (fun e g' => FnI X g.nx (g.nx + 1 + 3) (g.nx + 1 + 6 + 2) Eb 2 e g g') ?_ ?_
 ·refine W_loop (fun q e g' => ∃ i:Nat,q = 2 - i∧FnI X g.nx (g.nx + 1 + 3) (g.nx + 1 + 6 + 2) Eb i e g g') 2 ?_ ?_
  ·refine ⟨0,rfl,by omega,rfl,rfl,rfl,?_,?_,?_,fun i hi => ?_,⟨by omega,by omega,by omega,by first | omega | (dsimp only;omega),by first | omega | (dsimp only;omega),by first | omega | (dsimp only;omega),by omega,by omega⟩,fun i hi => ?_,by first | omega | (dsimp only;omega)⟩
   ·simp (disch:=omega) only[upd_ne,upd_same];rw[hgf]
   ·simp (disch:=omega) only[upd_ne,upd_same]
   ·simp (disch:=omega) only[upd_ne,upd_same];rfl
   ·simp (disch:=omega) only[upd_ne]
   ·try dsimp only at hi
    simp (disch:=omega) only[upd_ne]
    exact en.fresh i (by omega)
  ·rintro q e g1 ⟨i,rfl,hi,e0,e3,e4,h3,hr,hc,ol,⟨l1,l2,l3,l4,l5,l6,l7,l8⟩,fresh,hx⟩
   rw[hgf] at h3
   have hwi:=succ_wrap (k:=i) (by omega)
   by_cases d1:i < 2
   ·have d1':((i:Nat):Int) < 2:=by omega
    have hset:(coFn i).length = 2∧(coFn i).set (i * 1) (.sl [.i .i64 ((i:Nat):Int)] 1 .rig) = coFn (i + 1):=by
     have:i = 0∨i = 1:=by omega
     rcases this with rfl | rfl<;>exact ⟨rfl,rfl⟩
    obtain ⟨hcl,hset⟩:=hset
    simp (disch:=omega) only[wp,qa,qb,qc,gl,e0,e3,e4,h3,hc,d1',hcl,hset,hwi]
    refine ⟨2 - (i + 1),by omega,i + 1,rfl,by omega,e0,e3,rfl,?_,?_,upd_same _ _ _,fun j hj => ?_,⟨l1,l2,l3,by first | omega | (dsimp only;omega),by first | omega | (dsimp only;omega),by first | omega | (dsimp only;omega),l7,l8⟩,fun j hj => ?_,by first | omega | (dsimp only;omega)⟩
    ·rw[hgf];exact (upd_ne _ _ l7).trans h3
    ·exact (upd_ne _ _ l8).trans hr
    ·exact (upd_ne _ _ (by omega)).trans (ol j hj)
    ·try dsimp only at hj
     exact (upd_ne _ _ (by omega)).trans (fresh j (by omega))
   ·have d1':¬ ((i:Nat):Int) < 2:=by omega
    obtain rfl:i = 2:=by omega
    simp (disch:=omega) only[wp,qa,qb,qc,gl,e0,e3,e4,h3,d1']
    exact ⟨Nat.le_refl _,e0,e3,e4,by rw[hgf];exact h3,hr,hc,ol,⟨l1,l2,l3,by first | omega | (dsimp only;omega),by first | omega | (dsimp only;omega),by first | omega | (dsimp only;omega),l7,l8⟩,fun j hj => fresh j (by first | omega | (dsimp only at hj;omega)),by first | omega | (dsimp only;omega)⟩
 ·rintro e g1 ⟨_,e0,e3,e4,h3,hr,hc,ol,⟨l1,l2,l3,l4,l5,l6,l7,l8⟩,fresh,hx⟩
  have hrun:=fun g2 a1 a2 a3 a4 a5 => rp_rf h106 h122 h131 (P:=P) (X:=X) (Eb:=Eb) (R:=g.nx + 1 + 3) (C:=g.nx + 1 + 6 + 2) (ts:=fun _ => .rig) hlocs hn hn2 hfst (fun rf cs h1 h2 h3 => hP _ ⟨rf,cs,rfl,h1,h2,h3⟩) ⟨by omega,by omega,by omega⟩ X.evs.length 0 (List.replicate X.evs.length 0) L t g2 (by omega) (by omega) a1 a2 (by simp) a3 a4 a5 (fun j hj => absurd hj (Nat.not_lt_zero j))
  rw[hgf] at h3 hrun
  simp (disch:=omega) only[wp,qa,qb,qc,gl,e0,e3,h3,p8]
  refine bindO_call _ (hrun _ (en.mv ol ?_ (fun i hi => ?_)) hr hc ?_ ?_) ?_
  ·first | omega | (dsimp only;omega)
  ·exact fresh i (by first | omega | (dsimp only at hi;omega))
  ·first | omega | (dsimp only;omega)
  ·first | omega | (dsimp only;omega)
  ·rintro v g3 ⟨⟨L3,t3,en3⟩,_,fr3⟩
   have fx:=fr3.nx
   dsimp only at fx
   simp (disch:=omega) only[wp,qa,qb,qc,gl]
   exact ⟨_,rfl,L3,t3,en3,⟨by omega,fun i hi hb ht => by
    have h1:=ol i hi
    exact (fr3.keep i (by first | omega | (dsimp only;omega)) hb (by omega) (fun b hb' => ht b (h1 ▸ hb'))).trans h1⟩⟩
end Go.Ab
end
section
set_option linter.unusedVariables false
set_option linter.unusedSimpArgs false
namespace Go.Ab
variable {F:Funs}
structure EnF (F:Funs):Prop where
 ch:ChF F
 run:RunF F
 skel:F 90 = some A_xref07_Skeleton
 first:F 103 = some A_xref07_First
 lay:F 105 = some A_xref07_Lay
 moved:F 121 = some A_xref07_moved
 all:F 78 = some A_xref13_All
 vals:F 88 = some A_xref13_Values
 lots:F 89 = some A_xref13_Lots
 fin:F 91 = some A_xref13_E_Finish
 vrec:F 101 = some A_xref13_values
 dom:F 102 = some A_xref13_Domain
 rf:F 106 = some A_xref13_E_rf
 co:F 122 = some A_xref13_E_co
 cop:F 131 = some A_xref13_copied
def PgG (ths:List (List Ins)) (dom:List Int) (Y:Gr):Prop:=∃ lots,LotOk ths lots∧(∀ i,i < ths.length→∀ x∈lots.getD i [],x∈domF dom)∧GrP (skX ths lots ths.length) Y
structure AlI (ths:List (List Ins)) (dom:List Int) (k:Nat) (all:List (List (List Int))) (t:Tok) (e:Env) (g:G):Prop where
 hk:k≤ths.length
 e1:e 1 = .sl (intsC dom) dom.length .non
 e2:e 2 = .mp 0 0
 e6:e 6 = .sl (ccC all) k t
 e7:e 7 = .i .i64 ((k:Nat):Int)
 h0:g.hp 0 = some (.cells [.i .i64 2,.sl (thsC ths) ths.length .non] false)
 tk:TkOk 1 g t
 al:all.length = k
 ok:∀ j,j < k→(∀ h∈all.getD j [],VlOk (ths.getD j []) (domF dom) h)∧(all.getD j []).length≤20001
 nx:0 < g.nx
 fresh:∀ i,g.nx≤i→g.hp i = none
theorem skX_two {ths lots} (hk:∀ i,i < ths.length→ThK (ths.getD i [])) {i:Nat} (hi:i≤ths.length):2≤(skX ths lots i).evs.length∧∀ w:Nat,w < 2→(skX ths lots i).evs.getD w ev0 = wE w:=by
 obtain ⟨rest,h2,_⟩:=(skX_inv (lots:=lots) hk i hi).1.two
 rw[h2]
 refine ⟨by simp,fun w hw => ?_⟩
 have:w = 0∨w = 1:=by omega
 rcases this with rfl | rfl<;>rfl
structure AlJ (ths:List (List Ins)) (dom:List Int) (ls:List (List (List Int))) (Eb i:Nat) (L:List Gr) (t:Tok) (e:Env) (g:G):Prop where
 hi:i≤ls.length
 e2:e 2 = .mp 0 0
 e8:e 8 = .mp Eb 0
 e9:e 9 = .sl (ccC ls) ls.length .non
 e10:e 10 = .i .i64 ((i:Nat):Int)
 h0:g.hp 0 = some (.cells [.i .i64 2,.sl (thsC ths) ths.length .non] false)
 en:EnS (PgG ths dom) Eb L t g
 ne:0 < Eb
theorem sp13_all (A:EnF F) {ths:List (List Ins)} {K:Nat} (PK:PgK ths K) (dom:List Int) (hd:dom.length≤1000000):
  ∃ (L:List Gr) (c:Int),pureS F 78 [.agg [.i .i64 2,.sl (thsC ths) ths.length .non],.sl (intsC dom) dom.length .non] = some (.tup [.sl (gsC L) L.length .non,.i .i64 c])∧(∀ Y∈L,PgG ths dom Y)∧L.length≤20001:=by
 have key:∃ v,pureS F 78 [.agg [.i .i64 2,.sl (thsC ths) ths.length .non],.sl (intsC dom) dom.length .non] = some v∧∃ (L:List Gr) (c:Int),v = .tup [.sl (gsC L) L.length .non,.i .i64 c]∧(∀ Y∈L,PgG ths dom Y)∧L.length≤20001:=by
  refine pureV_of A.all ?_
  have hck:=sp4_check A.ch PK
  have h4:=PK.four
  have f2:∀ hp,frz hp depth (.agg [.i .i64 2,.sl (thsC ths) ths.length .non]) = some (.agg [.i .i64 2,.sl (thsC ths) ths.length .non]):=fun hp => by
   refine frz_d_agg ?_
   show frzL _ (7 + 1) _ = _
   simp only[frzL,frz]
  have v2:∀ hp,vis hp depth (.agg [.i .i64 2,.sl (thsC ths) ths.length .non]) = []:=fun hp => by
   show vis hp (8 + 1) _ = _
   simp only[vis,List.flatMap_cons,List.flatMap_nil]
   rfl
  have l7:∀ x:AV,List.replicate 7 x = [x,x,x,x,x,x,x]:=fun _ => rfl
  have s8:∀ b1 b2 b3 b4 b5 b6 b7 b8 c1 c2 c3 c4 c5 c6 c7 c8:AV,splice [b1,b2,b3,b4,b5,b6,b7,b8] 0 [c1,c2,c3,c4,c5,c6,c7,c8] = [c1,c2,c3,c4,c5,c6,c7,c8]:=fun _ _ _ _ _ _ _ _ _ _ _ _ _ _ _ _ => rfl
  have p8:∀ c1 c2 c3 c4 c5 c6 c7 c8:AV,part [c1,c2,c3,c4,c5,c6,c7,c8] 0 (some 8) = some (.agg [c1,c2,c3,c4,c5,c6,c7,c8]):=fun _ _ _ _ _ _ _ _ => rfl
  simp (disch:=omega) only[A_xref13_All,wp,qa,qb,qc,gl,l7,hck,f2,Int.reduceBNe]
  refine blk_cut (fun e g => ∃ all t,AlI ths dom ths.length all t e g) ?_ ?_
  ·refine W_loop (fun q e g => ∃ (k:Nat) (all:List (List (List Int))) (t:Tok),q = ths.length - k∧AlI ths dom k all t e g) ths.length ?_ ?_
   ·refine ⟨0,[],.rig,rfl,Nat.zero_le _,rfl,rfl,rfl,rfl,rfl,.inl rfl,rfl,fun j hj => absurd hj (Nat.not_lt_zero j),by first | omega | (dsimp only;omega),fun i hi => ?_⟩
    try dsimp only at hi
    simp (disch:=omega) only[upd_ne]
   ·rintro q e g ⟨k,all,t,rfl,hk,e1,e2,e6,e7,h0,tk,al,ok,hx,fresh⟩
    by_cases c1:k < ths.length
    ·have c1':((k:Nat):Int) < ((ths.length:Nat):Int):=by omega
     have hth:=th_at c1
     have hwk:=succ_wrap (k:=k) (by omega)
     obtain ⟨V,hv,hvo,hvl⟩:=sp13_values A.ch A.run A.vals A.vrec A.dom (PK.th k c1) dom hd
     have hcl:(ccC all).length = k * 1:=by rw[ccC_len,al,Nat.mul_one]
     simp (disch:=omega) only[wp,qa,qb,qc,gl,e1,e2,e6,e7,h0,c1',hth,hv]
     refine bindO_app (esz:=1) (tk.mono (fun i hi => rfl) (by first | omega | (dsimp only;omega))) (fun i hi => allow_no _ _ _) ⟨by omega,by omega,hcl,rfl⟩ ?_
     intro t2 hp2 ar2
     have h02:hp2 0 = some (.cells [.i .i64 2,.sl (thsC ths) ths.length .non] false):=by
      rw[ar2.keep 0 (by omega) (fun e h => by
       rcases tk with h4 | ⟨i',h4,h5,h6⟩
       ·rw[h4] at h;cases h
       ·rw[h4] at h;cases h;rw[h0] at h5;cases h5)]
      exact h0
     simp (disch:=omega) only[wp,qa,qb,qc,gl,e7,hwk]
     refine ⟨ths.length - (k + 1),by omega,k + 1,all ++ [V],t2,rfl,by omega,e1,e2,?_,rfl,h02,ar2.ok (by first | omega | (dsimp only;omega)),by simp[al],fun j hj => ?_,by first | omega | (dsimp only;omega),fun i hi => ?_⟩
     ·show AV.sl _ _ _ = _
      rw[ccC_app];rfl
     ·by_cases hjk:j = k
      ·subst hjk
       have:(all ++ [V]).getD j [] = V:=by rw[List.getD_eq_getElem?_getD,List.getElem?_append_right (by omega),al,Nat.sub_self];rfl
       rw[this]
       exact ⟨hvo,hvl⟩
      ·have:(all ++ [V]).getD j [] = all.getD j []:=by rw[List.getD_eq_getElem?_getD,List.getElem?_append_left (by omega),←List.getD_eq_getElem?_getD]
       rw[this]
       exact ok j (by omega)
     ·try dsimp only at hi
      show hp2 i = none
      rw[ar2.keep i (by omega) (fun e h => by
       rcases tk with h4 | ⟨i',h4,h5,h6⟩
       ·rw[h4] at h;cases h
       ·rw[h4] at h;cases h;omega)]
      exact fresh i (by omega)
    ·have c1':¬ ((k:Nat):Int) < ((ths.length:Nat):Int):=by omega
     obtain rfl:k = ths.length:=by omega
     simp (disch:=omega) only[wp,qa,qb,qc,gl,e1,e2,e6,e7,h0,c1']
     exact ⟨all,t,hk,e1,e2,e6,e7,h0,tk.mono (fun i hi => rfl) (by first | omega | (dsimp only;omega)),al,ok,by first | omega | (dsimp only;omega),fun i hi => fresh i (by first | omega | (dsimp only at hi;omega))⟩
  ·rintro e g ⟨all,t,_,e1,e2,e6,e7,h0,tk,al,ok,hx,fresh⟩
   obtain ⟨ls,hlots,hlo,hll⟩:=sp13_lots A.lots all (by omega) (fun L hL => by
    obtain ⟨j,hj,rfl⟩:=List.mem_iff_getElem.1 hL
    have:=(ok j (by omega)).2
    rw[List.getD_eq_getElem?_getD,List.getElem?_eq_getElem hj] at this
    simp only[Option.getD_some] at this
    omega)
   rw[al] at hlots hlo
   have hlt:∀ lot∈ls,LotOk ths lot∧(∀ i,i < ths.length→∀ x∈lot.getD i [],x∈domF dom):=fun lot hl => ⟨⟨(hlo lot hl).len,fun i hi => ((ok i hi).1 _ ((hlo lot hl).mem i hi)).ok⟩,fun i hi => ((ok i hi).1 _ ((hlo lot hl).mem i hi)).dom⟩
   simp (disch:=omega) only[wp,qa,qb,qc,gl,e6,hlots]
   refine blk_cut (fun e g' => ∃ L t,AlJ ths dom ls (g.nx + 1) ls.length L t e g') ?_ ?_
   ·refine W_loop (fun q e g' => ∃ (i:Nat) (L:List Gr) (t:Tok),q = ls.length - i∧AlJ ths dom ls (g.nx + 1) i L t e g') ls.length ?_ ?_
    ·refine ⟨0,[],.rig,rfl,Nat.zero_le _,e2,rfl,rfl,rfl,?_,⟨?_,.inl rfl,by simp,fun Y hY => absurd hY (List.not_mem_nil),by first | omega | (dsimp only;omega),fun i hi => ?_⟩,by omega⟩
     ·simp (disch:=omega) only[upd_ne];exact h0
     ·simp (disch:=omega) only[upd_same];rfl
     ·try dsimp only at hi
      simp (disch:=omega) only[upd_ne]
      exact fresh i (by omega)
    ·rintro q e g1 ⟨i,L,t1,rfl,hi,e2,e8,e9,e10,h0,en,ne⟩
     have hEl:=en.lt
     by_cases d1:i < ls.length
     ·have d1':((i:Nat):Int) < ((ls.length:Nat):Int):=by omega
      have hwi:=succ_wrap (k:=i) (by omega)
      have hlp:=cc_part d1
      obtain ⟨hlot,hdm⟩:=hlt _ (getD_mem (d:=[]) d1)
      generalize ls.getD i [] = lot at hlp hlot hdm
      have hsk:=sp7_skel A.ch A.run A.skel A.first A.lay A.moved PK hlot
      obtain ⟨inv,hil,hrf,hco⟩:=skX_inv (lots:=lot) PK.th ths.length (Nat.le_refl _)
      obtain ⟨hn2,hfst⟩:=skX_two (lots:=lot) PK.th (Nat.le_refl _)
      have hPg:∀ Y,GrP (skX ths lot ths.length) Y→PgG ths dom Y:=fun Y hY => ⟨lot,hlot,hdm,hY⟩
      have hfn:=fun g2 a => rp_finish A.fin A.rf A.co A.cop (P:=PgG ths dom) (X:=skX ths lot ths.length) (Eb:=g.nx + 1) (L:=L) (t:=t1) (g:=g2) inv.locs hrf hco (by omega) hn2 hfst hPg a
      generalize skX ths lot ths.length = X at hsk hfn
      rw[grC] at hsk hfn
      simp (disch:=omega) only[wp,qa,qb,qc,gl,e2,e8,e9,e10,h0,d1',hlp,f2,v2,hsk,l7,s8,p8,List.getElem?_cons_zero,List.getElem?_cons_succ]
      refine bindO_call _ (hfn _ (en.mv (fun i hi => ?_) ?_ (fun i hi => ?_))) ?_
      ·simp (disch:=omega) only[upd_ne]
      ·first | omega | (dsimp only;omega)
      ·try dsimp only at hi
       simp (disch:=omega) only[upd_ne]
       exact en.fresh i (by omega)
      ·rintro v g3 ⟨L3,t3,en3,fr3⟩
       have h03:=fr3.cells (i:=0) (by first | omega | (dsimp only;omega)) (by omega) (by simp (disch:=omega) only[upd_ne];exact h0)
       simp (disch:=omega) only[wp,qa,qb,qc,gl,e10,hwi]
       exact ⟨ls.length - (i + 1),by omega,i + 1,L3,t3,rfl,by omega,e2,e8,e9,rfl,h03,en3.mv (fun i hi => rfl) (by first | omega | (dsimp only;omega)) (fun i hi => en3.fresh i (by first | omega | (dsimp only at hi;omega))),ne⟩
     ·have d1':¬ ((i:Nat):Int) < ((ls.length:Nat):Int):=by omega
      obtain rfl:i = ls.length:=by omega
      simp (disch:=omega) only[wp,qa,qb,qc,gl,e9,e10,d1']
      exact ⟨L,t1,hi,e2,e8,e9,e10,h0,en.mv (fun i hi => rfl) (by first | omega | (dsimp only;omega)) (fun i hi => en.fresh i (by first | omega | (dsimp only at hi;omega))),ne⟩
   ·rintro e g1 ⟨L,t1,_,e2,e8,e9,e10,h0,en,ne⟩
    have he:=en.he
    by_cases cb:20000 < L.length
    ·rw[decide_eq_true cb] at he
     simp (disch:=omega) only[wp,qa,qb,qc,gl,e8,he]
     refine ⟨.tup [.sl [] 0 .non,.i .i64 4],?_,[],4,rfl,fun Y hY => absurd hY (List.not_mem_nil),by simp⟩
     rw[retQ_ret,res_2]
     show frz _ (8 + 1) (.tup [.sl [] 0 .rig,.i .i64 4]) = _
     simp only[frz,frzL]
     rfl
    ·rw[decide_eq_false cb] at he
     simp (disch:=omega) only[wp,qa,qb,qc,gl,e8,he]
     refine ⟨.tup [.sl (gsC L) L.length .non,.i .i64 0],?_,L,0,rfl,en.ok,en.ll⟩
     rw[retQ_ret,res_2]
     show frz _ (8 + 1) (.tup [.sl (gsC L) L.length t1,.i .i64 0]) = _
     simp only[frz,frzL]
     rfl
 obtain ⟨v,h1,L,c,rfl,h2,h3⟩:=key
 exact ⟨L,c,h1,h2,h3⟩
end Go.Ab
end
section
set_option linter.unusedVariables false
set_option linter.unusedSimpArgs false
namespace Go.Ab
variable {F:Funs}
structure LdI (ths:List (List Ins)) (i n:Nat) (e:Env) (g:G):Prop where
 hi:i≤ths.length
 hn:n≤12 * i
 e1:e 1 = .mp 0 0
 e3:e 3 = .i .i64 ((n:Nat):Int)
 e4:e 4 = .i .i64 ((i:Nat):Int)
 h0:g.hp 0 = some (.cells [.i .i64 2,.sl (thsC ths) ths.length .non] false)
 nx:0 < g.nx
structure LdJ (ths:List (List Ins)) (i k n:Nat) (e:Env) (g:G):Prop where
 hk:k≤(ths.getD i []).length
 hn:n≤12 * i + k
 e1:e 1 = .mp 0 0
 e3:e 3 = .i .i64 ((n:Nat):Int)
 e4:e 4 = .i .i64 ((i:Nat):Int)
 e5:e 5 = .i .i64 ((k:Nat):Int)
 h0:g.hp 0 = some (.cells [.i .i64 2,.sl (thsC ths) ths.length .non] false)
 nx:0 < g.nx
theorem sp_loads (h77:F 77 = some A_xlaw00_Loads) {ths:List (List Ins)} {K:Nat} (PK:PgK ths K):∃ n:Nat,pureS F 77 [.agg [.i .i64 2,.sl (thsC ths) ths.length .non]] = some (.i .i64 ((n:Nat):Int)):=by
 have key:∃ v,pureS F 77 [.agg [.i .i64 2,.sl (thsC ths) ths.length .non]] = some v∧∃ n:Nat,v = .i .i64 ((n:Nat):Int):=by
  refine pureV_of h77 ?_
  have h4:=PK.four
  have l5:∀ x:AV,List.replicate 5 x = [x,x,x,x,x]:=fun _ => rfl
  have s7:∀ b1 b2 b3 b4 b5 b6 b7 c1 c2 c3 c4 c5 c6 c7:AV,splice [b1,b2,b3,b4,b5,b6,b7] 0 [c1,c2,c3,c4,c5,c6,c7] = [c1,c2,c3,c4,c5,c6,c7]:=fun _ _ _ _ _ _ _ _ _ _ _ _ _ _ => rfl
  simp (disch:=omega) only[A_xlaw00_Loads,wp,qa,qb,qc,gl]
  refine blk_cut (fun e g => ∃ n,LdI ths ths.length n e g) ?_ ?_
  ·refine W_loop (fun q e g => ∃ i n:Nat,q = ths.length - i∧LdI ths i n e g) ths.length ?_ ?_
   ·exact ⟨0,0,rfl,Nat.zero_le _,Nat.le_refl _,rfl,rfl,rfl,rfl,by first | omega | (dsimp only;omega)⟩
   ·rintro q e g ⟨i,n,rfl,hi,hn,e1,e3,e4,h0,hx⟩
    by_cases c1:i < ths.length
    ·have c1':((i:Nat):Int) < ((ths.length:Nat):Int):=by omega
     have hth:=th_at c1
     have hwi:=succ_wrap (k:=i) (by omega)
     have hlen:=(PK.th i c1).len
     simp (disch:=omega) only[wp,qa,qb,qc,gl,e1,e3,e4,h0,c1']
     refine blk_end (fun e g => ∃ n,LdJ ths i (ths.getD i []).length n e g) ?_ ?_
     ·refine W_loop (fun q e g => ∃ k n:Nat,q = (ths.getD i []).length - k∧LdJ ths i k n e g) (ths.getD i []).length ?_ ?_
      ·exact ⟨0,n,rfl,Nat.zero_le _,by omega,e1,e3,e4,rfl,h0,by first | omega | (dsimp only;omega)⟩
      ·rintro q e g ⟨k,n,rfl,hk,hn,e1,e3,e4,e5,h0,hx⟩
       by_cases c2:k < (ths.getD i []).length
       ·have c2':((k:Nat):Int) < (((ths.getD i []).length:Nat):Int):=by omega
        have hins:=ins_at c2
        have hln:=ins_ln c2
        have hwk:=succ_wrap (k:=k) (by omega)
        have hwn:=succ_wrap (k:=n) (by omega)
        generalize (ths.getD i []).getD k fence0 = x at hins
        have next:∀ (m:Nat) (e':Env) (hp':Nat→Option Blk) (nx':Nat),m≤n + 1→e' 1 = .mp 0 0→e' 3 = .i .i64 ((m:Nat):Int)→e' 4 = .i .i64 ((i:Nat):Int)→e' 5 = .i .i64 ((k + 1:Nat):Int)→hp' 0 = some (.cells [.i .i64 2,.sl (thsC ths) ths.length .non] false)→0 < nx' →
          ∃ m',m' < (ths.getD i []).length - k∧∃ k n:Nat,m' = (ths.getD i []).length - k∧LdJ ths i k n e' ⟨hp',nx'⟩:=fun m e' hp' nx' a0 a1 a3 a4 a5 ah an =>
         ⟨(ths.getD i []).length - (k + 1),by omega,k + 1,m,rfl,by omega,by omega,a1,a3,a4,a5,ah,an⟩
        unfold insC exV at hins
        cases k1:(x.kd == 1) with
        | true =>
          simp (disch:=omega) only[wp,qa,qb,qc,gl,e1,e3,e4,e5,h0,hth,c2',hins,l5,s7,k1,hwk,hwn]
          exact next (n + 1) _ _ _ (by omega) e1 rfl e4 rfl (by simp (disch:=omega) only[upd_ne];exact h0) (by omega)
        | false =>
          cases k4:(x.kd == 4) with
          | true =>
            simp (disch:=omega) only[wp,qa,qb,qc,gl,e1,e3,e4,e5,h0,hth,c2',hins,l5,s7,k1,k4,hwk,hwn]
            exact next (n + 1) _ _ _ (by omega) e1 rfl e4 rfl (by simp (disch:=omega) only[upd_ne];exact h0) (by omega)
          | false =>
            simp (disch:=omega) only[wp,qa,qb,qc,gl,e1,e3,e4,e5,h0,hth,c2',hins,l5,s7,k1,k4,hwk,hwn]
            exact next n _ _ _ (by omega) e1 e3 e4 rfl (by simp (disch:=omega) only[upd_ne];exact h0) (by omega)
       ·have c2':¬ ((k:Nat):Int) < (((ths.getD i []).length:Nat):Int):=by omega
        obtain rfl:k = (ths.getD i []).length:=by omega
        simp (disch:=omega) only[wp,qa,qb,qc,gl,e1,e3,e4,e5,h0,hth,c2']
        exact ⟨n,hk,hn,e1,e3,e4,e5,h0,by first | omega | (dsimp only;omega)⟩
     ·rintro e g ⟨n,hk,hn,e1,e3,e4,e5,h0,hx⟩
      simp (disch:=omega) only[wp,qa,qb,qc,gl,e4,hwi]
      exact ⟨ths.length - (i + 1),by omega,i + 1,n,rfl,by omega,by omega,e1,e3,rfl,h0,by first | omega | (dsimp only;omega)⟩
    ·have c1':¬ ((i:Nat):Int) < ((ths.length:Nat):Int):=by omega
     obtain rfl:i = ths.length:=by omega
     simp (disch:=omega) only[wp,qa,qb,qc,gl,e1,e3,e4,h0,c1']
     exact ⟨n,hi,hn,e1,e3,e4,h0,by first | omega | (dsimp only;omega)⟩
  ·rintro e g ⟨n,hi,hn,e1,e3,e4,h0,hx⟩
   simp (disch:=omega) only[wp,qa,qb,qc,gl,e3]
   refine ⟨_,?_,n,rfl⟩
   simp (disch:=omega) only[wp,qa,qb,qc]
 obtain ⟨v,h1,n,rfl⟩:=key
 exact ⟨n,h1⟩
end Go.Ab
end
section
set_option linter.unusedVariables false
set_option linter.unusedSimpArgs false
namespace Go.Ab
variable {F:Funs}
structure NumF (F:Funs):Prop where
 en:EnF F
 pg:ProgF F
 prog:F 86 = some A_xlaw00_Prog
 small:F 76 = some A_xlaw00_Small
 loads:F 77 = some A_xlaw00_Loads
 dom:F 79 = some A_xlaw00_Domain
theorem skX_len {ths lots} {K:Nat} (PK:PgK ths K):∀ i,i≤ths.length→(skX ths lots i).evs.length≤2 + 2 * K * i
 | 0,_ => by simp[skX,sk0]
 | i + 1,h => by
   have h1:=skX_len PK i (by omega) (lots:=lots)
   have hth:=PK.th i (by omega)
   have hl:=PK.len i (by omega)
   obtain ⟨r1,r2⟩:=doR_inv (V:=evX) (th:=ths.getD i []) (reads:=lots.getD i []) (fun k hkk => ⟨_,hth.ins k hkk⟩)
   show ((skX ths lots i).evs ++ (doR evX (ths.getD i []) (lots.getD i [])).evs.map (thE ((i:Int) + 1))).length≤_
   rw[List.length_append,List.length_map,Nat.mul_add,Nat.mul_one]
   omega
theorem PgG.evs {ths dom Y} (h:PgG ths dom Y):∃ lots,LotOk ths lots∧GrP (skX ths lots ths.length) Y:=by
 obtain ⟨lots,h1,_,h3⟩:=h
 exact ⟨lots,h1,h3⟩
theorem PgG.ok {ths:List (List Ins)} {dom:List Int} {Y:Gr} {K:Nat} (PK:PgK ths K) (hb:2 + 2 * K * ths.length≤14) (h:PgG ths dom Y):FewG Y∧GraphOk Y∧∃ t:Int,t≤4∧SkInv Y t:=by
 obtain ⟨lots,hlot,rf,cs,rfl,hrl,hok,hcs⟩:=h.evs
 obtain ⟨inv,_,_,_⟩:=skX_inv (lots:=lots) PK.th ths.length (Nat.le_refl _)
 have hlen:=skX_len PK ths.length (Nat.le_refl _) (lots:=lots)
 have h4:=PK.four
 generalize skX ths lots ths.length = X at inv hlen hrl hok hcs
 have inv2:SkInv (putX X rf [cs 0,cs 1]) (ths.length:Int):=⟨inv.locs,inv.two,inv.th,inv.rmw,inv.data,inv.ctrl,inv.ctrli,inv.dl,inv.cl⟩
 have hc:∀ i,i < 2→CoOk (putX X rf [cs 0,cs 1]) i:=fun i hi => by
  refine CoPre.ok (X:=X) (Y:=putX X rf [cs 0,cs 1]) rfl (hcs i hi).1 (hcs i hi).2 ?_
  have:i = 0∨i = 1:=by omega
  rcases this with rfl | rfl<;>rfl
 obtain ⟨a,b⟩:=inv2.ok (by omega) (by show X.evs.length≤14;omega) hrl (fun i hi => hok i hi) rfl hc
 exact ⟨a,b,_,by omega,inv2⟩
theorem sp_dom (h79:F 79 = some A_xlaw00_Domain):pureS F 79 [] = some (.sl (intsC [0,1,2]) 3 .non):=by
 refine pure_of h79 ?_
 simp (disch:=omega) only[A_xlaw00_Domain,wp,qa,qb,qc,intsC]
structure SmK (l:List Int) (ths:List (List Ins)) (K:Nat):Prop where
 pk:PgK ths K
 b:2 + 2 * K * ths.length≤14
 th:∀ t,t < ths.length→ThrOk l ths.length t K (ths.getD t [])
theorem smK_of {l:List Int} {T K:Nat} {ths:List (List Ins)} (h:ths.length = T) (hT:1≤T) (hT4:T≤4) (hb:2 + 2 * K * T≤14) (hK:K≤12) (hth:∀ t,t < T→ThrOk l T t K (ths.getD t [])):SmK l ths K:=by
 subst h
 exact ⟨⟨hT,hT4,fun i hi => (hth i hi).most,fun i hi => (hth i hi).k hK,by omega⟩,hb,hth⟩
theorem sp_small (A:NumF F) (l:List Int) (hl:(l.length:Int)≤9223372036854775807):∃ ths K,pureS F 76 [.sl (intsC l) l.length .non] = some (.agg [.i .i64 2,.sl (thsC ths) ths.length .non])∧SmK l ths K:=by
 have s2:∀ b1 b2 c1 c2:AV,splice [b1,b2] 0 [c1,c2] = [c1,c2]:=fun _ _ _ _ => rfl
 obtain ⟨t3,hp3,hl3,ho3⟩:=sp_prog A.pg A.prog (l:=l) (T:=3) (most:=2) (by omega) (by omega) (by omega) hl
 obtain ⟨t2,hp2,hl2,ho2⟩:=sp_prog A.pg A.prog (l:=l) (T:=2) (most:=3) (by omega) (by omega) (by omega) hl
 have f2:∀ hp (ths:List (List Ins)) (n:Nat) (t:Tok),frz hp depth (.agg [.i .i64 2,.sl (thsC ths) n t]) = some (.agg [.i .i64 2,.sl (thsC ths) n .non]):=fun hp ths n t => by
  refine frz_d_agg ?_
  show frzL _ (7 + 1) _ = _
  simp only[frzL,frz]
 have r3:(pureS F 76 [.sl (intsC l) l.length .non] = some (.agg [.i .i64 2,.sl (thsC t3) 3 .non]))∨(pureS F 76 [.sl (intsC l) l.length .non] = some (.agg [.i .i64 2,.sl (thsC t2) 2 .non])):=by
  by_cases c0:0 < l.length
  ·have c0':(0:Int) < ((l.length:Nat):Int):=by omega
   have hip:part (intsC l) 0 none = some (.i .i64 (l.getD 0 0)):=by have:=ints_part c0;simpa using this
   have hpl:=sp_place A.pg.place (v:=l.getD 0 0) (n:=4) (by omega) (by omega)
   generalize place (l.getD 0 0) 4 = p at hpl
   cases c1:(p == 0) with
   | true =>
     refine .inl (pure_of A.small ?_)
     have hp3':pureS F 86 [.sl (intsC l) l.length .non,.i .i64 3,.i .i64 2] = some (.agg [.i .i64 2,.sl (thsC t3) 3 .non]):=hp3
     simp (disch:=omega) only[A_xlaw00_Small,wp,qa,qb,qc,gl,c0',hip,hpl,c1,hp3',s2,f2,res_cell,resC]
   | false =>
     refine .inr (pure_of A.small ?_)
     have hp2':pureS F 86 [.sl (intsC l) l.length .non,.i .i64 2,.i .i64 3] = some (.agg [.i .i64 2,.sl (thsC t2) 2 .non]):=hp2
     simp (disch:=omega) only[A_xlaw00_Small,wp,qa,qb,qc,gl,c0',hip,hpl,c1,hp2',s2,f2,res_cell,resC]
  ·have c0':¬ (0:Int) < ((l.length:Nat):Int):=by omega
   refine .inr (pure_of A.small ?_)
   have hp2':pureS F 86 [.sl (intsC l) l.length .non,.i .i64 2,.i .i64 3] = some (.agg [.i .i64 2,.sl (thsC t2) 2 .non]):=hp2
   simp (disch:=omega) only[A_xlaw00_Small,wp,qa,qb,qc,gl,c0',hp2',s2,f2,res_cell,resC]
 rcases r3 with h | h
 ·exact ⟨t3,2,by rw[hl3];exact h,smK_of hl3 (by omega) (by omega) (by omega) (by omega) ho3⟩
 ·exact ⟨t2,3,by rw[hl2];exact h,smK_of hl2 (by omega) (by omega) (by omega) (by omega) ho2⟩
theorem gs_part:∀ {L:List Gr} {k:Nat} {d:Gr} (h:k < L.length),part ((gsC L).drop (k * 8)) 0 (some 8) = some (.agg (grC (L.getD k d)))
 | X :: L,0,d,_ => by
   simp only[gsC,List.flatMap_cons,Nat.zero_mul,List.drop_zero,part,Nat.zero_add,List.length_append,grC_len]
   rw[if_pos (by omega),List.take_left' (grC_len X)]
   simp
 | X :: L,k + 1,d,h => by
   have:=gs_part (L:=L) (k:=k) (d:=d) (by simpa using h)
   simp only[gsC,List.flatMap_cons] at this ⊢
   rw[Nat.add_mul,Nat.one_mul,Nat.add_comm,←List.drop_drop,List.drop_left' (by rw[grC_len])]
   simpa using this
def gr0:Gr:=⟨0,[],[],[],[],[],[],[]⟩
def SmG (l:List Int) (Y:Gr):Prop:=∃ ths K,SmK l ths K∧PgG ths [0,1,2] Y
end Go.Ab
end
section
namespace Go.Ab
theorem SmG.ok {l:List Int} {Y:Gr} (h:SmG l Y):FewG Y∧GraphOk Y:=by
 obtain ⟨ths,K,SK,hY⟩:=h
 obtain ⟨a,b,_⟩:=hY.ok SK.pk SK.b
 exact ⟨a,b⟩
end Go.Ab
end
section
set_option linter.unusedVariables false
set_option linter.unusedSimpArgs false
namespace Go.Ab
variable {F:Funs}
def finI (X:Gr):List Int:=X.co.map fun c => (X.evs.getD (c.getD (c.length - 1) 0).toNat ev0).vl
theorem finI_len (X:Gr):(finI X).length = X.co.length:=by simp[finI]
theorem finI_at {X:Gr} {i:Nat} (h:i < X.co.length):(finI X).getD i 0 = (X.evs.getD ((X.co.getD i []).getD ((X.co.getD i []).length - 1) 0).toNat ev0).vl:=by
 unfold finI
 rw[List.getD_eq_getElem?_getD,List.getElem?_map,List.getD_eq_getElem?_getD (l:=X.co),List.getElem?_eq_getElem h]
 rfl
theorem last_wrap {n:Nat} (h:0 < n) (hn:n < 9223372036854775808):IntKind.i64.wrap ((n:Int) - 1) = ((n - 1:Nat):Int):=by
 rw[i64_wrap (by omega) (by omega)];omega
structure FnM (X:Gr) (i:Nat) (t:Tok) (e:Env) (g:G):Prop where
 hi:i≤X.co.length
 e1:e 1 = .mp 0 0
 e3:e 3 = .sl (intsC ((finI X).take i)) i t
 e9:e 9 = .sl (coC X.co) X.co.length .non
 e10:e 10 = .i .i64 (X.co.length:Nat)
 e11:e 11 = .i .i64 ((i:Nat):Int)
 hg:g.hp 0 = some (.cells (grC X) false)
 nx:0 < g.nx
 tk:TkOk 1 g t
theorem sp_memFinal (h278:F 278 = some A_mem_Final) {X:Gr} (hX:FewG X) (h:GraphOk X):pureS F 278 [.agg (grC X)] = some (.sl (intsC (finI X)) X.co.length .non):=by
 refine pure_of h278 ?_
 simp (disch:=omega) only[A_mem_Final,wp,qa,qb,qc,gl]
 refine blk_cut (fun e g => ∃ t,e 3 = .sl (intsC (finI X)) X.co.length t) ?_ ?_
 ·refine W_loop (fun q e g => ∃ (i:Nat) (t:Tok),q = X.co.length - i∧FnM X i t e g) X.co.length ?_ ?_
  ·exact ⟨0,.rig,rfl,Nat.zero_le _,rfl,rfl,rfl,rfl,rfl,rfl,by first | omega | (dsimp only;omega),.inl rfl⟩
  ·rintro q e g ⟨i,t,rfl,hi,e1,e3,e9,e10,e11,hg,hnx,tk⟩
   by_cases c1:i < X.co.length
   ·have c1':((i:Nat):Int) < ((X.co.length:Nat):Int):=by omega
    have hip:=co_part c1
    have hv:=finI_at c1
    have C:=h.co i c1
    have hnl:=take_getD (l:=finI X) (k:=i) (by rw[finI_len];exact c1)
    have hwi:=succ_wrap (k:=i) (by have:=h.col;have:=h.locs4;omega)
    have hcl:(X.co.getD i []).length≤X.evs.length:=by rw[C.len];exact cntW_le _ _ _
    have h40:=h.n40
    have hci:X.co.length≤4:=by have:=h.col;have:=h.locs4;omega
    have wr:=C.wr ((X.co.getD i []).length - 1) (by have:=C.pos;omega)
    have hps:=C.pos
    generalize X.co.getD i [] = c at hip hv wr hcl hps
    have c2:(0:Int) < ((c.length:Nat):Int):=by omega
    have hlw:=last_wrap hps (by omega)
    have hlp:=ints_part (l:=c) (k:=c.length - 1) (by omega)
    have hll:((c.length - 1:Nat):Int) < c.length:=by omega
    generalize c.getD (c.length - 1) 0 = w at hlp hv wr
    obtain ⟨w0,w1,_,_⟩:=wr
    obtain ⟨m,rfl⟩:∃ m:Nat,w = (m:Int):=⟨w.toNat,by omega⟩
    have hep:=ev_vl_at (l:=X.evs) (k:=m) (by omega)
    have ce:((m:Nat):Int) < ((X.evs.length:Nat):Int):=by omega
    have c3:(0:Int)≤((m:Nat):Int):=by omega
    rw[Int.toNat_natCast] at hv
    rw[hv] at hnl
    generalize (X.evs.getD m ev0).vl = v at hep hnl
    have hdl:(List.drop (m * 6) (evsC X.evs)).length = X.evs.length * 6 - m * 6:=by rw[List.length_drop,evsC_len]
    simp (disch:=omega) only[wp,qa,qb,qc,gl,e1,e3,e9,e10,e11,hg,c1',hip,c2,hlw,hlp,hll,hep,ce,c3,hdl]
    have hil:(intsC ((finI X).take i)).length = i * 1:=by rw[intsC_len,List.length_take,finI_len];omega
    refine bindO_app (esz:=1) (tk.mono (fun j hj => rfl) (by first | omega | (dsimp only;omega))) (fun j hj => allow_no _ _ _) ⟨by omega,by omega,hil,rfl⟩ ?_
    intro t2 hp2 ar2
    simp (disch:=omega) only[wp,qa,qb,qc,e11,hwi]
    refine ⟨X.co.length - (i + 1),by omega,i + 1,t2,rfl,by omega,e1,?_,e9,e10,rfl,?_,by first | omega | (dsimp only;omega),ar2.ok (by first | omega | (dsimp only;omega))⟩
    ·rw[hnl]
     show AV.sl _ _ _ = _
     simp[intsC]
    ·show hp2 0 = _
     rw[ar2.keep 0 (by first | omega | (dsimp only;omega)) fun e2 h2 => ?_]
     ·exact hg
     ·rcases tk with rfl | ⟨j,rfl,hj,_⟩
      ·cases h2
      ·cases h2
       rw[hg] at hj;cases hj
   ·have c1':¬ ((i:Nat):Int) < ((X.co.length:Nat):Int):=by omega
    obtain rfl:i = X.co.length:=by omega
    rw[List.take_of_length_le (by rw[finI_len];omega)] at e3
    simp (disch:=omega) only[wp,qa,qb,qc,e1,e3,e9,e10,e11,c1']
    exact ⟨t,rfl⟩
 ·rintro e g ⟨t,e3⟩
  simp (disch:=omega) only[wp,qa,qb,qc,e3]
structure RnM (X:Gr) (i:Nat) (t:Tok) (e:Env) (g:G):Prop where
 hi:i≤X.co.length
 e1:e 1 = .mp 0 0
 e3:e 3 = .sl (intsC ((finI X).take i)) i t
 e4:e 4 = .i .i64 ((i:Nat):Int)
 hg:g.hp 0 = some (.cells (grC X) false)
 nx:0 < g.nx
 tk:TkOk 1 g t
theorem sp_refFinal (h467:F 467 = some A_xref08_Final) {X:Gr} (hX:FewG X) (h:GraphOk X):pureS F 467 [.agg (grC X)] = some (.sl (intsC (finI X)) X.co.length .non):=by
 refine pure_of h467 ?_
 simp (disch:=omega) only[A_xref08_Final,wp,qa,qb,qc,gl]
 refine blk_cut (fun e g => ∃ t,e 3 = .sl (intsC (finI X)) X.co.length t) ?_ ?_
 ·refine W_loop (fun q e g => ∃ (i:Nat) (t:Tok),q = X.co.length - i∧RnM X i t e g) X.co.length ?_ ?_
  ·exact ⟨0,.rig,rfl,Nat.zero_le _,rfl,rfl,rfl,rfl,by first | omega | (dsimp only;omega),.inl rfl⟩
  ·rintro q e g ⟨i,t,rfl,hi,e1,e3,e4,hg,hnx,tk⟩
   by_cases c1:i < X.co.length
   ·have c1':((i:Nat):Int) < ((X.co.length:Nat):Int):=by omega
    have hip:=co_part c1
    have hv:=finI_at c1
    have C:=h.co i c1
    have hnl:=take_getD (l:=finI X) (k:=i) (by rw[finI_len];exact c1)
    have hwi:=succ_wrap (k:=i) (by have:=h.col;have:=h.locs4;omega)
    have hcl:(X.co.getD i []).length≤X.evs.length:=by rw[C.len];exact cntW_le _ _ _
    have h40:=h.n40
    have hci:X.co.length≤4:=by have:=h.col;have:=h.locs4;omega
    have wr:=C.wr ((X.co.getD i []).length - 1) (by have:=C.pos;omega)
    have hps:=C.pos
    generalize X.co.getD i [] = c at hip hv wr hcl hps
    have hlw:=last_wrap hps (by omega)
    have hlp:=ints_part (l:=c) (k:=c.length - 1) (by omega)
    have hll:((c.length - 1:Nat):Int) < c.length:=by omega
    generalize c.getD (c.length - 1) 0 = w at hlp hv wr
    obtain ⟨w0,w1,_,_⟩:=wr
    obtain ⟨m,rfl⟩:∃ m:Nat,w = (m:Int):=⟨w.toNat,by omega⟩
    have hep:=ev_vl_at (l:=X.evs) (k:=m) (by omega)
    have ce:((m:Nat):Int) < ((X.evs.length:Nat):Int):=by omega
    rw[Int.toNat_natCast] at hv
    rw[hv] at hnl
    generalize (X.evs.getD m ev0).vl = v at hep hnl
    have hdl:(List.drop (m * 6) (evsC X.evs)).length = X.evs.length * 6 - m * 6:=by rw[List.length_drop,evsC_len]
    simp (disch:=omega) only[wp,qa,qb,qc,gl,e1,e3,e4,hg,c1',hip,hlw,hlp,hll,hep,ce,hdl]
    have hil:(intsC ((finI X).take i)).length = i * 1:=by rw[intsC_len,List.length_take,finI_len];omega
    refine bindO_app (esz:=1) (tk.mono (fun j hj => rfl) (by first | omega | (dsimp only;omega))) (fun j hj => allow_lt _ ?_) ⟨by omega,by omega,hil,rfl⟩ ?_
    ·rcases tk with rfl | ⟨j2,rfl,_,hlt⟩
     ·cases hj
     ·cases hj;omega
    intro t2 hp2 ar2
    simp (disch:=omega) only[wp,qa,qb,qc,e4,hwi]
    refine ⟨X.co.length - (i + 1),by omega,i + 1,t2,rfl,by omega,e1,?_,rfl,?_,by first | omega | (dsimp only;omega),ar2.ok (by first | omega | (dsimp only;omega))⟩
    ·rw[hnl]
     show AV.sl _ _ _ = _
     simp[intsC]
    ·show hp2 0 = _
     rw[ar2.keep 0 (by first | omega | (dsimp only;omega)) fun e2 h2 => ?_]
     ·exact hg
     ·rcases tk with rfl | ⟨j,rfl,hj,_⟩
      ·cases h2
      ·cases h2
       rw[hg] at hj;cases hj
   ·have c1':¬ ((i:Nat):Int) < ((X.co.length:Nat):Int):=by omega
    obtain rfl:i = X.co.length:=by omega
    rw[List.take_of_length_le (by rw[finI_len];omega)] at e3
    simp (disch:=omega) only[wp,qa,qb,qc,gl,e1,e3,e4,hg,c1']
    exact ⟨t,rfl⟩
 ·rintro e g ⟨t,e3⟩
  simp (disch:=omega) only[wp,qa,qb,qc,e3]
theorem sp_sameInts (h296:F 296 = some A_xref06_SameInts) (l:List Int) (hl:l.length≤1000000) (t1 t2:Tok):pureS F 296 [.sl (intsC l) l.length t1,.sl (intsC l) l.length t2] = some (.b true):=by
 refine pure_of h296 ?_
 have c0:(((l.length:Nat):Int) != ((l.length:Nat):Int)) = false:=bne_self_eq_false' ..
 simp (disch:=omega) only[A_xref06_SameInts,wp,qa,qb,qc,gl,c0]
 refine blk_cut (fun e g => True) ?_ ?_
 ·refine W_loop (fun q e g => ∃ (i:Nat),q = l.length - i∧i≤l.length∧e 0 = .sl (intsC l) l.length t1∧e 1 = .sl (intsC l) l.length t2∧e 5 = .i .i64 ((i:Nat):Int)) l.length ?_ ?_
  ·exact ⟨0,rfl,Nat.zero_le _,rfl,rfl,rfl⟩
  ·rintro q e g ⟨i,rfl,hi,e0,e1,e5⟩
   by_cases c1:i < l.length
   ·have c1':((i:Nat):Int) < ((l.length:Nat):Int):=by omega
    have hip:=ints_part c1
    have hwi:=succ_wrap (k:=i) (by omega)
    generalize l.getD i 0 = v at hip
    have c2:(v != v) = false:=bne_self_eq_false' ..
    simp (disch:=omega) only[wp,qa,qb,qc,gl,e0,e1,e5,c1',hip,c2,hwi]
    exact ⟨l.length - (i + 1),by omega,i + 1,rfl,by omega,rfl⟩
   ·have c1':¬ ((i:Nat):Int) < ((l.length:Nat):Int):=by omega
    simp (disch:=omega) only[wp,qa,qb,qc,gl,e0,e1,e5,c1']
 ·rintro e g -
  simp (disch:=omega) only[wp,qa,qb,qc]
end Go.Ab
end
section
set_option linter.unusedVariables false
set_option linter.unusedSimpArgs false
namespace Go.Ab
variable {F:Funs}
theorem sp_memFin (A:NumF F) (hf:F 464 = some A_xlaw08_MemFinal) (ha:pureS F 279 [] = some (.b true)) (h278:F 278 = some A_mem_Final) (h467:F 467 = some A_xref08_Final) (h296:F 296 = some A_xref06_SameInts) (l:List Int) (hl:(l.length:Int)≤9223372036854775807) (pick:Int) (tl:Tok):pureS F 464 [.sl (intsC l) l.length tl,.i .i64 pick] = some (.b true):=by
 have s2:∀ b1 b2 c1 c2:AV,splice [b1,b2] 0 [c1,c2] = [c1,c2]:=fun _ _ _ _ => rfl
 have l7:∀ x:AV,List.replicate 7 x = [x,x,x,x,x,x,x]:=fun _ => rfl
 have s8:∀ b1 b2 b3 b4 b5 b6 b7 b8 c1 c2 c3 c4 c5 c6 c7 c8:AV,splice [b1,b2,b3,b4,b5,b6,b7,b8] 0 [c1,c2,c3,c4,c5,c6,c7,c8] = [c1,c2,c3,c4,c5,c6,c7,c8]:=fun _ _ _ _ _ _ _ _ _ _ _ _ _ _ _ _ => rfl
 obtain ⟨ths,K,hsm,SK⟩:=sp_small A l hl
 obtain ⟨n,hld⟩:=sp_loads A.loads SK.pk
 have hdm:=sp_dom A.dom
 obtain ⟨L,c,hall,hPg,hLl⟩:=sp13_all A.en SK.pk [0,1,2] (by simp)
 have hall':pureS F 78 [.agg [.i .i64 2,.sl (thsC ths) ths.length .non],.sl (intsC [0,1,2]) 3 .non] = some (.tup [.sl (gsC L) L.length .non,.i .i64 c]):=hall
 have f2:∀ hp (n:Nat) (t:Tok),frz hp depth (.agg [.i .i64 2,.sl (thsC ths) n t]) = some (.agg [.i .i64 2,.sl (thsC ths) n .non]):=fun hp n t => by
  refine frz_d_agg ?_
  show frzL _ (7 + 1) _ = _
  simp only[frzL,frz]
 have v2:∀ hp (n:Nat) (t:Tok),vis hp depth (.agg [.i .i64 2,.sl (thsC ths) n t]) = []:=fun hp n t => by
  show vis hp (8 + 1) _ = _
  simp only[vis,List.flatMap_cons,List.flatMap_nil]
  rfl
 have p8:∀ c1 c2 c3 c4 c5 c6 c7 c8:AV,part [c1,c2,c3,c4,c5,c6,c7,c8] 0 (some 8) = some (.agg [c1,c2,c3,c4,c5,c6,c7,c8]):=fun _ _ _ _ _ _ _ _ => rfl
 refine pure_of hf ?_
 by_cases c4:n≤4
 ·have c4':¬ (4:Int) < ((n:Nat):Int):=by omega
  cases hL:L with
  | nil =>
    subst hL
    have c5:(((0:Nat):Int) == 0) = true:=rfl
    simp (disch:=omega) only[A_xlaw08_MemFinal,wp,qa,qb,qc,gl,hsm,l7,s2,s8,f2,v2,hld,c4',hdm,hall',c5,List.getElem?_cons_zero,List.getElem?_cons_succ,gsC,ha]
  | cons Y0 L0 =>
    have hLp:0 < L.length:=by rw[hL];simp
    have c5:(((L.length:Nat):Int) == 0) = false:=by rw[beq_eq_false_iff_ne];omega
    have hpl:=sp_place A.pg.place (v:=pick) (n:=(L.length:Int)) (by omega) (by omega)
    obtain ⟨p0,p1⟩:=place_lt (v:=pick) (n:=(L.length:Int)) (by omega)
    obtain ⟨p,hp⟩:∃ p:Nat,place pick (L.length:Int) = (p:Int):=⟨(place pick (L.length:Int)).toNat,by omega⟩
    rw[hp] at hpl p1
    have hgp:=gs_part (L:=L) (k:=p) (d:=gr0) (by omega)
    have hY:=hPg _ (getD_mem (d:=gr0) (show p < L.length by omega))
    have hgl:=gsC_len L
    generalize L.getD p gr0 = Y at hgp hY
    obtain ⟨hX,h,_⟩:=hY.ok SK.pk SK.b
    have m1:=sp_memFinal h278 hX h
    have m2:=sp_refFinal h467 hX h
    have m3:=sp_sameInts h296 (finI Y) (by rw[finI_len];have:=h.col;have:=h.locs4;omega) .non .non
    rw[finI_len] at m3
    have fg:∀ hp,frz hp depth (.agg (grC Y)) = some (.agg (grC Y)):=fun hp => frz_gr hp Y
    have vg:∀ hp,vis hp depth (.agg (grC Y)) = []:=fun hp => vis_gr hp Y
    rw[grC] at hgp m1 m2 fg vg
    simp (disch:=omega) only[A_xlaw08_MemFinal,wp,qa,qb,qc,gl,hsm,l7,s2,s8,f2,v2,hld,c4',hdm,hall',c5,List.getElem?_cons_zero,List.getElem?_cons_succ,hpl,hgp,p8,m1,m2,m3,fg,vg,ha]
 ·have c4':(4:Int) < ((n:Nat):Int):=by omega
  simp (disch:=omega) only[A_xlaw08_MemFinal,wp,qa,qb,qc,gl,hsm,l7,s2,s8,f2,v2,hld,c4',ha]
end Go.Ab
end
section
set_option linter.unusedVariables false
set_option linter.unusedSimpArgs false
namespace Go.Ab
inductive ET where
 | leaf
 | node (v:Option AV) (l r:ET)
noncomputable def ET.get (t:ET):Nat→Option AV:=
 ET.rec (motive:=fun _ => Nat→Option AV) (fun _ => none) (fun v _ _ gl gr n => Nat.rec (motive:=fun _ => Option AV) v (fun m _ => Bool.rec (motive:=fun _ => Option AV) (gr (Nat.div m 2)) (gl (Nat.div m 2)) (Nat.beq (Nat.mod m 2) 0)) n) t
theorem ET.get_succ (v l r) (m:Nat):(ET.node v l r).get (m + 1) = if m % 2 = 0 then l.get (m / 2) else r.get (m / 2):=by
 show Bool.rec (motive:=fun _ => Option AV) (r.get (m / 2)) (l.get (m / 2)) (Nat.beq (m % 2) 0) = _
 cases h:Nat.beq (m % 2) 0 with
 | true => rw[if_pos (Nat.eq_of_beq_eq_true h)]
 | false => rw[if_neg (Nat.ne_of_beq_eq_false h)]
section
variable {α:Type}
noncomputable def ET.putK (v:AV) (fuel:Nat):ET→Nat→(ET→α)→α:=
 Nat.rec (motive:=fun _ => ET→Nat→(ET→α)→α) (fun t _ k => k t)
  (fun _ ih t n k => ET.rec (motive:=fun _ => α)
   (Nat.rec (motive:=fun _ => α) (k (.node (some v) .leaf .leaf)) (fun m _ => Bool.rec (motive:=fun _ => α) (ih .leaf (Nat.div m 2) fun r' => k (.node none .leaf r')) (ih .leaf (Nat.div m 2) fun l' => k (.node none l' .leaf)) (Nat.beq (Nat.mod m 2) 0)) n)
   (fun w l r _ _ => Nat.rec (motive:=fun _ => α) (k (.node (some v) l r)) (fun m _ => Bool.rec (motive:=fun _ => α) (ih r (Nat.div m 2) fun r' => k (.node w l r')) (ih l (Nat.div m 2) fun l' => k (.node w l' r)) (Nat.beq (Nat.mod m 2) 0)) n) t) fuel
theorem ET.putK_ok (v:AV):∀ (fuel:Nat) (t:ET) (n:Nat) (k:ET→α),n < fuel→∃ t',ET.putK v fuel t n k = k t'∧∀ j,t'.get j = if j = n then some v else t.get j
 | 0,_,_,_,h => absurd h (Nat.not_lt_zero _)
 | f + 1,t,0,k,_ => by
   cases t with
   | leaf =>
     refine ⟨.node (some v) .leaf .leaf,rfl,fun j => ?_⟩
     cases j with
     | zero => rfl
     | succ j => rw[ET.get_succ,if_neg (Nat.succ_ne_zero j)];split<;>rfl
   | node w l r =>
     refine ⟨.node (some v) l r,rfl,fun j => ?_⟩
     cases j with
     | zero => rfl
     | succ j => rw[ET.get_succ,if_neg (Nat.succ_ne_zero j),ET.get_succ]
 | f + 1,t,m + 1,k,h => by
   have hd:m / 2 < f:=by omega
   cases t with
   | leaf =>
     cases hb:Nat.beq (m % 2) 0 with
     | true =>
       have hm:=Nat.eq_of_beq_eq_true hb
       obtain ⟨t',h1,h2⟩:=ET.putK_ok v f .leaf (m / 2) (fun l' => k (.node none l' .leaf)) hd
       refine ⟨.node none t' .leaf,?_,fun j => ?_⟩
       ·show Bool.rec (motive:=fun _ => α) _ (ET.putK v f .leaf (m / 2) fun l' => k (.node none l' .leaf)) (Nat.beq (m % 2) 0) = _
        rw[hb];exact h1
       ·cases j with
        | zero => rw[if_neg (by omega)];rfl
        | succ j =>
          rw[ET.get_succ]
          by_cases hj:j % 2 = 0
          ·rw[if_pos hj,h2]
           by_cases e:j / 2 = m / 2
           ·rw[if_pos e,if_pos (by omega)]
           ·rw[if_neg e,if_neg (by omega)];rfl
          ·rw[if_neg hj,if_neg (by omega)];rfl
     | false =>
       have hm:=Nat.ne_of_beq_eq_false hb
       obtain ⟨t',h1,h2⟩:=ET.putK_ok v f .leaf (m / 2) (fun r' => k (.node none .leaf r')) hd
       refine ⟨.node none .leaf t',?_,fun j => ?_⟩
       ·show Bool.rec (motive:=fun _ => α) (ET.putK v f .leaf (m / 2) fun r' => k (.node none .leaf r')) _ (Nat.beq (m % 2) 0) = _
        rw[hb];exact h1
       ·cases j with
        | zero => rw[if_neg (by omega)];rfl
        | succ j =>
          rw[ET.get_succ]
          by_cases hj:j % 2 = 0
          ·rw[if_pos hj,if_neg (by omega)];rfl
          ·rw[if_neg hj,h2]
           by_cases e:j / 2 = m / 2
           ·rw[if_pos e,if_pos (by omega)]
           ·rw[if_neg e,if_neg (by omega)];rfl
   | node w l r =>
     cases hb:Nat.beq (m % 2) 0 with
     | true =>
       have hm:=Nat.eq_of_beq_eq_true hb
       obtain ⟨t',h1,h2⟩:=ET.putK_ok v f l (m / 2) (fun l' => k (.node w l' r)) hd
       refine ⟨.node w t' r,?_,fun j => ?_⟩
       ·show Bool.rec (motive:=fun _ => α) _ (ET.putK v f l (m / 2) fun l' => k (.node w l' r)) (Nat.beq (m % 2) 0) = _
        rw[hb];exact h1
       ·cases j with
        | zero => rw[if_neg (by omega)];rfl
        | succ j =>
          rw[ET.get_succ,ET.get_succ]
          by_cases hj:j % 2 = 0
          ·rw[if_pos hj,if_pos hj,h2]
           by_cases e:j / 2 = m / 2
           ·rw[if_pos e,if_pos (by omega)]
           ·rw[if_neg e,if_neg (by omega)]
          ·rw[if_neg hj,if_neg hj,if_neg (by omega)]
     | false =>
       have hm:=Nat.ne_of_beq_eq_false hb
       obtain ⟨t',h1,h2⟩:=ET.putK_ok v f r (m / 2) (fun r' => k (.node w l r')) hd
       refine ⟨.node w l t',?_,fun j => ?_⟩
       ·show Bool.rec (motive:=fun _ => α) (ET.putK v f r (m / 2) fun r' => k (.node w l r')) _ (Nat.beq (m % 2) 0) = _
        rw[hb];exact h1
       ·cases j with
        | zero => rw[if_neg (by omega)];rfl
        | succ j =>
          rw[ET.get_succ,ET.get_succ]
          by_cases hj:j % 2 = 0
          ·rw[if_pos hj,if_pos hj,if_neg (by omega)]
          ·rw[if_neg hj,if_neg hj,h2]
           by_cases e:j / 2 = m / 2
           ·rw[if_pos e,if_pos (by omega)]
           ·rw[if_neg e,if_neg (by omega)]
noncomputable def frcN (n:Nat) (k:Nat→α):α:=Nat.rec (motive:=fun _ => α) (k 0) (fun m _ => k (Nat.add m 1)) n
theorem frcN_ok (n:Nat) (k:Nat→α):frcN n k = k n:=by cases n<;>rfl
noncomputable def frcI (n:Int) (k:Int→α):α:=Int.rec (motive:=fun _ => α) (fun m => frcN m fun m => k (.ofNat m)) (fun m => frcN m fun m => k (.negSucc m)) n
theorem frcI_ok (n:Int) (k:Int→α):frcI n k = k n:=by
 cases n with
 | ofNat m => exact frcN_ok m fun m => k (.ofNat m)
 | negSucc m => exact frcN_ok m fun m => k (.negSucc m)
noncomputable def frcB (x:Bool) (k:Bool→α):α:=Bool.rec (motive:=fun _ => α) (k false) (k true) x
theorem frcB_ok (x:Bool) (k:Bool→α):frcB x k = k x:=by cases x<;>rfl
noncomputable def frc1 (v:AV) (k:AV→α):α:=match v with
 | .i s n => frcI n fun n => k (.i s n)
 | .b x => frcB x fun x => k (.b x)
 | v => k v
theorem frc1_ok (v:AV) (k:AV→α):frc1 v k = k v:=by
 cases v with
 | i s n => exact frcI_ok n fun n => k (.i s n)
 | b x => exact frcB_ok x fun x => k (.b x)
 | _ => rfl
noncomputable def frcL (cs:List AV):(List AV→α)→α:=List.rec (motive:=fun _ => (List AV→α)→α) (fun k => k []) (fun c _ ih k => frc1 c fun c => ih fun cs => k (c :: cs)) cs
theorem frcL_ok:∀ (cs:List AV) (k:List AV→α),frcL cs k = k cs
 | [],_ => rfl
 | c :: cs,k => by
   show frc1 c (fun c => frcL cs fun cs => k (c :: cs)) = _
   rw[frc1_ok,frcL_ok cs]
noncomputable def frcV (v:AV) (k:AV→α):α:=match v with
 | .i s n => frcI n fun n => k (.i s n)
 | .b x => frcB x fun x => k (.b x)
 | .sl cs n t => frcL cs fun cs => frcN n fun n => k (.sl cs n t)
 | .agg cs => frcL cs fun cs => k (.agg cs)
 | .ptr cs => frcL cs fun cs => k (.ptr cs)
 | .mp a o => frcN a fun a => frcN o fun o => k (.mp a o)
 | .ms a o n => frcN a fun a => frcN o fun o => frcN n fun n => k (.ms a o n)
 | .mc a o e n => frcN a fun a => frcN o fun o => frcN e fun e => frcN n fun n => k (.mc a o e n)
 | v => k v
theorem frcV_ok (v:AV) (k:AV→α):frcV v k = k v:=by
 cases v with
 | i s n => exact frcI_ok n fun n => k (.i s n)
 | b x => exact frcB_ok x fun x => k (.b x)
 | sl cs n t =>
   show frcL cs (fun cs => frcN n fun n => k (.sl cs n t)) = _
   rw[frcL_ok,frcN_ok]
 | agg cs => exact frcL_ok cs fun cs => k (.agg cs)
 | ptr cs => exact frcL_ok cs fun cs => k (.ptr cs)
 | mp a o =>
   show frcN a (fun a => frcN o fun o => k (.mp a o)) = _
   rw[frcN_ok,frcN_ok]
 | ms a o n =>
   show frcN a (fun a => frcN o fun o => frcN n fun n => k (.ms a o n)) = _
   rw[frcN_ok,frcN_ok,frcN_ok]
 | mc a o e n =>
   show frcN a (fun a => frcN o fun o => frcN e fun e => frcN n fun n => k (.mc a o e n)) = _
   rw[frcN_ok,frcN_ok,frcN_ok,frcN_ok]
 | _ => rfl
end
noncomputable def mapO (f:AV→Option AV) (cs:List AV):Option (List AV):=List.rec (motive:=fun _ => Option (List AV)) (some []) (fun c _ ih => match f c with
 | some c => (match ih with | some cs => some (c :: cs) | none => none)
 | none => none) cs
noncomputable def frzK (hp:Nat→Option Blk) (k:Nat):AV→Option AV:=Nat.rec (motive:=fun _ => AV→Option AV) (fun _ => none) (fun _ ih v => match v with
 | .agg cs => (match mapO ih cs with | some cs => some (.agg cs) | none => none)
 | .tup cs => (match mapO ih cs with | some cs => some (.tup cs) | none => none)
 | .sl cs n _ => some (.sl cs n .non)
 | .mp id off => (match hp id with
   | some (.cells cs _) => (match mapO ih (cs.drop off) with | some cs => some (.ptr cs) | none => none)
   | _ => none)
 | .ms id off n => (match hp id with
   | some (.cells cs _) => (match mapO ih (cs.drop off) with | some cs => some (.sl cs n .non) | none => none)
   | _ => none)
 | .fn f a b => (match mapO ih a with
   | some a => (match mapO ih b with | some b => some (.fn f a b) | none => none)
   | none => none)
 | .ifc t v => (match ih v with | some v => some (.ifc t v) | none => none)
 | .mm _ => none
 | .mc _ _ _ _ => none
 | v => some v) k
noncomputable def frzLK (hp:Nat→Option Blk) (k:Nat) (cs:List AV):Option (List AV):=mapO (frzK hp k) cs
theorem mapO_cons (f c cs):mapO f (c :: cs) = (match f c with
 | some c => (match mapO f cs with | some cs => some (c :: cs) | none => none)
 | none => none):=rfl
theorem mapO_frz (hp:Nat→Option Blk) (k:Nat) (h:∀ v,frzK hp k v = frz hp k v):∀ cs,mapO (frzK hp k) cs = frzL hp k cs
 | [] => by simp only[frzL];rfl
 | c :: cs => by
   rw[mapO_cons,mapO_frz hp k h cs,h c]
   simp only[frzL]
   cases frz hp k c<;>cases frzL hp k cs<;>rfl
theorem frzK_ok (hp:Nat→Option Blk):∀ (k:Nat) (v:AV),frzK hp k v = frz hp k v
 | 0,v => by simp only[frz];rfl
 | k + 1,v => by
   have hl:=mapO_frz hp k (frzK_ok hp k)
   have e:frzK hp (k + 1) v = (match v with
    | .agg cs => (match mapO (frzK hp k) cs with | some cs => some (.agg cs) | none => none)
    | .tup cs => (match mapO (frzK hp k) cs with | some cs => some (.tup cs) | none => none)
    | .sl cs n _ => some (.sl cs n .non)
    | .mp id off => (match hp id with
      | some (.cells cs _) => (match mapO (frzK hp k) (cs.drop off) with | some cs => some (.ptr cs) | none => none)
      | _ => none)
    | .ms id off n => (match hp id with
      | some (.cells cs _) => (match mapO (frzK hp k) (cs.drop off) with | some cs => some (.sl cs n .non) | none => none)
      | _ => none)
    | .fn f a b => (match mapO (frzK hp k) a with
      | some a => (match mapO (frzK hp k) b with | some b => some (.fn f a b) | none => none)
      | none => none)
    | .ifc t v => (match frzK hp k v with | some v => some (.ifc t v) | none => none)
    | .mm _ => none
    | .mc _ _ _ _ => none
    | v => some v):=rfl
   rw[e]
   simp only[hl,frzK_ok hp k]
   cases v with
   | agg cs => simp only[frz];cases frzL hp k cs<;>rfl
   | tup cs => simp only[frz];cases frzL hp k cs<;>rfl
   | mp id off =>
     simp only[frz]
     cases hp id with
     | none => rfl
     | some b =>
       cases b with
       | cells cs ro => simp only;cases frzL hp k (cs.drop off)<;>rfl
       | _ => rfl
   | ms id off n =>
     simp only[frz]
     cases hp id with
     | none => rfl
     | some b =>
       cases b with
       | cells cs ro => simp only;cases frzL hp k (cs.drop off)<;>rfl
       | _ => rfl
   | fn f a b =>
     simp only[frz]
     cases frzL hp k a<;>cases frzL hp k b<;>rfl
   | ifc t v => simp only[frz];cases frz hp k v<;>rfl
   | _ => simp only[frz]
theorem frzLK_ok (hp:Nat→Option Blk) (k:Nat) (cs:List AV):frzLK hp k cs = frzL hp k cs:=mapO_frz hp k (frzK_ok hp k) cs
noncomputable def kBoxI (v:AV) (g:G):Option (AV × G):=
 if (cellsOf v).all one then vMapL .ptr g (frzLK (fun _ => none) depth (cellsOf v)) else none
noncomputable def kBsl (id:Nat) (imm:Bool) (n:Nat) (cs:Option (List AV)) (g:G):Option (AV × G):=match cs with
 | none => none
 | some cs =>
   if imm then vMapL (fun cs => .sl cs n .rig) g (frzLK (fun _ => none) depth cs)
   else some (.ms id 0 n,⟨upd g.hp id (some (.cells cs false)),g.nx⟩)
noncomputable def kSrc (al:Nat→Bool) (esz:Nat) (y:AV) (g:G):Option (List AV × Nat):=match y with
 | .sl ds m _ => some (ds,m)
 | .ms b off m => match rd g al b with
   | some (.cells ds _) => match frzLK (fun _ => none) depth ((ds.drop off).take (m * esz)) with
     | some ds => some (ds,m)
     | none => none
   | _ => none
 | _ => none
noncomputable def kApp (al:Nat→Bool) (id esz bytes:Nat) (x y:AV) (g:G):Option (AV × G):=match x with
 | .sl cs n t => match kSrc al esz y g with
   | none => none
   | some (ds,m) =>
     if (n + m) * bytes≤2 ^ 46∧n + m≤2 ^ 62∧cs.length = n * esz∧ds.length = m * esz then
      match t with
      | .non => none
      | .rig => if m = 0 then some (.sl cs n .rig,g) else some (.sl (cs ++ ds) (n + m) (.own id esz),⟨upd g.hp id (some (.tok true)),g.nx⟩)
      | .own tk e => match rd g al tk with
        | some (.tok true) => if e = esz then some (.sl (cs ++ ds) (n + m) (.own id esz),⟨upd (upd g.hp tk (some (.tok false))) id (some (.tok true)),g.nx⟩) else none
        | _ => none
     else none
 | _ => none
theorem kSrc_ok (al esz y g):kSrc al esz y g = vSrc al esz y g:=by unfold kSrc vSrc;simp only[frzLK_ok];rfl
theorem kApp_ok (al id esz bytes x y g):kApp al id esz bytes x y g = vApp al id esz bytes x y g:=by
 unfold kApp vApp
 simp only[kSrc_ok]
 rfl
theorem kBsl_ok (id imm n cs g):kBsl id imm n cs g = vBsl id imm n cs g:=by unfold kBsl vBsl;simp only[frzLK_ok];first | done | rfl
theorem kBoxI_ok (v g):kBoxI v g = vBoxI v g:=by unfold kBoxI vBoxI;simp only[frzLK_ok];first | done | rfl
noncomputable def kCall (call:CS) (al:Nat→Bool) (id:Nat) (m:Mode) (f:AV) (args:List AV) (g:G):Option (AV × G):=match f with
 | .fn fid fst caps => match m with
   | .raw => call fid (fst ++ args ++ caps) g
   | .see => seeR g (call fid (fst ++ args ++ caps) g)
   | .pure => match frzLK (rd g al) depth (fst ++ args ++ caps) with
     | none => none
     | some bs => match call fid bs ⟨fun _ => none,0⟩ with
       | none => none
       | some (v,g') => match frzK g'.hp depth v with
         | none => none
         | some v => if flat v || ((fst ++ args ++ caps).flatMap (vis (rd g al) depth)).isEmpty then some (v,g) else none
   | .lock => match frzLK (rd g al) depth (fst ++ args ++ caps) with
     | none => none
     | some bs => match call fid bs ⟨fun _ => none,0⟩ with
       | none => none
       | some (v,g') => match frzK g'.hp depth v with
         | none => none
         | some v => some (v,⟨lock g.hp ((fst ++ args ++ caps).flatMap (vis (rd g al) depth)),g.nx⟩)
   | .thaw => match frzLK (rd g al) depth (fst ++ args ++ caps) with
     | none => none
     | some bs => match call fid bs ⟨fun _ => none,0⟩ with
       | some (.mp b 0,g') => match g'.hp b with
         | some (.cells cs false) => match frzLK g'.hp depth cs with
           | some cs' =>
             if ((fst ++ args ++ caps).flatMap (vis (rd g al) depth)).isEmpty && !(cs.flatMap (vis g'.hp depth)).contains b then some (.mp id 0,⟨upd g.hp id (some (.cells cs' false)),g.nx⟩) else none
           | none => none
         | _ => none
       | _ => none
   | .melt => match frzLK (rd g al) depth (fst ++ args ++ caps) with
     | none => none
     | some bs => match call fid bs ⟨fun _ => none,0⟩ with
       | some (.ms b 0 n,g') => match g'.hp b with
         | some (.cells cs false) => match frzLK g'.hp depth cs with
           | some cs' =>
             if ((fst ++ args ++ caps).flatMap (vis (rd g al) depth)).isEmpty && !(cs.flatMap (vis g'.hp depth)).contains b then some (.ms id 0 n,⟨upd g.hp id (some (.cells cs' false)),g.nx⟩) else none
           | none => none
         | _ => none
       | _ => none
 | _ => none
theorem kCall_ok (call al id m f args g):kCall call al id m f args g = vCall call al id m f args g:=by
 unfold kCall vCall
 simp only[frzLK_ok,frzK_ok]
 rfl
abbrev Orc:=Nat→List AV→Option AV
noncomputable def kev (b:Env) (t:ET):Env:=fun n => match t.get n with | some v => v | none => b n
noncomputable def putO {α:Type} (d:Option Nat) (v:AV) (t:ET) (k:ET→α):α:=match d with
 | some d => ET.putK v (d + 1) t d k
 | none => k t
theorem putO_ok {α:Type} (b:Env) (d:Option Nat) (v:AV) (t:ET) (k:ET→α):∃ t',putO d v t k = k t'∧kev b t' = put (kev b t) d v:=by
 cases d with
 | none => exact ⟨t,rfl,rfl⟩
 | some d =>
   obtain ⟨t',h1,h2⟩:=ET.putK_ok v (d + 1) t d k (by omega)
   refine ⟨t',h1,?_⟩
   funext j
   simp only[kev,put,upd,h2]
   by_cases e:j = d
   ·simp only[if_pos e]
   ·simp only[if_neg e]
noncomputable def ltI (a b:Int):Bool:=Int.rec (motive:=fun _ => Bool) (fun m => Int.rec (motive:=fun _ => Bool) (fun n => Nat.ble (Nat.add m 1) n) (fun _ => false) b) (fun m => Int.rec (motive:=fun _ => Bool) (fun _ => true) (fun n => Nat.ble (Nat.add n 1) m) b) a
theorem ble_dec (m n:Nat):Nat.ble m n = decide (m≤n):=by
 cases h:Nat.ble m n with
 | true => exact (decide_eq_true (Nat.le_of_ble_eq_true h)).symm
 | false => exact (decide_eq_false (fun hh => by rw[Nat.ble_eq_true_of_le hh] at h;cases h)).symm
theorem ltI_ok (a b:Int):ltI a b = decide (a < b):=by
 cases a with
 | ofNat m =>
   cases b with
   | ofNat n =>
     show Nat.ble (m + 1) n = _
     rw[ble_dec,decide_eq_decide]
     show m + 1≤n↔(m:Int) < (n:Int)
     omega
   | negSucc n =>
     show false = _
     refine (decide_eq_false ?_).symm
     show ¬ (m:Int) < Int.negSucc n
     omega
 | negSucc m =>
   cases b with
   | ofNat n =>
     show true = _
     refine (decide_eq_true ?_).symm
     show Int.negSucc m < (n:Int)
     omega
   | negSucc n =>
     show Nat.ble (n + 1) m = _
     rw[ble_dec,decide_eq_decide]
     omega
noncomputable def eqI (a b:Int):Bool:=Int.rec (motive:=fun _ => Bool) (fun m => Int.rec (motive:=fun _ => Bool) (fun n => Nat.beq m n) (fun _ => false) b) (fun m => Int.rec (motive:=fun _ => Bool) (fun _ => false) (fun n => Nat.beq m n) b) a
theorem beq_dec (m n:Nat):Nat.beq m n = decide (m = n):=by
 cases h:Nat.beq m n with
 | true => exact (decide_eq_true (Nat.eq_of_beq_eq_true h)).symm
 | false => exact (decide_eq_false (Nat.ne_of_beq_eq_false h)).symm
theorem eqI_ok (a b:Int):eqI a b = (a == b):=by
 have e:(a == b) = decide (a = b):=by rw[Bool.eq_iff_iff];simp
 rw[e]
 cases a with
 | ofNat m =>
   cases b with
   | ofNat n =>
     show Nat.beq m n = _
     rw[beq_dec,decide_eq_decide]
     show m = n↔(m:Int) = (n:Int)
     omega
   | negSucc n => exact (decide_eq_false (fun h => by cases h)).symm
 | negSucc m =>
   cases b with
   | ofNat n => exact (decide_eq_false (fun h => by cases h)).symm
   | negSucc n =>
     show Nat.beq m n = _
     rw[beq_dec,decide_eq_decide]
     omega
noncomputable def wrI (n:Int):Int:=Int.rec (motive:=fun _ => Int) (fun m => Bool.rec (motive:=fun _ => Int) (IntKind.i64.wrap (.ofNat m)) (.ofNat m) (Nat.ble m 9223372036854775807)) (fun m => Bool.rec (motive:=fun _ => Int) (IntKind.i64.wrap (.negSucc m)) (.negSucc m) (Nat.ble m 9223372036854775807)) n
theorem wrI_in {x:Int} (h:-9223372036854775808≤x) (h2:x≤9223372036854775807):IntKind.i64.wrap x = x:=by
 simp[IntKind.wrap,IntKind.bits,IntKind.signed]
 omega
theorem wrI_ok (n:Int):wrI n = IntKind.i64.wrap n:=by
 cases n with
 | ofNat m =>
   show Bool.rec (motive:=fun _ => Int) (IntKind.i64.wrap (.ofNat m)) (.ofNat m) (Nat.ble m 9223372036854775807) = _
   rw[ble_dec]
   by_cases h:m≤9223372036854775807
   ·rw[decide_eq_true h]
    exact (wrI_in (x:=(m:Int)) (by omega) (by omega)).symm
   ·rw[decide_eq_false h]
 | negSucc m =>
   show Bool.rec (motive:=fun _ => Int) (IntKind.i64.wrap (.negSucc m)) (.negSucc m) (Nat.ble m 9223372036854775807) = _
   rw[ble_dec]
   by_cases h:m≤9223372036854775807
   ·rw[decide_eq_true h]
    exact (wrI_in (x:=Int.negSucc m) (by omega) (by omega)).symm
   ·rw[decide_eq_false h]
noncomputable def addI (a b:Int):Int:=Int.rec (motive:=fun _ => Int) (fun m => Int.rec (motive:=fun _ => Int) (fun n => .ofNat (Nat.add m n)) (fun n => Int.add (.ofNat m) (.negSucc n)) b) (fun m => Int.add (.negSucc m) b) a
theorem addI_ok (a b:Int):addI a b = a + b:=by cases a<;>cases b<;>rfl
noncomputable def kII (op:BinOp):Int→Int→Option AV:=BinOp.casesOn (motive:=fun _ => Int→Int→Option AV) op
 (fun a b => some (.i .i64 (wrI (addI a b)))) (fun a b => some (.i .i64 (wrI (Int.sub a b)))) (ibin .mul .i64) (ibin .quo .i64) (ibin .rem .i64) (ibin .and .i64) (ibin .or .i64) (ibin .xor .i64)
 (ishift .shl .i64) (ishift .shr .i64) (ibin .andNot .i64) (fun a b => some (.b (eqI a b))) (fun a b => some (.b (!eqI a b))) (fun a b => some (.b (ltI a b))) (fun a b => some (.b (!ltI b a))) (fun a b => some (.b (ltI b a))) (fun a b => some (.b (!ltI a b)))
theorem kII_ok (op:BinOp) (a b:Int):kII op a b = abin op (.i .i64 a) (.i .i64 b):=by
 cases op
 ·show some (AV.i .i64 (wrI (addI a b))) = _
  rw[wrI_ok,addI_ok];simp[abin,ibin]
 ·show some (AV.i .i64 (wrI (a - b))) = _
  rw[wrI_ok];simp[abin,ibin]
 ·show ibin .mul .i64 a b = _;simp[abin]
 ·show ibin .quo .i64 a b = _;simp[abin]
 ·show ibin .rem .i64 a b = _;simp[abin]
 ·show ibin .and .i64 a b = _;simp[abin]
 ·show ibin .or .i64 a b = _;simp[abin]
 ·show ibin .xor .i64 a b = _;simp[abin]
 ·show ishift .shl .i64 a b = _;simp[abin]
 ·show ishift .shr .i64 a b = _;simp[abin]
 ·show ibin .andNot .i64 a b = _;simp[abin]
 ·show some (AV.b (eqI a b)) = _
  rw[eqI_ok];simp[abin,ibin]
 ·show some (AV.b (!eqI a b)) = _
  rw[eqI_ok];simp only[abin,ibin,if_true];rfl
 ·show some (AV.b (ltI a b)) = _
  rw[ltI_ok];simp[abin,ibin]
 ·show some (AV.b (!ltI b a)) = _
  rw[ltI_ok];simp[abin,ibin]
  rw[←decide_not,decide_eq_decide];omega
 ·show some (AV.b (ltI b a)) = _
  rw[ltI_ok];simp[abin,ibin]
 ·show some (AV.b (!ltI a b)) = _
  rw[ltI_ok];simp[abin,ibin]
  rw[←decide_not,decide_eq_decide];omega
noncomputable def kBin (op:BinOp) (x y:AV):Option AV:=match x with
 | .i k a => (match k with
   | .i64 => (match y with
     | .i k' b => (match k' with
       | .i64 => kII op a b
       | k' => abin op (.i .i64 a) (.i k' b))
     | y => abin op (.i .i64 a) y)
   | k => abin op (.i k a) y)
 | x => abin op x y
theorem kBin_ok (op:BinOp) (x y:AV):kBin op x y = abin op x y:=by
 cases x with
 | i k a =>
   cases k<;>first
    | rfl
    | (cases y with
      | i k' b => cases k'<;>first | rfl | exact kII_ok op a b
      | _ => rfl)
 | _ => rfl
noncomputable def frcR (r:Option (AV × G)):Option (AV × G):=match r with
 | some (v,g) => frcV v fun v => some (v,g)
 | none => none
theorem frcR_ok (r:Option (AV × G)):frcR r = r:=by
 cases r with
 | none => rfl
 | some p =>
   obtain ⟨v,g⟩:=p
   show frcV v (fun v => some (v,g)) = _
   rw[frcV_ok]
abbrev KO:=Orc→CS→(Nat→Bool)→Nat→Nat→Env→G→Option (AV × G)
noncomputable def ko_mv (x:Opd):KO:=fun _ _ _ _ _ e g => some (x.ev e,g)
noncomputable def ko_pick (c a b:Opd):KO:=fun _ _ _ _ _ e g => vPick (c.ev e) (a.ev e) (b.ev e) g
noncomputable def ko_new (zero:List AV):KO:=fun _ _ _ _ id _ g => some (.mp id 0,⟨upd g.hp id (some (.cells zero false)),g.nx⟩)
noncomputable def ko_box (x:Opd):KO:=fun _ _ _ _ id e g => vBox id (x.ev e) g
noncomputable def ko_boxI (x:Opd):KO:=fun _ _ _ _ _ e g => kBoxI (x.ev e) g
noncomputable def ko_build (zero:List AV) (parts:List (Nat × Nat × Opd)):KO:=fun _ _ _ _ _ e g => frcR (vMapL .agg g (fill e zero parts))
noncomputable def ko_bsl (imm:Bool) (n:Nat) (zero:List AV) (parts:List (Nat × Nat × Opd)):KO:=fun _ _ _ _ id e g => frcR (kBsl id imm n (fill e zero parts) g)
noncomputable def ko_ld (agg:Option Nat) (x:Opd):KO:=fun _ _ al _ _ e g => vLd al agg (x.ev e) g
noncomputable def ko_st (n:Nat) (a x:Opd):KO:=fun _ _ al _ _ e g => vSt al n (a.ev e) (x.ev e) g
noncomputable def ko_stL (n:Nat) (a x:Opd):KO:=fun _ _ al lo _ e g => vSt (fun i => decide (lo≤i) && al i) n (a.ev e) (x.ev e) g
noncomputable def ko_ldF (agg:Option Nat) (x:Opd):KO:=fun _ _ al _ _ e g => vLdF al agg (x.ev e) g
noncomputable def ko_stW (n:Nat) (a x:Opd):KO:=fun _ _ al _ _ e g => vSt al n (a.ev e) (x.ev e) g
noncomputable def ko_ldQ (agg:Option Nat) (x:Opd) (t:Nat):KO:=fun _ _ al _ _ e g => vLdQ al agg (x.ev e) (e t) g
noncomputable def ko_stN (n:Nat) (a x:Opd) (ts:List Nat):KO:=fun _ _ al _ _ e g => vStN al n (a.ev e) (x.ev e) (ts.map e) g
noncomputable def ko_nilck (x:Opd):KO:=fun _ _ _ _ _ e g => vNil (x.ev e) g
noncomputable def ko_bin (op:BinOp) (x y:Opd):KO:=fun _ _ _ _ _ e g => frcR (vMap g (kBin op (x.ev e) (y.ev e)))
noncomputable def ko_eqb (neg:Bool) (x y:Opd):KO:=fun _ _ _ _ _ e g => frcR (vMap g (negb neg (aeqb (x.ev e) (y.ev e))))
noncomputable def ko_eqs (neg:Bool) (x:Opd):KO:=fun _ _ _ _ _ e g => frcR (vMap g (negb neg (aeqs (x.ev e))))
noncomputable def ko_eqn (neg:Bool) (x y:Opd):KO:=fun _ _ _ _ _ e g => frcR (vMap g (negb neg (aeqn (x.ev e) (y.ev e))))
noncomputable def ko_eqa (neg:Bool) (ks:List Nat) (x y:Opd):KO:=fun _ _ _ _ _ e g => frcR (vMap g (negb neg (aeqa ks (x.ev e) (y.ev e))))
noncomputable def ko_un (op:UnOp) (x:Opd):KO:=fun _ _ _ _ _ e g => frcR (vMap g (aun op (x.ev e)))
noncomputable def ko_conv (k:IntKind) (x:Opd):KO:=fun _ _ _ _ _ e g => frcR (vConv k (x.ev e) g)
noncomputable def ko_mkfn (f:Nat) (fst caps:List Opd):KO:=fun _ _ _ _ _ e g => some (.fn f (fst.map (·.ev e)) (caps.map (·.ev e)),g)
noncomputable def ko_mkmap:KO:=fun _ _ _ _ id _ g => some (.mm id,⟨upd g.hp id (some (.map [])),g.nx⟩)
noncomputable def ko_mput (m k v:Opd):KO:=fun _ _ al _ _ e g => vMput al (m.ev e) (k.ev e) (v.ev e) g
noncomputable def ko_mget (m k:Opd):KO:=fun _ _ al _ _ e g => vMget al (m.ev e) (k.ev e) g
noncomputable def ko_mksl (zero:List AV) (esz bytes:Nat) (len cap:Opd):KO:=fun _ _ _ _ id e g => frcR (vMksl id zero esz bytes (len.ev e) (cap.ev e) g)
noncomputable def ko_slice (esz:Nat) (x:Opd) (lo hi mx:Option Opd):KO:=fun _ _ _ _ _ e g => frcR (vSlice esz (x.ev e) (evo e lo) (evo e hi) (evo e mx) g)
noncomputable def ko_fa (off:Nat) (x:Opd):KO:=fun _ _ _ _ _ e g => vFa off (x.ev e) g
noncomputable def ko_fld (off:Nat) (agg:Option Nat) (x:Opd):KO:=fun _ _ _ _ _ e g => vFld off agg (x.ev e) g
noncomputable def ko_ia (esz:Nat) (x i:Opd):KO:=fun _ _ _ _ _ e g => vIa esz (x.ev e) (i.ev e) g
noncomputable def ko_iaa (len esz:Nat) (x i:Opd):KO:=fun _ _ _ _ _ e g => vIaa len esz (x.ev e) (i.ev e) g
noncomputable def ko_idx (len esz:Nat) (agg:Option Nat) (x i:Opd):KO:=fun _ _ _ _ _ e g => vIdx len esz agg (x.ev e) (i.ev e) g
noncomputable def ko_sidx (x i:Opd):KO:=fun _ _ _ _ _ e g => frcR (vSidx (x.ev e) (i.ev e) g)
noncomputable def ko_ext (i:Nat) (x:Opd):KO:=fun _ _ _ _ _ e g => vExt i (x.ev e) g
noncomputable def ko_len (x:Opd):KO:=fun _ _ _ _ _ e g => vLen (x.ev e) g
noncomputable def ko_slen (x:Opd):KO:=fun _ _ _ _ _ e g => frcR (vSlen (x.ev e) g)
noncomputable def ko_sslice (x:Opd) (lo hi:Option Opd):KO:=fun _ _ _ _ _ e g => frcR (vSslice (x.ev e) (evo e lo) (evo e hi) g)
noncomputable def ko_mx (x y:Opd):KO:=fun _ _ _ _ _ e g => frcR (vMx (x.ev e) (y.ev e) g)
noncomputable def ko_mn (x y:Opd):KO:=fun _ _ _ _ _ e g => frcR (vMn (x.ev e) (y.ev e) g)
noncomputable def ko_app (esz bytes:Nat) (x y:Opd):KO:=fun _ _ al _ id e g => frcR (kApp al id esz bytes (x.ev e) (y.ev e) g)
noncomputable def ko_appM (esz bytes:Nat) (x y:Opd):KO:=fun _ _ al _ id e g => frcR (vAppM al id esz bytes (x.ev e) (y.ev e) g)
noncomputable def ko_clr (esz:Nat) (zero:List AV) (x:Opd):KO:=fun _ _ al _ _ e g => frcR (vClr al esz zero (x.ev e) g)
noncomputable def ko_cutM (esz:Nat) (x hi:Opd):KO:=fun _ _ al _ id e g => frcR (vCutM al id esz (x.ev e) (hi.ev e) g)
noncomputable def ko_bad:KO:=fun _ _ _ _ _ _ _ => none
noncomputable def ko_pure (f:Opd) (args:List Opd):KO:=fun orc call al _ id e g => match f.ev e with
 | .fn fid fst caps => (match frzLK (rd g al) depth (fst ++ args.map (·.ev e) ++ caps) with
   | some bs => (match orc fid bs with
     | some v => frcV v fun v => if flat v || ((fst ++ args.map (·.ev e) ++ caps).flatMap (vis (rd g al) depth)).isEmpty then some (v,g) else none
     | none => frcR (kCall call al id .pure (f.ev e) (args.map (·.ev e)) g))
   | none => none)
 | _ => none
noncomputable def ko_call (m:Mode) (f:Opd) (args:List Opd):KO:=Mode.casesOn (motive:=fun _ => KO) m (ko_pure f args)
 (fun _ call al _ id e g => frcR (kCall call al id .lock (f.ev e) (args.map (·.ev e)) g))
 (fun _ call al _ id e g => frcR (kCall call al id .thaw (f.ev e) (args.map (·.ev e)) g))
 (fun _ call al _ id e g => frcR (kCall call al id .raw (f.ev e) (args.map (·.ev e)) g))
 (fun _ call al _ id e g => frcR (kCall call al id .melt (f.ev e) (args.map (·.ev e)) g))
 (fun _ call al _ id e g => frcR (kCall call al id .see (f.ev e) (args.map (·.ev e)) g))
section
variable (orc:Orc)
noncomputable def opK (call:CS) (al:Nat→Bool) (lo id:Nat) (op:AOp) (e:Env) (g:G):Option (AV × G):=
 AOp.casesOn (motive:=fun _ => KO) op ko_mv ko_pick ko_new ko_box ko_boxI ko_build ko_bsl ko_ld ko_ldF ko_ldQ ko_st ko_stL ko_stW ko_stN ko_nilck ko_bin ko_eqb ko_eqn ko_eqs ko_eqa ko_un ko_conv ko_mkfn ko_mkmap ko_mput ko_mget ko_mksl ko_slice ko_fa ko_fld ko_ia ko_iaa ko_idx ko_sidx ko_ext ko_len ko_slen ko_sslice ko_mx ko_mn ko_app ko_appM ko_cutM ko_clr ko_bad ko_call orc call al lo id e g
noncomputable def regK (call:CS) (b:Env) (draw:Bool) (base:Nat) (ops:List AOper):Nat→ET→G→Option (ET × G):=
 List.rec (motive:=fun _ => Nat→ET→G→Option (ET × G)) (fun _ t g => some (t,g)) (fun o _ ih j t g =>
  match wanted (kev b t) o.grd with
  | true => match opK orc call (allow draw base o.pre) base (base + j) o.op (kev b t) g with
    | some (v,g) => putO o.dst v t fun t => ih (j + 1) t g
    | none => none
  | false => putO o.dst .undef t fun t => ih (j + 1) t g) ops
noncomputable def iterK (f:ET→G→Option (Out × ET × G)) (k:Nat):ET→G→Option (Out × ET × G):=
 Nat.rec (motive:=fun _ => ET→G→Option (Out × ET × G)) (fun _ _ => none) (fun _ ih t g => match f t g with
  | some (.nrm,t,g) => ih t g
  | r => r) k
noncomputable def codeK (call:CS) (b:Env) (k:Nat) (c:ACode):ET→G→Option (Out × ET × G):=
 ACode.rec (motive:=fun _ => ET→G→Option (Out × ET × G))
  (fun t g => some (.nrm,t,g))
  (fun draw ops t g => frcN g.nx fun base => frcN (base + ops.length) fun nx => match regK orc call b draw base ops 0 t ⟨g.hp,nx⟩ with
   | some (t,g) => some (.nrm,t,g)
   | none => none)
  (fun _ _ fa fb t g => match fa t g with
   | some (.nrm,t,g) => fb t g
   | r => r)
  (fun c _ _ ft ff t g => match c.ev (kev b t) with
   | .b x => Bool.rec (motive:=fun _ => Option (Out × ET × G)) (ff t g) (ft t g) x
   | _ => none)
  (fun id _ fc t g => match fc t g with
   | some (.ext n,t,g) => some (Bool.rec (motive:=fun _ => Out) (.ext n) .nrm (Nat.beq n id),t,g)
   | r => r)
  (fun n _ fc t g => fc t ⟨lock g.hp (vis g.hp depth (kev b t n)),g.nx⟩)
  (fun n _ fc t g => fc t ⟨lock g.hp (ids1 (kev b t n)),g.nx⟩)
  (fun n _ fc t g => match frzK g.hp depth (kev b t n) with
   | some v => ET.putK v (n + 1) t n fun t' => fc t' ⟨lock g.hp (vis g.hp depth (kev b t n)),g.nx⟩
   | none => none)
  (fun _ _ _ _ => none)
  (fun _ fc t g => fc t g)
  (fun t g => some (.nrm,t,g))
  (fun _ fc t g => iterK fc k t g)
  (fun id t g => some (.ext id,t,g))
  (fun t g => some (.ret,t,g)) c
variable (F:Funs)
noncomputable def callK (k:Nat):CS:=
 Nat.rec (motive:=fun _ => CS) (fun _ _ _ => none) (fun k ih f args g => match F f with
  | none => none
  | some fn => match codeK orc ih (argEnv args) k fn.body .leaf g with
    | some (.nrm,t,g) => (resE fn.res (kev (argEnv args) t) g).map (·,g)
    | some (.ret,t,g) => (resE fn.res (kev (argEnv args) t) g).map (·,g)
    | _ => none) k
end
def OrcOk (F:Funs) (orc:Orc):Prop:=∀ f bs v,orc f bs = some v→pureS F f bs = some v
section
variable {F:Funs} {orc:Orc} (ho:OrcOk F orc)
include ho
theorem opK_ok {call:CS} (hc:CLe call (callS F)) {al lo id op e g r} (h:opK orc call al lo id op e g = some r):opE (callS F) al lo id op e g = some r:=by
 cases op with
 | boxI x =>
   have h:kBoxI (x.ev e) g = some r:=h
   rw[kBoxI_ok] at h;exact h
 | build z ps =>
   have h:frcR (vMapL .agg g (fill e z ps)) = some r:=h
   rw[frcR_ok] at h;exact h
 | bsl imm n z ps =>
   have h:frcR (kBsl id imm n (fill e z ps) g) = some r:=h
   rw[frcR_ok,kBsl_ok] at h;exact h
 | bin o x y =>
   have h:frcR (vMap g (kBin o (x.ev e) (y.ev e))) = some r:=h
   rw[frcR_ok,kBin_ok] at h;exact h
 | eqb neg x y =>
   have h:frcR (vMap g (negb neg (aeqb (x.ev e) (y.ev e)))) = some r:=h
   rw[frcR_ok] at h;exact h
 | eqn neg x y =>
   have h:frcR (vMap g (negb neg (aeqn (x.ev e) (y.ev e)))) = some r:=h
   rw[frcR_ok] at h;exact h
 | eqs neg x =>
   have h:frcR (vMap g (negb neg (aeqs (x.ev e)))) = some r:=h
   rw[frcR_ok] at h;exact h
 | eqa neg ks x y =>
   have h:frcR (vMap g (negb neg (aeqa ks (x.ev e) (y.ev e)))) = some r:=h
   rw[frcR_ok] at h;exact h
 | un o x =>
   have h:frcR (vMap g (aun o (x.ev e))) = some r:=h
   rw[frcR_ok] at h;exact h
 | conv k x =>
   have h:frcR (vConv k (x.ev e) g) = some r:=h
   rw[frcR_ok] at h;exact h
 | mksl z esz bytes len cap =>
   have h:frcR (vMksl id z esz bytes (len.ev e) (cap.ev e) g) = some r:=h
   rw[frcR_ok] at h;exact h
 | slice esz x lo' hi mx =>
   have h:frcR (vSlice esz (x.ev e) (evo e lo') (evo e hi) (evo e mx) g) = some r:=h
   rw[frcR_ok] at h;exact h
 | sidx x i =>
   have h:frcR (vSidx (x.ev e) (i.ev e) g) = some r:=h
   rw[frcR_ok] at h;exact h
 | slen x =>
   have h:frcR (vSlen (x.ev e) g) = some r:=h
   rw[frcR_ok] at h;exact h
 | sslice x lo' hi =>
   have h:frcR (vSslice (x.ev e) (evo e lo') (evo e hi) g) = some r:=h
   rw[frcR_ok] at h;exact h
 | mx x y =>
   have h:frcR (vMx (x.ev e) (y.ev e) g) = some r:=h
   rw[frcR_ok] at h;exact h
 | mn x y =>
   have h:frcR (vMn (x.ev e) (y.ev e) g) = some r:=h
   rw[frcR_ok] at h;exact h
 | app esz bytes x y =>
   have h:frcR (kApp al id esz bytes (x.ev e) (y.ev e) g) = some r:=h
   rw[frcR_ok,kApp_ok] at h;exact h
 | appM esz bytes x y =>
   have h:frcR (vAppM al id esz bytes (x.ev e) (y.ev e) g) = some r:=h
   rw[frcR_ok] at h;exact h
 | clr esz z x =>
   have h:frcR (vClr al esz z (x.ev e) g) = some r:=h
   rw[frcR_ok] at h;exact h
 | cutM esz x hi =>
   have h:frcR (vCutM al id esz (x.ev e) (hi.ev e) g) = some r:=h
   rw[frcR_ok] at h;exact h
 | bad => cases h
 | call m f args =>
   cases m with
   | raw =>
     have h:frcR (kCall call al id .raw (f.ev e) (args.map (·.ev e)) g) = some r:=h
     rw[frcR_ok,kCall_ok] at h
     exact opE_mono (op:=.call .raw f args) hc h
   | see =>
     have h:frcR (kCall call al id .see (f.ev e) (args.map (·.ev e)) g) = some r:=h
     rw[frcR_ok,kCall_ok] at h
     exact opE_mono (op:=.call .see f args) hc h
   | lock =>
     have h:frcR (kCall call al id .lock (f.ev e) (args.map (·.ev e)) g) = some r:=h
     rw[frcR_ok,kCall_ok] at h
     exact opE_mono (op:=.call .lock f args) hc h
   | thaw =>
     have h:frcR (kCall call al id .thaw (f.ev e) (args.map (·.ev e)) g) = some r:=h
     rw[frcR_ok,kCall_ok] at h
     exact opE_mono (op:=.call .thaw f args) hc h
   | melt =>
     have h:frcR (kCall call al id .melt (f.ev e) (args.map (·.ev e)) g) = some r:=h
     rw[frcR_ok,kCall_ok] at h
     exact opE_mono (op:=.call .melt f args) hc h
   | pure =>
     have h:ko_pure f args orc call al lo id e g = some r:=h
     unfold ko_pure at h
     split at h
     ·rename_i fid fst caps hf
      split at h
      ·rename_i bs hb
       split at h
       ·rename_i v hv
        rw[frcV_ok] at h
        split at h
        ·rename_i hfl
         cases h
         show vPure F al (f.ev e) (args.map (·.ev e)) g = _
         rw[hf]
         rw[frzLK_ok] at hb
         exact vPure_ok hb (ho _ _ _ hv) hfl
        ·cases h
       ·rw[frcR_ok,kCall_ok] at h
        exact opE_mono (op:=.call .pure f args) hc h
      ·cases h
     ·cases h
 | _ => exact h
theorem regK_ok {call:CS} (hc:CLe call (callS F)) {b:Env} {draw:Bool} {base:Nat}:∀ {ops:List AOper} {j:Nat} {t:ET} {g:G} {t' g'},regK orc call b draw base ops j t g = some (t',g')→regE (callS F) draw base j ops (kev b t) g = some (kev b t',g')
 | [],j,t,g,t',g',h => by cases h;rfl
 | o :: os,j,t,g,t',g',h => by
   have h:(match wanted (kev b t) o.grd with
    | true => match opK orc call (allow draw base o.pre) base (base + j) o.op (kev b t) g with
      | some (v,g) => putO o.dst v t fun t => regK orc call b draw base os (j + 1) t g
      | none => none
    | false => putO o.dst .undef t fun t => regK orc call b draw base os (j + 1) t g) = some (t',g'):=h
   simp only[regE]
   cases hw:wanted (kev b t) o.grd with
   | true =>
     rw[hw] at h
     simp only[if_true]
     cases hop:opK orc call (allow draw base o.pre) base (base + j) o.op (kev b t) g with
     | none => rw[hop] at h;cases h
     | some r =>
       obtain ⟨v,g1⟩:=r
       rw[hop] at h
       simp only at h
       rw[opK_ok ho hc hop]
       obtain ⟨t1,e1,e2⟩:=putO_ok b o.dst v t fun t => regK orc call b draw base os (j + 1) t g1
       rw[e1] at h
       simp only
       rw[←e2]
       exact regK_ok hc h
   | false =>
     rw[hw] at h
     simp only[Bool.false_eq_true,if_false]
     obtain ⟨t1,e1,e2⟩:=putO_ok b o.dst .undef t fun t => regK orc call b draw base os (j + 1) t g
     simp only[e1] at h
     rw[←e2]
     exact regK_ok hc h
theorem codeK_ok {call:CS} (hc:CLe call (callS F)) {b:Env} {k:Nat}:∀ {c:ACode} {t:ET} {g:G} {o t' g'},codeK orc call b k c t g = some (o,t',g')→codeS F c (kev b t) g = some (o,kev b t',g'):=by
 intro c
 induction c with
 | skip => intro t g o t' g' h;cases h;exact codeS_skip F _ _
 | lab => intro t g o t' g' h;cases h;exact codeS_lab F _ _
 | ext id => intro t g o t' g' h;cases h;exact codeS_ext F _ _ _
 | ret => intro t g o t' g' h;cases h;exact codeS_ret F _ _
 | scp c ih => intro t g o t' g' h;rw[codeS_scp];exact ih h
 | lck n c ih => intro t g o t' g' h;rw[codeS_lck];exact ih h
 | lckS n c ih => intro t g o t' g' h;rw[codeS_lckS];exact ih h
 | tmp c ih =>
   intro t g o t' g' h
   have h:(none:Option (Out × ET × G)) = some (o,t',g'):=h
   cases h
 | imm n c ih =>
   intro t g o t' g' h
   have h:(match frzK g.hp depth (kev b t n) with
    | some v => ET.putK v (n + 1) t n fun t' => codeK orc call b k c t' ⟨lock g.hp (vis g.hp depth (kev b t n)),g.nx⟩
    | none => none) = some (o,t',g'):=h
   rw[frzK_ok] at h
   rw[codeS_imm]
   cases hf:frz g.hp depth (kev b t n) with
   | none => rw[hf] at h;cases h
   | some v =>
     rw[hf] at h
     obtain ⟨t1,e1,e2⟩:=putO_ok b (some n) v t fun t' => codeK orc call b k c t' ⟨lock g.hp (vis g.hp depth (kev b t n)),g.nx⟩
     have e1':ET.putK v (n + 1) t n (fun t' => codeK orc call b k c t' ⟨lock g.hp (vis g.hp depth (kev b t n)),g.nx⟩) = _:=e1
     simp only[e1'] at h
     have e3:upd (kev b t) n v = kev b t1:=e2.symm
     simp only[e3]
     exact ih h
 | reg draw ops =>
   intro t g o t' g' h
   have h:(frcN g.nx fun base => frcN (base + ops.length) fun nx => match regK orc call b draw base ops 0 t ⟨g.hp,nx⟩ with
    | some (t,g) => some (Out.nrm,t,g)
    | none => none) = some (o,t',g'):=h
   simp only[frcN_ok] at h
   rw[codeS_reg]
   cases hr:regK orc call b draw g.nx ops 0 t ⟨g.hp,g.nx + ops.length⟩ with
   | none => rw[hr] at h;cases h
   | some r =>
     obtain ⟨t1,g1⟩:=r
     rw[hr] at h
     cases h
     rw[regK_ok ho hc hr]
 | seq x y ihx ihy =>
   intro t g o t' g' h
   have h:(match codeK orc call b k x t g with
    | some (.nrm,t,g) => codeK orc call b k y t g
    | r => r) = some (o,t',g'):=h
   rw[codeS_seq]
   cases hx:codeK orc call b k x t g with
   | none => rw[hx] at h;cases h
   | some r =>
     obtain ⟨o1,t1,g1⟩:=r
     rw[hx] at h
     rw[ihx hx]
     cases o1 with
     | nrm => exact ihy h
     | ext n => cases h;rfl
     | ret => cases h;rfl
 | cond x y z ihy ihz =>
   intro t g o t' g' h
   have h:(match x.ev (kev b t) with
    | .b w => Bool.rec (motive:=fun _ => Option (Out × ET × G)) (codeK orc call b k z t g) (codeK orc call b k y t g) w
    | _ => none) = some (o,t',g'):=h
   rw[codeS_cond]
   generalize x.ev (kev b t) = v at h ⊢
   cases v with
   | b w =>
     cases w with
     | true => exact ihy h
     | false => exact ihz h
   | _ => cases h
 | blk id c ih =>
   intro t g o t' g' h
   have h:(match codeK orc call b k c t g with
    | some (.ext n,t,g) => some (Bool.rec (motive:=fun _ => Out) (.ext n) .nrm (Nat.beq n id),t,g)
    | r => r) = some (o,t',g'):=h
   rw[codeS_blk]
   cases hx:codeK orc call b k c t g with
   | none => rw[hx] at h;cases h
   | some r =>
     obtain ⟨o1,t1,g1⟩:=r
     rw[hx] at h
     rw[ih hx]
     cases o1 with
     | nrm => cases h;rfl
     | ret => cases h;rfl
     | ext n =>
       simp only at h ⊢
       cases hb:Nat.beq n id with
       | true => rw[hb] at h;cases h;rw[if_pos (Nat.eq_of_beq_eq_true hb)]
       | false => rw[hb] at h;cases h;rw[if_neg (Nat.ne_of_beq_eq_false hb)]
 | loop c ih =>
   intro t g o t' g' h
   have key:∀ (j:Nat) (t:ET) (g:G),iterK (codeK orc call b k c) j t g = some (o,t',g')→codeS F (.loop c) (kev b t) g = some (o,kev b t',g'):=by
    intro j
    induction j with
    | zero => intro t g h;cases h
    | succ j ihj =>
      intro t g h
      have h:(match codeK orc call b k c t g with
       | some (.nrm,t,g) => iterK (codeK orc call b k c) j t g
       | r => r) = some (o,t',g'):=h
      rw[codeS_loop]
      cases hx:codeK orc call b k c t g with
      | none => rw[hx] at h;cases h
      | some r =>
        obtain ⟨o1,t1,g1⟩:=r
        rw[hx] at h
        rw[ih hx]
        cases o1 with
        | nrm => exact ihj _ _ h
        | ext n => cases h;rfl
        | ret => cases h;rfl
   exact key k t g h
theorem callK_ok:∀ (k:Nat),CLe (callK orc F k) (callS F)
 | 0 => fun _ _ _ _ h => by cases h
 | k + 1 => fun f asx g r h => by
   have h:(match F f with
    | none => none
    | some fn => match codeK orc (callK orc F k) (argEnv asx) k fn.body .leaf g with
      | some (.nrm,t,g) => (resE fn.res (kev (argEnv asx) t) g).map (·,g)
      | some (.ret,t,g) => (resE fn.res (kev (argEnv asx) t) g).map (·,g)
      | _ => none) = some r:=h
   rw[callS_eq]
   cases hF:F f with
   | none => rw[hF] at h;cases h
   | some fn =>
     rw[hF] at h
     simp only at h ⊢
     have e0:kev (argEnv asx) .leaf = argEnv asx:=rfl
     cases hx:codeK orc (callK orc F k) (argEnv asx) k fn.body .leaf g with
     | none => rw[hx] at h;cases h
     | some q =>
       obtain ⟨o1,t1,g1⟩:=q
       rw[hx] at h
       have:=codeK_ok ho (callK_ok k) hx
       rw[e0] at this
       rw[this]
       cases o1 with
       | nrm => exact h
       | ext n => cases h
       | ret => exact h
noncomputable def evK (orc:Orc) (F:Funs) (k:Nat) (rs:List ARes) (c:ACode) (e:Env) (g:G):Bool:=
 match codeK orc (callK orc F k) e k c .leaf g with
 | some (.nrm,t,g) => (match resE rs (kev e t) g with | some v => (match frzK g.hp depth v with | some (.b x) => x | _ => false) | none => false)
 | some (.ret,t,g) => (match resE rs (kev e t) g with | some v => (match frzK g.hp depth v with | some (.b x) => x | _ => false) | none => false)
 | _ => false
theorem W_eval (k:Nat) {rs:List ARes} {c:ACode} {e:Env} {g:G} (h:evK orc F k rs c e g = true):W F c e g (retQ rs (.b true)):=by
 unfold evK at h
 have fin:∀ (t:ET) (g:G),(match resE rs (kev e t) g with | some v => (match frzK g.hp depth v with | some (.b x) => x | _ => false) | none => false) = true→(match resE rs (kev e t) g with | some v0 => frz g.hp depth v0 | none => none) = some (.b true):=by
  intro t g h
  cases hr:resE rs (kev e t) g with
  | none => rw[hr] at h;cases h
  | some v =>
    rw[hr] at h
    simp only[frzK_ok] at h ⊢
    cases hf:frz g.hp depth v with
    | none => rw[hf] at h;cases h
    | some w =>
      rw[hf] at h
      cases w<;>first | (cases h;done) | (simp only at h;subst h;rfl)
 split at h
 ·rename_i t g1 hx
  exact ⟨_,_,_,codeK_ok ho (callK_ok ho k) hx,fin t g1 h⟩
 ·rename_i t g1 hx
  exact ⟨_,_,_,codeK_ok ho (callK_ok ho k) hx,fin t g1 h⟩
 ·cases h
theorem pure_eval (k:Nat) {f:Nat} {fn:AFun} {asx:List AV} (hF:F f = some fn) (h:evK orc F k fn.res fn.body (argEnv asx) g0 = true):pureS F f asx = some (.b true):=
 pure_of hF (W_eval ho k h)
end
def orc0:Orc:=fun _ _ => none
theorem orc0_ok (F:Funs):OrcOk F orc0:=fun _ _ _ h => by cases h
end Go.Ab
end
section
set_option linter.unusedVariables false
set_option maxRecDepth 100000
namespace Go.Proofs.Ytippmjhokhjjiaa
open Go.Ab
theorem exF:ExF funs:=⟨rfl,rfl,rfl,rfl,rfl⟩
theorem chF:ChF funs:=⟨exF,rfl,rfl,rfl,rfl,rfl,rfl,rfl⟩
theorem runF:RunF funs:=⟨rfl,rfl,rfl,rfl,rfl,rfl,rfl,rfl,rfl,rfl,rfl,rfl⟩
theorem enF:EnF funs:=⟨chF,runF,rfl,rfl,rfl,rfl,rfl,rfl,rfl,rfl,rfl,rfl,rfl,rfl,rfl⟩
theorem numF:NumF funs:=⟨enF,⟨rfl,rfl,rfl,rfl,rfl,rfl⟩,rfl,rfl,rfl,rfl⟩
theorem ml_awake:pureS funs 279 [] = some (.b true):=pure_eval (orc0_ok funs) 1000 (fn:=A_xlaw08_awake) rfl (by kernel_rfl)
theorem memFinal_law (l:List Int) (hl:l.length≤Go.maxLen) (pick:Int) (tl:Tok):pureS funs 464 [.sl (intsC l) l.length tl,.i .i64 pick] = some (.b true):=
 sp_memFin numF rfl ml_awake rfl rfl rfl l (by simp only[Go.maxLen] at hl;omega) pick tl
end Go.Proofs.Ytippmjhokhjjiaa
end
