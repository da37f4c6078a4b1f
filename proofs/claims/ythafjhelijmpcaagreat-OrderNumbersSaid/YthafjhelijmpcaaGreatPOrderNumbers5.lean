/- What OrderNumbers rests on, part 5: lemmas, no claim of its own. -/
import Derived.Test.YthafjhelijmpcaaGreatPOrderNumbers4
set_option maxRecDepth 100000
set_option maxHeartbeats 16000000
open Nat renaming reduceAdd → qa, reduceMul → qb, reduceSub → qc
section
set_option linter.unusedVariables false
set_option linter.unusedSimpArgs false
namespace Go.Ab
variable {F:Funs}
theorem RfOk.congr {X:Gr} {rf rf':List Int} {co co':List (List Int)} {i:Nat} (h:RfOk (putX X rf co) i) (he:rf'.getD i 0 = rf.getD i 0):RfOk (putX X rf' co') i:=by
 unfold RfOk at h ⊢
 have e1:(putX X rf' co').rf.getD i 0 = (putX X rf co).rf.getD i 0:=he
 rw[e1]
 exact h
def cs0:Nat→List Int:=fun j => [(j:Int)]
theorem EnS.mvR {P:Gr→Prop} {Eb R:Nat} {L:List Gr} {t:Tok} {g:G} {cs:List AV} {ro:Bool} (h:EnS P Eb L t g) (hR:g.hp R = some (.cells cs ro)) (hne:Eb≠R) {hp':Nat→Option Blk} {m:Nat} (hk:∀ i,i < g.nx→i≠R→hp' i = g.hp i) (hm:g.nx≤m) (hf:∀ i,m≤i→hp' i = none):EnS P Eb L t ⟨hp',m⟩:=
 ⟨(hk _ h.lt hne).trans h.he,h.tk.mono (fun i hi => by
   rcases h.tk with h1 | ⟨i',h1,h2,h3⟩
   ·rw[hi] at h1;cases h1
   ·rw[hi] at h1;cases h1
    exact hk i h3 (fun hh => by rw[hh,hR] at h2;cases h2)) hm,h.ll,h.ok,Nat.lt_of_lt_of_le h.lt hm,hf⟩
structure RfR (P:Gr→Prop) (X:Gr) (Eb R:Nat) (rf:List Int) (i:Nat) (g g':G):Prop where
 en:∃ L t,EnS P Eb L t g'
 hr:∃ rf',g'.hp R = some (.cells (intsC rf') false)∧rf'.length = X.evs.length∧∀ j,j < i→rf'.getD j 0 = rf.getD j 0
 fr:Frm2 Eb R g g'
structure RfW (P:Gr→Prop) (X:Gr) (Eb R C B4 b:Nat) (ts:Nat→Tok) (rf:List Int) (i:Nat) (g0:G) (w:Nat) (L:List Gr) (t:Tok) (rf1:List Int) (e:Env) (g:G):Prop where
 hw:w≤X.evs.length
 e0:e 0 = .mp Eb 0
 e2:e 2 = .i .i64 ((i:Nat):Int)
 e4:e 4 = .mp B4 0
 e6:e 6 = .mp b 0
 e7:e 7 = .i .i64 ((w:Nat):Int)
 h4:g.hp B4 = some (.cells (gfC X R C) false)
 h6:g.hp b = some (.cells (evC (X.evs.getD i ev0)) false)
 hr:g.hp R = some (.cells (intsC rf1) false)
 rl:rf1.length = X.evs.length
 rp:∀ j,j < i→rf1.getD j 0 = rf.getD j 0
 hc:g.hp C = some (.cells (coC2 cs0 ts) false)
 en:EnS P Eb L t g
 fr:Frm2 Eb R g0 g
 bs:g0.nx≤B4∧g0.nx≤b∧B4 < g.nx∧b < g.nx
 rc:R < g0.nx∧C < g0.nx∧Eb < g0.nx
theorem RfW.mv {P:Gr→Prop} {X:Gr} {Eb R C B4 b:Nat} {ts:Nat→Tok} {rf:List Int} {i:Nat} {g0:G} {w:Nat} {L:List Gr} {t:Tok} {rf1:List Int} {e:Env} {g:G} (I:RfW P X Eb R C B4 b ts rf i g0 w L t rf1 e g)
  {e':Env} {hp':Nat→Option Blk} {m:Nat} (h0:e' 0 = e 0) (h2:e' 2 = e 2) (h4:e' 4 = e 4) (h6:e' 6 = e 6) (h7:e' 7 = e 7) (hk:∀ i,i < g.nx→hp' i = g.hp i) (hm:g.nx≤m) (hf:∀ i,m≤i→hp' i = none):RfW P X Eb R C B4 b ts rf i g0 w L t rf1 e' ⟨hp',m⟩:=
 have hx:=I.fr.nx
 ⟨I.hw,h0.trans I.e0,h2.trans I.e2,h4.trans I.e4,h6.trans I.e6,h7.trans I.e7,(hk _ I.bs.2.2.1).trans I.h4,(hk _ I.bs.2.2.2).trans I.h6,(hk _ (Nat.lt_of_lt_of_le I.rc.1 hx)).trans I.hr,I.rl,I.rp,(hk _ (Nat.lt_of_lt_of_le I.rc.2.1 hx)).trans I.hc,I.en.mv hk hm hf,
  ⟨Nat.le_trans I.fr.nx hm,fun i hi a b c => by show hp' i = _;rw[hk i (Nat.lt_of_lt_of_le hi I.fr.nx)];exact I.fr.keep i hi a b c⟩,⟨I.bs.1,I.bs.2.1,Nat.lt_of_lt_of_le I.bs.2.2.1 hm,Nat.lt_of_lt_of_le I.bs.2.2.2 hm⟩,I.rc⟩
theorem rp_rf (h106:F 106 = some A_xref13_E_rf) (h122:F 122 = some A_xref13_E_co) (h131:F 131 = some A_xref13_copied) {P:Gr→Prop} {X:Gr} {Eb R C:Nat} {ts:Nat→Tok} (hlocs:X.locs = 2) (hn:X.evs.length≤100) (hn2:2≤X.evs.length) (hfst:∀ w:Nat,w < 2→X.evs.getD w ev0 = wE w)
  (hP:∀ (rf:List Int) (cs:Nat→List Int),rf.length = X.evs.length→(∀ i,i < X.evs.length→RfOk (putX X rf []) i)→(∀ j,j < 2→CoPre X j (cs j)∧CoFull X j (cs j))→P (putX X rf [cs 0,cs 1])) (hne:Eb≠R∧Eb≠C∧R≠C):
  ∀ (d i:Nat) (rf:List Int) (L:List Gr) (t:Tok) (g:G),X.evs.length - i≤d→i≤X.evs.length→EnS P Eb L t g→g.hp R = some (.cells (intsC rf) false)→rf.length = X.evs.length→g.hp C = some (.cells (coC2 cs0 ts) false)→R < g.nx→C < g.nx→(∀ j,j < i→RfOk (putX X rf []) j) →
    ∃ v g',callS F 106 [.mp Eb 0,.agg (gfC X R C),.i .i64 ((i:Nat):Int)] g = some (v,g')∧RfR P X Eb R rf i g g':=by
 intro d
 induction d using Nat.strongRecOn with
 | _ d ih =>
   intro i rf L t g hd hi en hr hrl hc hR hC hok
   obtain ⟨ne1,ne2,ne3⟩:=hne
   refine raw_of (P:=fun v g' => RfR P X Eb R rf i g g') h106 ?_
   have he:=en.he
   have hEl:=en.lt
   have hgf:gfC X R C = [.i .i64 2,.sl (evsC X.evs) X.evs.length .non,.ms R 0 X.evs.length,.ms C 0 2,.sl (pairsC X.rmw) X.rmw.length .non,.sl (pairsC X.data) X.data.length .non,.sl (pairsC X.ctrl) X.ctrl.length .non,.sl (pairsC X.ctrli) X.ctrli.length .non]:=by rw[gfC,hlocs]
   have p8:∀ c1 c2 c3 c4 c5 c6 c7 c8:AV,part [c1,c2,c3,c4,c5,c6,c7,c8] 0 (some 8) = some (.agg [c1,c2,c3,c4,c5,c6,c7,c8]):=fun _ _ _ _ _ _ _ _ => rfl
   have l5:∀ y:AV,List.replicate 5 y = [y,y,y,y,y]:=fun _ => rfl
   have s6:∀ b1 b2 b3 b4 b5 b6 c1 c2 c3 c4 c5 c6:AV,splice [b1,b2,b3,b4,b5,b6] 0 [c1,c2,c3,c4,c5,c6] = [c1,c2,c3,c4,c5,c6]:=fun _ _ _ _ _ _ _ _ _ _ _ _ => rfl
   have ret0:∀ m,g.nx + 1≤m→RfR P X Eb R rf i g ⟨upd g.hp g.nx (some (.cells (gfC X R C) false)),m⟩:=fun m hm =>
    ⟨⟨L,t,en.mv (fun i hi => upd_ne _ _ (by omega)) (by omega) (fun i hi => by rw[upd_ne _ _ (by omega)];exact en.fresh i (by omega))⟩,⟨rf,(upd_ne _ _ (by omega)).trans hr,hrl,fun _ _ => rfl⟩,⟨by show g.nx≤m;omega,fun i hi _ _ _ => upd_ne _ _ (by omega)⟩⟩
   by_cases cb:20000 < L.length
   ·rw[decide_eq_true cb] at he
    rw[hgf] at ret0 ⊢
    simp (disch:=omega) only[A_xref13_E_rf,wp,qa,qb,qc,gl,he]
    exact ⟨_,rfl,ret0 _ (by omega)⟩
   ·rw[decide_eq_false cb] at he
    by_cases ci:i = X.evs.length
    ·have ci':(((i:Nat):Int) == ((X.evs.length:Nat):Int)) = true:=by rw[ci];simp
     have hpre:∀ j,j < 2→CoPre X j (cs0 j):=fun j hj => by
      refine ⟨fun v hv => ?_,by simp[cs0],[],rfl⟩
      obtain rfl:v = (j:Int):=by simpa [cs0] using hv
      refine ⟨by omega,by omega,?_⟩
      rw[Int.toNat_natCast,hfst j hj]
      simp[isWr,wE]
     have hco:=fun g1 e1 e2 e3 e4 e5 => rp_co h122 h131 (P:=P) (X:=X) (Eb:=Eb) (R:=R) (C:=C) (rf:=rf) hlocs hn hn2 (fun w hw => by rw[hfst w hw];rfl) hrl (fun cs h => hP rf cs hrl (fun j hj => hok j (by omega)) h) ⟨ne1,ne2,ne3⟩ _ 0 cs0 ts L t g1 (Nat.le_refl _) (by omega) e1 e2 e3 e4 e5 hpre (fun j hj => absurd hj (Nat.not_lt_zero j))
     rw[hgf] at hco
     simp (disch:=omega) only[A_xref13_E_rf,wp,qa,qb,qc,gl,he,ci',p8,hgf]
     refine bindO_call _ (hco _ (en.mv (fun i hi => upd_ne _ _ (by omega)) ?_ (fun i hi => ?_)) ((upd_ne _ _ (by omega)).trans hr) ((upd_ne _ _ (by omega)).trans hc) ?_ ?_) ?_
     ·first | omega | (dsimp only;omega)
     ·try dsimp only at hi
      rw[upd_ne _ _ (by omega)];exact en.fresh i (by omega)
     ·first | omega | (dsimp only;omega)
     ·first | omega | (dsimp only;omega)
     ·rintro v g2 ⟨L2,t2,en2,fr2⟩
      have fx:=fr2.nx
      dsimp only at fx
      simp (disch:=omega) only[wp,qa,qb,qc,gl]
      exact ⟨_,rfl,⟨L2,t2,en2⟩,⟨rf,fr2.cells (by first | omega | (dsimp only;omega)) (by omega) ((upd_ne _ _ (by omega)).trans hr),hrl,fun _ _ => rfl⟩,⟨by omega,fun i hi a b c => by
       have h1:upd g.hp g.nx (some (.cells [.i .i64 2,.sl (evsC X.evs) X.evs.length .non,.ms R 0 X.evs.length,.ms C 0 2,.sl (pairsC X.rmw) X.rmw.length .non,.sl (pairsC X.data) X.data.length .non,.sl (pairsC X.ctrl) X.ctrl.length .non,.sl (pairsC X.ctrli) X.ctrli.length .non] false)) i = g.hp i:=upd_ne _ _ (by omega)
       exact (fr2.keep i (by first | omega | (dsimp only;omega)) a (fun b' hb' => c b' (h1 ▸ hb'))).trans h1⟩⟩
    ·have ci':(((i:Nat):Int) == ((X.evs.length:Nat):Int)) = false:=by rw[beq_eq_false_iff_ne];omega
     have hev:=ev_part (l:=X.evs) (k:=i) (by omega)
     have hwi:=succ_wrap (k:=i) (by omega)
     have hil:(intsC rf).length = X.evs.length:=by rw[intsC_len,hrl]
     have hrec:=fun rf2 => ih (X.evs.length - (i + 1)) (by omega) (i + 1) rf2
     generalize hre:X.evs.getD i ev0 = r at hev
     by_cases ck:r.kd = 1
     ·have ck':(r.kd != 1) = false:=by simpa using ck
      rw[evC] at hev
      simp (disch:=omega) only[A_xref13_E_rf,wp,qa,qb,qc,gl,he,ci',p8,hgf,hev,l5,s6,ck']
      refine blk_end (fun e g' => ∃ L1 t1 rf1,RfW P X Eb R C g.nx (g.nx + 1 + 4 + 5 + 5) ts rf i g X.evs.length L1 t1 rf1 e g') ?_ ?_
      ·refine W_loop (fun q e g' => ∃ (w:Nat) (L1:List Gr) (t1:Tok) (rf1:List Int),q = X.evs.length - w∧RfW P X Eb R C g.nx (g.nx + 1 + 4 + 5 + 5) ts rf i g w L1 t1 rf1 e g') X.evs.length ?_ ?_
       ·refine ⟨0,L,t,rf,rfl,Nat.zero_le _,rfl,rfl,rfl,rfl,rfl,?_,?_,?_,hrl,fun _ _ => rfl,?_,en.mv (fun i2 h2 => ?_) ?_ (fun i2 h2 => ?_),⟨by first | omega | (dsimp only;omega),fun i2 h2 _ _ _ => ?_⟩,⟨by omega,by omega,by first | omega | (dsimp only;omega),by first | omega | (dsimp only;omega)⟩,⟨hR,hC,hEl⟩⟩
        ·simp (disch:=omega) only[upd_ne,upd_same];rw[hgf]
        ·rw[hre];exact upd_same _ _ _
        ·simp (disch:=omega) only[upd_ne];exact hr
        ·simp (disch:=omega) only[upd_ne];exact hc
        ·simp (disch:=omega) only[upd_ne]
        ·first | omega | (dsimp only;omega)
        ·try dsimp only at h2
         simp (disch:=omega) only[upd_ne]
         exact en.fresh i2 (by omega)
        ·simp (disch:=omega) only[upd_ne]
       ·rintro q e g1 ⟨w,L1,t1,rf1,rfl,I⟩
        have e0:=I.e0
        have e2:=I.e2
        have e4:=I.e4
        have e6:=I.e6
        have e7:=I.e7
        have h4:=I.h4
        have h6:=I.h6
        have hr1:=I.hr
        have hc1:=I.hc
        have hx1:=I.fr.nx
        obtain ⟨b1,b2,b3,b4⟩:=I.bs
        rw[hgf] at h4
        rw[hre,evC] at h6
        by_cases d1:w < X.evs.length
        ·have d1':((w:Nat):Int) < ((X.evs.length:Nat):Int):=by omega
         have hevx:=ev_part d1
         have hww:=succ_wrap (k:=w) (by omega)
         have hil1:(intsC rf1).length = X.evs.length:=by rw[intsC_len,I.rl]
         generalize hxe:X.evs.getD w ev0 = x at hevx
         rw[evC] at hevx
         have next:∀ (e':Env) (hp':Nat→Option Blk) (m:Nat),e' 0 = e 0→e' 2 = e 2→e' 4 = e 4→e' 6 = e 6→e' 7 = .i .i64 ((w + 1:Nat):Int)→(∀ i,i < g1.nx→hp' i = g1.hp i)→g1.nx≤m→(∀ i,m≤i→hp' i = none) →
           ∃ m',m' < X.evs.length - w∧∃ (w:Nat) (L1:List Gr) (t1:Tok) (rf1:List Int),m' = X.evs.length - w∧RfW P X Eb R C g.nx (g.nx + 1 + 4 + 5 + 5) ts rf i g w L1 t1 rf1 e' ⟨hp',m⟩:=fun e' hp' m a0 a2 a4 a6 a7 hk hm hf => by
          have J:=I.mv (e':=upd e' 7 (e 7)) a0 a2 a4 a6 rfl hk hm hf
          exact ⟨X.evs.length - (w + 1),by omega,w + 1,L1,t1,rf1,rfl,⟨by omega,J.e0,J.e2,J.e4,J.e6,a7,J.h4,J.h6,J.hr,J.rl,J.rp,J.hc,J.en,J.fr,J.bs,J.rc⟩⟩
         cases k1:(x.kd == 2) with
         | false =>
           simp (disch:=omega) only[wp,qa,qb,qc,gl,e0,e2,e4,e6,e7,h4,h6,d1',hevx,l5,s6,k1,hww]
           refine next _ _ _ rfl rfl rfl rfl rfl (fun i2 h2 => ?_) (by omega) (fun i2 h2 => ?_)
           ·simp (disch:=omega) only[upd_ne]
           ·simp (disch:=omega) only[upd_ne];exact I.en.fresh i2 (by omega)
         | true =>
         cases k2:(x.lc == r.lc) with
         | false =>
           simp (disch:=omega) only[wp,qa,qb,qc,gl,e0,e2,e4,e6,e7,h4,h6,d1',hevx,l5,s6,k1,k2,hww]
           refine next _ _ _ rfl rfl rfl rfl rfl (fun i2 h2 => ?_) (by omega) (fun i2 h2 => ?_)
           ·simp (disch:=omega) only[upd_ne]
           ·simp (disch:=omega) only[upd_ne];exact I.en.fresh i2 (by omega)
         | true =>
         cases k3:(x.vl == r.vl) with
         | false =>
           simp (disch:=omega) only[wp,qa,qb,qc,gl,e0,e2,e4,e6,e7,h4,h6,d1',hevx,l5,s6,k1,k2,k3,hww]
           refine next _ _ _ rfl rfl rfl rfl rfl (fun i2 h2 => ?_) (by omega) (fun i2 h2 => ?_)
           ·simp (disch:=omega) only[upd_ne]
           ·simp (disch:=omega) only[upd_ne];exact I.en.fresh i2 (by omega)
         | true =>
           have hrec:=hrec (rf1.set i (w:Int)) L1 t1
           rw[hgf] at hrec
           have hok2:∀ j,j < i + 1→RfOk (putX X (rf1.set i (w:Int)) []) j:=fun j hj => by
            by_cases hji:j = i
            ·subst hji
             have hs:(rf1.set j (w:Int)).getD j 0 = (w:Int):=by
              rw[List.getD_eq_getElem?_getD,List.getElem?_set_self (by have:=I.rl;omega)];rfl
             refine ⟨fun h => absurd ?_ h,fun _ => ?_⟩
             ·show (X.evs.getD j ev0).kd = 1
              rw[hre];exact ck
             ·show 0≤(rf1.set j (w:Int)).getD j 0∧(rf1.set j (w:Int)).getD j 0 < X.evs.length∧(X.evs.getD ((rf1.set j (w:Int)).getD j 0).toNat ev0).kd = 2∧(X.evs.getD ((rf1.set j (w:Int)).getD j 0).toNat ev0).lc = (X.evs.getD j ev0).lc∧(X.evs.getD ((rf1.set j (w:Int)).getD j 0).toNat ev0).vl = (X.evs.getD j ev0).vl
              rw[hs,Int.toNat_natCast,hxe,hre]
              exact ⟨by omega,by omega,by simpa using k1,by simpa using k2,by simpa using k3⟩
            ·exact (hok j (by omega)).congr (by rw[List.getD_eq_getElem?_getD,List.getElem?_set_ne (by omega),←List.getD_eq_getElem?_getD,I.rp j (by omega)])
           simp (disch:=omega) only[wp,qa,qb,qc,gl,e0,e2,e4,e6,e7,h4,h6,d1',hevx,l5,s6,k1,k2,k3,hr1,hil1,intsC_set,hwi,p8]
           have hR1:R < g1.nx:=by omega
           have hC1:C < g1.nx:=by omega
           refine bindO_call _ (hrec _ (Nat.le_refl _) (by omega) (I.en.mvR I.hr ne1 (fun i2 h2 h3 => ?_) ?_ (fun i2 h2 => ?_)) (upd_same _ _ _) (by rw[List.length_set,I.rl]) ?_ ?_ ?_ hok2) ?_
           ·simp (disch:=omega) only[upd_ne]
           ·first | omega | (dsimp only;omega)
           ·try dsimp only at h2
            simp (disch:=omega) only[upd_ne]
            exact I.en.fresh i2 (by omega)
           ·simp (disch:=omega) only[upd_ne];exact I.hc
           ·first | omega | (dsimp only;omega)
           ·first | omega | (dsimp only;omega)
           ·rintro v g3 ⟨⟨L3,t3,en3⟩,⟨rf3,hr3,rl3,rp3⟩,fr3⟩
            have fx:=fr3.nx
            dsimp only at fx
            have hEl1:=I.en.lt
            have k3:∀ i2,i2 < g1.nx→i2≠Eb→i2≠R→(∀ b,g1.hp i2≠some (.tok b))→g3.hp i2 = g1.hp i2:=fun i2 h2 a b c => by
             rw[fr3.keep i2 (by first | omega | (dsimp only;omega)) a b (fun b' hb' => by
              simp (disch:=omega) only[upd_ne] at hb'
              exact c b' hb')]
             simp (disch:=omega) only[upd_ne]
            have kc:∀ i2 cs ro,i2 < g1.nx→i2≠Eb→i2≠R→g1.hp i2 = some (.cells cs ro)→g3.hp i2 = some (.cells cs ro):=fun i2 cs ro h2 a b h => by
             rw[k3 i2 h2 a b (fun b' hb' => by rw[h] at hb';cases hb'),h]
            simp (disch:=omega) only[wp,qa,qb,qc,gl,e7,hww]
            refine ⟨X.evs.length - (w + 1),by omega,w + 1,L3,t3,rf3,rfl,by omega,e0,e2,e4,e6,rfl,?_,?_,hr3,rl3,fun j hj => ?_,kc C _ _ hC1 (by omega) (by omega) I.hc,en3.mv (fun i hi => rfl) (by first | omega | (dsimp only;omega)) (fun i hi => en3.fresh i (by first | omega | (dsimp only at hi;omega))),⟨by first | omega | (dsimp only;omega),fun i2 h2 a b c => ?_⟩,⟨by omega,by omega,by first | omega | (dsimp only;omega),by first | omega | (dsimp only;omega)⟩,⟨hR,hC,hEl⟩⟩
            ·exact kc _ _ _ b3 (by omega) (by omega) I.h4
            ·exact kc _ _ _ b4 (by omega) (by omega) I.h6
            ·rw[rp3 j (by omega),List.getD_eq_getElem?_getD,List.getElem?_set_ne (by omega),←List.getD_eq_getElem?_getD,I.rp j hj]
            ·have h1:=I.fr.keep i2 h2 a b c
             exact (k3 i2 (by omega) a b (fun b' hb' => c b' (h1 ▸ hb'))).trans h1
        ·have d1':¬ ((w:Nat):Int) < ((X.evs.length:Nat):Int):=by omega
         obtain rfl:w = X.evs.length:=by have:=I.hw;omega
         simp (disch:=omega) only[wp,qa,qb,qc,gl,e0,e2,e4,e6,e7,h4,d1']
         exact ⟨L1,t1,rf1,I.mv rfl rfl rfl rfl rfl (fun i hi => rfl) (by first | omega | (dsimp only;omega)) (fun i hi => I.en.fresh i (by first | omega | (dsimp only at hi;omega)))⟩
      ·rintro e g1 ⟨L1,t1,rf1,I⟩
       simp (disch:=omega) only[wp,qa,qb,qc,gl]
       exact ⟨_,rfl,⟨L1,t1,I.en⟩,⟨rf1,I.hr,I.rl,I.rp⟩,I.fr⟩
     ·have ck':(r.kd != 1) = true:=by simpa using ck
      have hrec:=hrec (rf.set i (-1)) L t
      rw[hgf] at hrec
      have hok2:∀ j,j < i + 1→RfOk (putX X (rf.set i (-1)) []) j:=fun j hj => by
       by_cases hji:j = i
       ·subst hji
        refine ⟨fun _ => ?_,fun h => absurd h ?_⟩
        ·show (rf.set j (-1)).getD j 0 = -1
         rw[List.getD_eq_getElem?_getD,List.getElem?_set_self (by omega)];rfl
        ·show ¬ (X.evs.getD j ev0).kd = 1
         rw[hre];exact ck
       ·exact (hok j (by omega)).congr (by rw[List.getD_eq_getElem?_getD,List.getD_eq_getElem?_getD,List.getElem?_set_ne (by omega)])
      rw[evC] at hev
      simp (disch:=omega) only[A_xref13_E_rf,wp,qa,qb,qc,gl,he,ci',p8,hgf,hev,l5,s6,ck',hr,hil,intsC_set,hwi]
      refine bindO_call _ (hrec _ (Nat.le_refl _) (by omega) (EnS.mv (g:=⟨upd g.hp R (some (.cells (intsC (rf.set i (-1))) false)),g.nx⟩) ⟨(upd_ne _ _ ne1).trans en.he,en.tk.mono (fun i2 h2 => upd_ne _ _ (fun hh => by
        rcases en.tk with h | ⟨i',h,h1,h3⟩
        ·rw[h] at h2;cases h2
        ·rw[h] at h2;cases h2;rw[hh,hr] at h1;cases h1)) (Nat.le_refl _),en.ll,en.ok,hEl,fun i2 h2 => (upd_ne _ _ (by dsimp only at h2;omega)).trans (en.fresh i2 h2)⟩ (fun i2 h2 => ?_) ?_ (fun i2 h2 => ?_)) (upd_same _ _ _) (by rw[List.length_set,hrl]) ?_ ?_ ?_ hok2) ?_
      ·dsimp only at h2
       by_cases hh:i2 = R
       ·subst hh;simp (disch:=omega) only[upd_same]
       ·simp (disch:=omega) only[upd_ne]
      ·first | omega | (dsimp only;omega)
      ·try dsimp only at h2
       simp (disch:=omega) only[upd_ne]
       exact en.fresh i2 (by omega)
      ·simp (disch:=omega) only[upd_ne];exact hc
      ·first | omega | (dsimp only;omega)
      ·first | omega | (dsimp only;omega)
      ·rintro v g2 ⟨⟨L2,t2,en2⟩,⟨rf2,hr2,rl2,rp2⟩,fr2⟩
       have fx:=fr2.nx
       dsimp only at fx
       simp (disch:=omega) only[wp,qa,qb,qc,gl]
       refine ⟨_,rfl,⟨L2,t2,en2⟩,⟨rf2,hr2,rl2,fun j hj => (rp2 j (by omega)).trans (by rw[List.getD_eq_getElem?_getD,List.getD_eq_getElem?_getD,List.getElem?_set_ne (by omega)])⟩,⟨by omega,fun i2 h2 a b c => ?_⟩⟩
       rw[fr2.keep i2 (by first | omega | (dsimp only;omega)) a b (fun b' hb' => by
        simp (disch:=omega) only[upd_ne] at hb'
        exact c b' hb')]
       simp (disch:=omega) only[upd_ne]
end Go.Ab
end
section
set_option linter.unusedVariables false
set_option linter.unusedSimpArgs false
namespace Go.Ab
variable {F:Funs}
structure GrP (X Y:Gr):Prop where
 is:∃ (rf:List Int) (cs:Nat→List Int),Y = putX X rf [cs 0,cs 1]∧rf.length = X.evs.length∧(∀ i,i < X.evs.length→RfOk (putX X rf []) i)∧∀ j,j < 2→CoPre X j (cs j)∧CoFull X j (cs j)
def coFn (i:Nat):List AV:=[if 0 < i then .sl [.i .i64 0] 1 .rig else .sl [] 0 .rig,if 1 < i then .sl [.i .i64 1] 1 .rig else .sl [] 0 .rig]
theorem flat_rep (n:Nat):(List.replicate n [AV.i .i64 0]).flatten = intsC (List.replicate n 0):=by
 induction n with
 | zero => rfl
 | succ n ih => rw[List.replicate_succ,List.flatten_cons,ih,List.replicate_succ];rfl
structure FnI (X:Gr) (B3 R C Eb:Nat) (i:Nat) (e:Env) (g0 g:G):Prop where
 hi:i≤2
 e0:e 0 = .mp Eb 0
 e3:e 3 = .mp B3 0
 e4:e 4 = .i .i64 ((i:Nat):Int)
 h3:g.hp B3 = some (.cells (gfC X R C) false)
 hr:g.hp R = some (.cells (intsC (List.replicate X.evs.length 0)) false)
 hc:g.hp C = some (.cells (coFn i) false)
 ol:∀ i,i < g0.nx→g.hp i = g0.hp i
 lt:g0.nx≤B3∧g0.nx≤R∧g0.nx≤C∧B3 < g.nx∧R < g.nx∧C < g.nx∧B3≠C∧R≠C
 fresh:∀ i,g.nx≤i→g.hp i = none
 nx:g0.nx≤g.nx
theorem rp_finish (h91:F 91 = some A_xref13_E_Finish) (h106:F 106 = some A_xref13_E_rf) (h122:F 122 = some A_xref13_E_co) (h131:F 131 = some A_xref13_copied) {P:Gr→Prop} {X:Gr} {Eb:Nat} {L:List Gr} {t:Tok} {g:G}
  (hlocs:X.locs = 2) (hrf:X.rf = []) (hco:X.co = []) (hn:X.evs.length≤100) (hn2:2≤X.evs.length) (hfst:∀ w:Nat,w < 2→X.evs.getD w ev0 = wE w) (hP:∀ Y,GrP X Y→P Y) (en:EnS P Eb L t g):
  ∃ v g',callS F 91 [.mp Eb 0,.agg (grC X)] g = some (v,g')∧CoP P Eb g g':=by
 refine raw_of (P:=fun v g' => CoP P Eb g g') h91 ?_
 have hEl:=en.lt
 have hgr:grC X = [.i .i64 2,.sl (evsC X.evs) X.evs.length .non,.sl [] 0 .non,.sl [] 0 .non,.sl (pairsC X.rmw) X.rmw.length .non,.sl (pairsC X.data) X.data.length .non,.sl (pairsC X.ctrl) X.ctrl.length .non,.sl (pairsC X.ctrli) X.ctrli.length .non]:=by rw[grC,hlocs,hrf,hco];rfl
 have hgf:∀ R C,gfC X R C = [.i .i64 2,.sl (evsC X.evs) X.evs.length .non,.ms R 0 X.evs.length,.ms C 0 2,.sl (pairsC X.rmw) X.rmw.length .non,.sl (pairsC X.data) X.data.length .non,.sl (pairsC X.ctrl) X.ctrl.length .non,.sl (pairsC X.ctrli) X.ctrli.length .non]:=fun R C => by rw[gfC,hlocs]
 have p8:∀ c1 c2 c3 c4 c5 c6 c7 c8:AV,part [c1,c2,c3,c4,c5,c6,c7,c8] 0 (some 8) = some (.agg [c1,c2,c3,c4,c5,c6,c7,c8]):=fun _ _ _ _ _ _ _ _ => rfl
 have mk2:∀ (id:Nat) (g:G),vMksl id [.sl [] 0 .rig] 1 24 (.i .i64 2) (.i .i64 2) g = some (.ms id 0 2,⟨upd g.hp id (some (.cells [.sl [] 0 .rig,.sl [] 0 .rig] false)),g.nx⟩):=fun id g => by
  have:=vMksl_ms (id:=id) (z:=[.sl [] 0 .rig]) (b:=24) (n:=2) (g:=g) (by omega) (by omega) (by omega) rfl
  exact this
 have mk1:∀ (id:Nat) (g:G),vMksl id [.i .i64 0] 1 8 (.i .i64 ((X.evs.length:Nat):Int)) (.i .i64 ((X.evs.length:Nat):Int)) g = some (.ms id 0 X.evs.length,⟨upd g.hp id (some (.cells (intsC (List.replicate X.evs.length 0)) false)),g.nx⟩):=fun id g => by
  have:=vMksl_ms (id:=id) (z:=[.i .i64 0]) (b:=8) (n:=X.evs.length) (g:=g) (by omega) (by omega) (by omega) rfl
  rw[flat_rep] at this
  exact this
 rw[hgr]
 simp (disch:=omega) only[A_xref13_E_Finish,wp,qa,qb,qc,gl,o_mksl,mk1,mk2]
 refine blk_cut (fun e g' => FnI X g.nx (g.nx + 1 + 3) (g.nx + 1 + 6 + 2) Eb 2 e g g') ?_ ?_
 ·refine W_loop (fun q e g' => ∃ i:Nat,q = 2 - i∧FnI X g.nx (g.nx + 1 + 3) (g.nx + 1 + 6 + 2) Eb i e g g') 2 ?_ ?_
  ·refine ⟨0,rfl,by omega,rfl,rfl,rfl,?_,?_,?_,fun i hi => ?_,⟨by omega,by omega,by omega,by first | omega | (dsimp only;omega),by first | omega | (dsimp only;omega),by first | omega | (dsimp only;omega),by omega,by omega⟩,fun i hi => ?_,by first | omega | (dsimp only;omega)⟩
   ·simp (disch:=omega) only[upd_ne,upd_same];rw[hgf]
   ·simp (disch:=omega) only[upd_ne,upd_same]
   ·simp (disch:=omega) only[upd_ne,upd_same];rfl
   ·simp (disch:=omega) only[upd_ne]
   ·try dsimp only at hi
    simp (disch:=omega) only[upd_ne]
    exact en.fresh i (by omega)
  ·rintro q e g1 ⟨i,rfl,hi,e0,e3,e4,h3,hr,hc,ol,⟨l1,l2,l3,l4,l5,l6,l7,l8⟩,fresh,hx⟩
   rw[hgf] at h3
   have hwi:=succ_wrap (k:=i) (by omega)
   by_cases d1:i < 2
   ·have d1':((i:Nat):Int) < 2:=by omega
    have hset:(coFn i).length = 2∧(coFn i).set (i * 1) (.sl [.i .i64 ((i:Nat):Int)] 1 .rig) = coFn (i + 1):=by
     have:i = 0∨i = 1:=by omega
     rcases this with rfl | rfl<;>exact ⟨rfl,rfl⟩
    obtain ⟨hcl,hset⟩:=hset
    simp (disch:=omega) only[wp,qa,qb,qc,gl,e0,e3,e4,h3,hc,d1',hcl,hset,hwi]
    refine ⟨2 - (i + 1),by omega,i + 1,rfl,by omega,e0,e3,rfl,?_,?_,upd_same _ _ _,fun j hj => ?_,⟨l1,l2,l3,by first | omega | (dsimp only;omega),by first | omega | (dsimp only;omega),by first | omega | (dsimp only;omega),l7,l8⟩,fun j hj => ?_,by first | omega | (dsimp only;omega)⟩
    ·rw[hgf];exact (upd_ne _ _ l7).trans h3
    ·exact (upd_ne _ _ l8).trans hr
    ·exact (upd_ne _ _ (by omega)).trans (ol j hj)
    ·try dsimp only at hj
     exact (upd_ne _ _ (by omega)).trans (fresh j (by omega))
   ·have d1':¬ ((i:Nat):Int) < 2:=by omega
    obtain rfl:i = 2:=by omega
    simp (disch:=omega) only[wp,qa,qb,qc,gl,e0,e3,e4,h3,d1']
    exact ⟨Nat.le_refl _,e0,e3,e4,by rw[hgf];exact h3,hr,hc,ol,⟨l1,l2,l3,by first | omega | (dsimp only;omega),by first | omega | (dsimp only;omega),by first | omega | (dsimp only;omega),l7,l8⟩,fun j hj => fresh j (by first | omega | (dsimp only at hj;omega)),by first | omega | (dsimp only;omega)⟩
 ·rintro e g1 ⟨_,e0,e3,e4,h3,hr,hc,ol,⟨l1,l2,l3,l4,l5,l6,l7,l8⟩,fresh,hx⟩
  have hrun:=fun g2 a1 a2 a3 a4 a5 => rp_rf h106 h122 h131 (P:=P) (X:=X) (Eb:=Eb) (R:=g.nx + 1 + 3) (C:=g.nx + 1 + 6 + 2) (ts:=fun _ => .rig) hlocs hn hn2 hfst (fun rf cs h1 h2 h3 => hP _ ⟨rf,cs,rfl,h1,h2,h3⟩) ⟨by omega,by omega,by omega⟩ X.evs.length 0 (List.replicate X.evs.length 0) L t g2 (by omega) (by omega) a1 a2 (by simp) a3 a4 a5 (fun j hj => absurd hj (Nat.not_lt_zero j))
  rw[hgf] at h3 hrun
  simp (disch:=omega) only[wp,qa,qb,qc,gl,e0,e3,h3,p8]
  refine bindO_call _ (hrun _ (en.mv ol ?_ (fun i hi => ?_)) hr hc ?_ ?_) ?_
  ·first | omega | (dsimp only;omega)
  ·exact fresh i (by first | omega | (dsimp only at hi;omega))
  ·first | omega | (dsimp only;omega)
  ·first | omega | (dsimp only;omega)
  ·rintro v g3 ⟨⟨L3,t3,en3⟩,_,fr3⟩
   have fx:=fr3.nx
   dsimp only at fx
   simp (disch:=omega) only[wp,qa,qb,qc,gl]
   exact ⟨_,rfl,L3,t3,en3,⟨by omega,fun i hi hb ht => by
    have h1:=ol i hi
    exact (fr3.keep i (by first | omega | (dsimp only;omega)) hb (by omega) (fun b hb' => ht b (h1 ▸ hb'))).trans h1⟩⟩
end Go.Ab
end
section
set_option linter.unusedVariables false
set_option linter.unusedSimpArgs false
namespace Go.Ab
variable {F:Funs}
structure EnF (F:Funs):Prop where
 ch:ChF F
 run:RunF F
 skel:F 90 = some A_xref07_Skeleton
 first:F 103 = some A_xref07_First
 lay:F 105 = some A_xref07_Lay
 moved:F 121 = some A_xref07_moved
 all:F 78 = some A_xref13_All
 vals:F 88 = some A_xref13_Values
 lots:F 89 = some A_xref13_Lots
 fin:F 91 = some A_xref13_E_Finish
 vrec:F 101 = some A_xref13_values
 dom:F 102 = some A_xref13_Domain
 rf:F 106 = some A_xref13_E_rf
 co:F 122 = some A_xref13_E_co
 cop:F 131 = some A_xref13_copied
def PgG (ths:List (List Ins)) (dom:List Int) (Y:Gr):Prop:=∃ lots,LotOk ths lots∧(∀ i,i < ths.length→∀ x∈lots.getD i [],x∈domF dom)∧GrP (skX ths lots ths.length) Y
structure AlI (ths:List (List Ins)) (dom:List Int) (k:Nat) (all:List (List (List Int))) (t:Tok) (e:Env) (g:G):Prop where
 hk:k≤ths.length
 e1:e 1 = .sl (intsC dom) dom.length .non
 e2:e 2 = .mp 0 0
 e6:e 6 = .sl (ccC all) k t
 e7:e 7 = .i .i64 ((k:Nat):Int)
 h0:g.hp 0 = some (.cells [.i .i64 2,.sl (thsC ths) ths.length .non] false)
 tk:TkOk 1 g t
 al:all.length = k
 ok:∀ j,j < k→(∀ h∈all.getD j [],VlOk (ths.getD j []) (domF dom) h)∧(all.getD j []).length≤20001
 nx:0 < g.nx
 fresh:∀ i,g.nx≤i→g.hp i = none
theorem skX_two {ths lots} (hk:∀ i,i < ths.length→ThK (ths.getD i [])) {i:Nat} (hi:i≤ths.length):2≤(skX ths lots i).evs.length∧∀ w:Nat,w < 2→(skX ths lots i).evs.getD w ev0 = wE w:=by
 obtain ⟨rest,h2,_⟩:=(skX_inv (lots:=lots) hk i hi).1.two
 rw[h2]
 refine ⟨by simp,fun w hw => ?_⟩
 have:w = 0∨w = 1:=by omega
 rcases this with rfl | rfl<;>rfl
structure AlJ (ths:List (List Ins)) (dom:List Int) (ls:List (List (List Int))) (Eb i:Nat) (L:List Gr) (t:Tok) (e:Env) (g:G):Prop where
 hi:i≤ls.length
 e2:e 2 = .mp 0 0
 e8:e 8 = .mp Eb 0
 e9:e 9 = .sl (ccC ls) ls.length .non
 e10:e 10 = .i .i64 ((i:Nat):Int)
 h0:g.hp 0 = some (.cells [.i .i64 2,.sl (thsC ths) ths.length .non] false)
 en:EnS (PgG ths dom) Eb L t g
 ne:0 < Eb
theorem sp13_all (A:EnF F) {ths:List (List Ins)} {K:Nat} (PK:PgK ths K) (dom:List Int) (hd:dom.length≤1000000):
  ∃ (L:List Gr) (c:Int),pureS F 78 [.agg [.i .i64 2,.sl (thsC ths) ths.length .non],.sl (intsC dom) dom.length .non] = some (.tup [.sl (gsC L) L.length .non,.i .i64 c])∧(∀ Y∈L,PgG ths dom Y)∧L.length≤20001:=by
 have key:∃ v,pureS F 78 [.agg [.i .i64 2,.sl (thsC ths) ths.length .non],.sl (intsC dom) dom.length .non] = some v∧∃ (L:List Gr) (c:Int),v = .tup [.sl (gsC L) L.length .non,.i .i64 c]∧(∀ Y∈L,PgG ths dom Y)∧L.length≤20001:=by
  refine pureV_of A.all ?_
  have hck:=sp4_check A.ch PK
  have h4:=PK.four
  have f2:∀ hp,frz hp depth (.agg [.i .i64 2,.sl (thsC ths) ths.length .non]) = some (.agg [.i .i64 2,.sl (thsC ths) ths.length .non]):=fun hp => by
   refine frz_d_agg ?_
   show frzL _ (7 + 1) _ = _
   simp only[frzL,frz]
  have v2:∀ hp,vis hp depth (.agg [.i .i64 2,.sl (thsC ths) ths.length .non]) = []:=fun hp => by
   show vis hp (8 + 1) _ = _
   simp only[vis,List.flatMap_cons,List.flatMap_nil]
   rfl
  have l7:∀ x:AV,List.replicate 7 x = [x,x,x,x,x,x,x]:=fun _ => rfl
  have s8:∀ b1 b2 b3 b4 b5 b6 b7 b8 c1 c2 c3 c4 c5 c6 c7 c8:AV,splice [b1,b2,b3,b4,b5,b6,b7,b8] 0 [c1,c2,c3,c4,c5,c6,c7,c8] = [c1,c2,c3,c4,c5,c6,c7,c8]:=fun _ _ _ _ _ _ _ _ _ _ _ _ _ _ _ _ => rfl
  have p8:∀ c1 c2 c3 c4 c5 c6 c7 c8:AV,part [c1,c2,c3,c4,c5,c6,c7,c8] 0 (some 8) = some (.agg [c1,c2,c3,c4,c5,c6,c7,c8]):=fun _ _ _ _ _ _ _ _ => rfl
  simp (disch:=omega) only[A_xref13_All,wp,qa,qb,qc,gl,l7,hck,f2,Int.reduceBNe]
  refine blk_cut (fun e g => ∃ all t,AlI ths dom ths.length all t e g) ?_ ?_
  ·refine W_loop (fun q e g => ∃ (k:Nat) (all:List (List (List Int))) (t:Tok),q = ths.length - k∧AlI ths dom k all t e g) ths.length ?_ ?_
   ·refine ⟨0,[],.rig,rfl,Nat.zero_le _,rfl,rfl,rfl,rfl,rfl,.inl rfl,rfl,fun j hj => absurd hj (Nat.not_lt_zero j),by first | omega | (dsimp only;omega),fun i hi => ?_⟩
    try dsimp only at hi
    simp (disch:=omega) only[upd_ne]
   ·rintro q e g ⟨k,all,t,rfl,hk,e1,e2,e6,e7,h0,tk,al,ok,hx,fresh⟩
    by_cases c1:k < ths.length
    ·have c1':((k:Nat):Int) < ((ths.length:Nat):Int):=by omega
     have hth:=th_at c1
     have hwk:=succ_wrap (k:=k) (by omega)
     obtain ⟨V,hv,hvo,hvl⟩:=sp13_values A.ch A.run A.vals A.vrec A.dom (PK.th k c1) dom hd
     have hcl:(ccC all).length = k * 1:=by rw[ccC_len,al,Nat.mul_one]
     simp (disch:=omega) only[wp,qa,qb,qc,gl,e1,e2,e6,e7,h0,c1',hth,hv]
     refine bindO_app (esz:=1) (tk.mono (fun i hi => rfl) (by first | omega | (dsimp only;omega))) (fun i hi => allow_no _ _ _) ⟨by omega,by omega,hcl,rfl⟩ ?_
     intro t2 hp2 ar2
     have h02:hp2 0 = some (.cells [.i .i64 2,.sl (thsC ths) ths.length .non] false):=by
      rw[ar2.keep 0 (by omega) (fun e h => by
       rcases tk with h4 | ⟨i',h4,h5,h6⟩
       ·rw[h4] at h;cases h
       ·rw[h4] at h;cases h;rw[h0] at h5;cases h5)]
      exact h0
     simp (disch:=omega) only[wp,qa,qb,qc,gl,e7,hwk]
     refine ⟨ths.length - (k + 1),by omega,k + 1,all ++ [V],t2,rfl,by omega,e1,e2,?_,rfl,h02,ar2.ok (by first | omega | (dsimp only;omega)),by simp[al],fun j hj => ?_,by first | omega | (dsimp only;omega),fun i hi => ?_⟩
     ·show AV.sl _ _ _ = _
      rw[ccC_app];rfl
     ·by_cases hjk:j = k
      ·subst hjk
       have:(all ++ [V]).getD j [] = V:=by rw[List.getD_eq_getElem?_getD,List.getElem?_append_right (by omega),al,Nat.sub_self];rfl
       rw[this]
       exact ⟨hvo,hvl⟩
      ·have:(all ++ [V]).getD j [] = all.getD j []:=by rw[List.getD_eq_getElem?_getD,List.getElem?_append_left (by omega),←List.getD_eq_getElem?_getD]
       rw[this]
       exact ok j (by omega)
     ·try dsimp only at hi
      show hp2 i = none
      rw[ar2.keep i (by omega) (fun e h => by
       rcases tk with h4 | ⟨i',h4,h5,h6⟩
       ·rw[h4] at h;cases h
       ·rw[h4] at h;cases h;omega)]
      exact fresh i (by omega)
    ·have c1':¬ ((k:Nat):Int) < ((ths.length:Nat):Int):=by omega
     obtain rfl:k = ths.length:=by omega
     simp (disch:=omega) only[wp,qa,qb,qc,gl,e1,e2,e6,e7,h0,c1']
     exact ⟨all,t,hk,e1,e2,e6,e7,h0,tk.mono (fun i hi => rfl) (by first | omega | (dsimp only;omega)),al,ok,by first | omega | (dsimp only;omega),fun i hi => fresh i (by first | omega | (dsimp only at hi;omega))⟩
  ·rintro e g ⟨all,t,_,e1,e2,e6,e7,h0,tk,al,ok,hx,fresh⟩
   obtain ⟨ls,hlots,hlo,hll⟩:=sp13_lots A.lots all (by omega) (fun L hL => by
    obtain ⟨j,hj,rfl⟩:=List.mem_iff_getElem.1 hL
    have:=(ok j (by omega)).2
    rw[List.getD_eq_getElem?_getD,List.getElem?_eq_getElem hj] at this
    simp only[Option.getD_some] at this
    omega)
   rw[al] at hlots hlo
   have hlt:∀ lot∈ls,LotOk ths lot∧(∀ i,i < ths.length→∀ x∈lot.getD i [],x∈domF dom):=fun lot hl => ⟨⟨(hlo lot hl).len,fun i hi => ((ok i hi).1 _ ((hlo lot hl).mem i hi)).ok⟩,fun i hi => ((ok i hi).1 _ ((hlo lot hl).mem i hi)).dom⟩
   simp (disch:=omega) only[wp,qa,qb,qc,gl,e6,hlots]
   refine blk_cut (fun e g' => ∃ L t,AlJ ths dom ls (g.nx + 1) ls.length L t e g') ?_ ?_
   ·refine W_loop (fun q e g' => ∃ (i:Nat) (L:List Gr) (t:Tok),q = ls.length - i∧AlJ ths dom ls (g.nx + 1) i L t e g') ls.length ?_ ?_
    ·refine ⟨0,[],.rig,rfl,Nat.zero_le _,e2,rfl,rfl,rfl,?_,⟨?_,.inl rfl,by simp,fun Y hY => absurd hY (List.not_mem_nil),by first | omega | (dsimp only;omega),fun i hi => ?_⟩,by omega⟩
     ·simp (disch:=omega) only[upd_ne];exact h0
     ·simp (disch:=omega) only[upd_same];rfl
     ·try dsimp only at hi
      simp (disch:=omega) only[upd_ne]
      exact fresh i (by omega)
    ·rintro q e g1 ⟨i,L,t1,rfl,hi,e2,e8,e9,e10,h0,en,ne⟩
     have hEl:=en.lt
     by_cases d1:i < ls.length
     ·have d1':((i:Nat):Int) < ((ls.length:Nat):Int):=by omega
      have hwi:=succ_wrap (k:=i) (by omega)
      have hlp:=cc_part d1
      obtain ⟨hlot,hdm⟩:=hlt _ (getD_mem (d:=[]) d1)
      generalize ls.getD i [] = lot at hlp hlot hdm
      have hsk:=sp7_skel A.ch A.run A.skel A.first A.lay A.moved PK hlot
      obtain ⟨inv,hil,hrf,hco⟩:=skX_inv (lots:=lot) PK.th ths.length (Nat.le_refl _)
      obtain ⟨hn2,hfst⟩:=skX_two (lots:=lot) PK.th (Nat.le_refl _)
      have hPg:∀ Y,GrP (skX ths lot ths.length) Y→PgG ths dom Y:=fun Y hY => ⟨lot,hlot,hdm,hY⟩
      have hfn:=fun g2 a => rp_finish A.fin A.rf A.co A.cop (P:=PgG ths dom) (X:=skX ths lot ths.length) (Eb:=g.nx + 1) (L:=L) (t:=t1) (g:=g2) inv.locs hrf hco (by omega) hn2 hfst hPg a
      generalize skX ths lot ths.length = X at hsk hfn
      rw[grC] at hsk hfn
      simp (disch:=omega) only[wp,qa,qb,qc,gl,e2,e8,e9,e10,h0,d1',hlp,f2,v2,hsk,l7,s8,p8,List.getElem?_cons_zero,List.getElem?_cons_succ]
      refine bindO_call _ (hfn _ (en.mv (fun i hi => ?_) ?_ (fun i hi => ?_))) ?_
      ·simp (disch:=omega) only[upd_ne]
      ·first | omega | (dsimp only;omega)
      ·try dsimp only at hi
       simp (disch:=omega) only[upd_ne]
       exact en.fresh i (by omega)
      ·rintro v g3 ⟨L3,t3,en3,fr3⟩
       have h03:=fr3.cells (i:=0) (by first | omega | (dsimp only;omega)) (by omega) (by simp (disch:=omega) only[upd_ne];exact h0)
       simp (disch:=omega) only[wp,qa,qb,qc,gl,e10,hwi]
       exact ⟨ls.length - (i + 1),by omega,i + 1,L3,t3,rfl,by omega,e2,e8,e9,rfl,h03,en3.mv (fun i hi => rfl) (by first | omega | (dsimp only;omega)) (fun i hi => en3.fresh i (by first | omega | (dsimp only at hi;omega))),ne⟩
     ·have d1':¬ ((i:Nat):Int) < ((ls.length:Nat):Int):=by omega
      obtain rfl:i = ls.length:=by omega
      simp (disch:=omega) only[wp,qa,qb,qc,gl,e9,e10,d1']
      exact ⟨L,t1,hi,e2,e8,e9,e10,h0,en.mv (fun i hi => rfl) (by first | omega | (dsimp only;omega)) (fun i hi => en.fresh i (by first | omega | (dsimp only at hi;omega))),ne⟩
   ·rintro e g1 ⟨L,t1,_,e2,e8,e9,e10,h0,en,ne⟩
    have he:=en.he
    by_cases cb:20000 < L.length
    ·rw[decide_eq_true cb] at he
     simp (disch:=omega) only[wp,qa,qb,qc,gl,e8,he]
     refine ⟨.tup [.sl [] 0 .non,.i .i64 4],?_,[],4,rfl,fun Y hY => absurd hY (List.not_mem_nil),by simp⟩
     rw[retQ_ret,res_2]
     show frz _ (8 + 1) (.tup [.sl [] 0 .rig,.i .i64 4]) = _
     simp only[frz,frzL]
     rfl
    ·rw[decide_eq_false cb] at he
     simp (disch:=omega) only[wp,qa,qb,qc,gl,e8,he]
     refine ⟨.tup [.sl (gsC L) L.length .non,.i .i64 0],?_,L,0,rfl,en.ok,en.ll⟩
     rw[retQ_ret,res_2]
     show frz _ (8 + 1) (.tup [.sl (gsC L) L.length t1,.i .i64 0]) = _
     simp only[frz,frzL]
     rfl
 obtain ⟨v,h1,L,c,rfl,h2,h3⟩:=key
 exact ⟨L,c,h1,h2,h3⟩
end Go.Ab
end
section
set_option linter.unusedVariables false
set_option linter.unusedSimpArgs false
namespace Go.Ab
variable {F:Funs}
structure LdI (ths:List (List Ins)) (i n:Nat) (e:Env) (g:G):Prop where
 hi:i≤ths.length
 hn:n≤12 * i
 e1:e 1 = .mp 0 0
 e3:e 3 = .i .i64 ((n:Nat):Int)
 e4:e 4 = .i .i64 ((i:Nat):Int)
 h0:g.hp 0 = some (.cells [.i .i64 2,.sl (thsC ths) ths.length .non] false)
 nx:0 < g.nx
structure LdJ (ths:List (List Ins)) (i k n:Nat) (e:Env) (g:G):Prop where
 hk:k≤(ths.getD i []).length
 hn:n≤12 * i + k
 e1:e 1 = .mp 0 0
 e3:e 3 = .i .i64 ((n:Nat):Int)
 e4:e 4 = .i .i64 ((i:Nat):Int)
 e5:e 5 = .i .i64 ((k:Nat):Int)
 h0:g.hp 0 = some (.cells [.i .i64 2,.sl (thsC ths) ths.length .non] false)
 nx:0 < g.nx
theorem sp_loads (h77:F 77 = some A_xlaw00_Loads) {ths:List (List Ins)} {K:Nat} (PK:PgK ths K):∃ n:Nat,pureS F 77 [.agg [.i .i64 2,.sl (thsC ths) ths.length .non]] = some (.i .i64 ((n:Nat):Int)):=by
 have key:∃ v,pureS F 77 [.agg [.i .i64 2,.sl (thsC ths) ths.length .non]] = some v∧∃ n:Nat,v = .i .i64 ((n:Nat):Int):=by
  refine pureV_of h77 ?_
  have h4:=PK.four
  have l5:∀ x:AV,List.replicate 5 x = [x,x,x,x,x]:=fun _ => rfl
  have s7:∀ b1 b2 b3 b4 b5 b6 b7 c1 c2 c3 c4 c5 c6 c7:AV,splice [b1,b2,b3,b4,b5,b6,b7] 0 [c1,c2,c3,c4,c5,c6,c7] = [c1,c2,c3,c4,c5,c6,c7]:=fun _ _ _ _ _ _ _ _ _ _ _ _ _ _ => rfl
  simp (disch:=omega) only[A_xlaw00_Loads,wp,qa,qb,qc,gl]
  refine blk_cut (fun e g => ∃ n,LdI ths ths.length n e g) ?_ ?_
  ·refine W_loop (fun q e g => ∃ i n:Nat,q = ths.length - i∧LdI ths i n e g) ths.length ?_ ?_
   ·exact ⟨0,0,rfl,Nat.zero_le _,Nat.le_refl _,rfl,rfl,rfl,rfl,by first | omega | (dsimp only;omega)⟩
   ·rintro q e g ⟨i,n,rfl,hi,hn,e1,e3,e4,h0,hx⟩
    by_cases c1:i < ths.length
    ·have c1':((i:Nat):Int) < ((ths.length:Nat):Int):=by omega
     have hth:=th_at c1
     have hwi:=succ_wrap (k:=i) (by omega)
     have hlen:=(PK.th i c1).len
     simp (disch:=omega) only[wp,qa,qb,qc,gl,e1,e3,e4,h0,c1']
     refine blk_end (fun e g => ∃ n,LdJ ths i (ths.getD i []).length n e g) ?_ ?_
     ·refine W_loop (fun q e g => ∃ k n:Nat,q = (ths.getD i []).length - k∧LdJ ths i k n e g) (ths.getD i []).length ?_ ?_
      ·exact ⟨0,n,rfl,Nat.zero_le _,by omega,e1,e3,e4,rfl,h0,by first | omega | (dsimp only;omega)⟩
      ·rintro q e g ⟨k,n,rfl,hk,hn,e1,e3,e4,e5,h0,hx⟩
       by_cases c2:k < (ths.getD i []).length
       ·have c2':((k:Nat):Int) < (((ths.getD i []).length:Nat):Int):=by omega
        have hins:=ins_at c2
        have hln:=ins_ln c2
        have hwk:=succ_wrap (k:=k) (by omega)
        have hwn:=succ_wrap (k:=n) (by omega)
        generalize (ths.getD i []).getD k fence0 = x at hins
        have next:∀ (m:Nat) (e':Env) (hp':Nat→Option Blk) (nx':Nat),m≤n + 1→e' 1 = .mp 0 0→e' 3 = .i .i64 ((m:Nat):Int)→e' 4 = .i .i64 ((i:Nat):Int)→e' 5 = .i .i64 ((k + 1:Nat):Int)→hp' 0 = some (.cells [.i .i64 2,.sl (thsC ths) ths.length .non] false)→0 < nx' →
          ∃ m',m' < (ths.getD i []).length - k∧∃ k n:Nat,m' = (ths.getD i []).length - k∧LdJ ths i k n e' ⟨hp',nx'⟩:=fun m e' hp' nx' a0 a1 a3 a4 a5 ah an =>
         ⟨(ths.getD i []).length - (k + 1),by omega,k + 1,m,rfl,by omega,by omega,a1,a3,a4,a5,ah,an⟩
        unfold insC exV at hins
        cases k1:(x.kd == 1) with
        | true =>
          simp (disch:=omega) only[wp,qa,qb,qc,gl,e1,e3,e4,e5,h0,hth,c2',hins,l5,s7,k1,hwk,hwn]
          exact next (n + 1) _ _ _ (by omega) e1 rfl e4 rfl (by simp (disch:=omega) only[upd_ne];exact h0) (by omega)
        | false =>
          cases k4:(x.kd == 4) with
          | true =>
            simp (disch:=omega) only[wp,qa,qb,qc,gl,e1,e3,e4,e5,h0,hth,c2',hins,l5,s7,k1,k4,hwk,hwn]
            exact next (n + 1) _ _ _ (by omega) e1 rfl e4 rfl (by simp (disch:=omega) only[upd_ne];exact h0) (by omega)
          | false =>
            simp (disch:=omega) only[wp,qa,qb,qc,gl,e1,e3,e4,e5,h0,hth,c2',hins,l5,s7,k1,k4,hwk,hwn]
            exact next n _ _ _ (by omega) e1 e3 e4 rfl (by simp (disch:=omega) only[upd_ne];exact h0) (by omega)
       ·have c2':¬ ((k:Nat):Int) < (((ths.getD i []).length:Nat):Int):=by omega
        obtain rfl:k = (ths.getD i []).length:=by omega
        simp (disch:=omega) only[wp,qa,qb,qc,gl,e1,e3,e4,e5,h0,hth,c2']
        exact ⟨n,hk,hn,e1,e3,e4,e5,h0,by first | omega | (dsimp only;omega)⟩
     ·rintro e g ⟨n,hk,hn,e1,e3,e4,e5,h0,hx⟩
      simp (disch:=omega) only[wp,qa,qb,qc,gl,e4,hwi]
      exact ⟨ths.length - (i + 1),by omega,i + 1,n,rfl,by omega,by omega,e1,e3,rfl,h0,by first | omega | (dsimp only;omega)⟩
    ·have c1':¬ ((i:Nat):Int) < ((ths.length:Nat):Int):=by omega
     obtain rfl:i = ths.length:=by omega
     simp (disch:=omega) only[wp,qa,qb,qc,gl,e1,e3,e4,h0,c1']
     exact ⟨n,hi,hn,e1,e3,e4,h0,by first | omega | (dsimp only;omega)⟩
  ·rintro e g ⟨n,hi,hn,e1,e3,e4,h0,hx⟩
   simp (disch:=omega) only[wp,qa,qb,qc,gl,e3]
   refine ⟨_,?_,n,rfl⟩
   simp (disch:=omega) only[wp,qa,qb,qc]
 obtain ⟨v,h1,n,rfl⟩:=key
 exact ⟨n,h1⟩
end Go.Ab
end
section
set_option linter.unusedVariables false
set_option linter.unusedSimpArgs false
namespace Go.Ab
variable {F:Funs}
structure NumF (F:Funs):Prop where
 en:EnF F
 pg:ProgF F
 prog:F 86 = some A_xlaw00_Prog
 small:F 76 = some A_xlaw00_Small
 loads:F 77 = some A_xlaw00_Loads
 dom:F 79 = some A_xlaw00_Domain
theorem skX_len {ths lots} {K:Nat} (PK:PgK ths K):∀ i,i≤ths.length→(skX ths lots i).evs.length≤2 + 2 * K * i
 | 0,_ => by simp[skX,sk0]
 | i + 1,h => by
   have h1:=skX_len PK i (by omega) (lots:=lots)
   have hth:=PK.th i (by omega)
   have hl:=PK.len i (by omega)
   obtain ⟨r1,r2⟩:=doR_inv (V:=evX) (th:=ths.getD i []) (reads:=lots.getD i []) (fun k hkk => ⟨_,hth.ins k hkk⟩)
   show ((skX ths lots i).evs ++ (doR evX (ths.getD i []) (lots.getD i [])).evs.map (thE ((i:Int) + 1))).length≤_
   rw[List.length_append,List.length_map,Nat.mul_add,Nat.mul_one]
   omega
theorem PgG.evs {ths dom Y} (h:PgG ths dom Y):∃ lots,LotOk ths lots∧GrP (skX ths lots ths.length) Y:=by
 obtain ⟨lots,h1,_,h3⟩:=h
 exact ⟨lots,h1,h3⟩
theorem PgG.ok {ths:List (List Ins)} {dom:List Int} {Y:Gr} {K:Nat} (PK:PgK ths K) (hb:2 + 2 * K * ths.length≤14) (h:PgG ths dom Y):FewG Y∧GraphOk Y∧∃ t:Int,t≤4∧SkInv Y t:=by
 obtain ⟨lots,hlot,rf,cs,rfl,hrl,hok,hcs⟩:=h.evs
 obtain ⟨inv,_,_,_⟩:=skX_inv (lots:=lots) PK.th ths.length (Nat.le_refl _)
 have hlen:=skX_len PK ths.length (Nat.le_refl _) (lots:=lots)
 have h4:=PK.four
 generalize skX ths lots ths.length = X at inv hlen hrl hok hcs
 have inv2:SkInv (putX X rf [cs 0,cs 1]) (ths.length:Int):=⟨inv.locs,inv.two,inv.th,inv.rmw,inv.data,inv.ctrl,inv.ctrli,inv.dl,inv.cl⟩
 have hc:∀ i,i < 2→CoOk (putX X rf [cs 0,cs 1]) i:=fun i hi => by
  refine CoPre.ok (X:=X) (Y:=putX X rf [cs 0,cs 1]) rfl (hcs i hi).1 (hcs i hi).2 ?_
  have:i = 0∨i = 1:=by omega
  rcases this with rfl | rfl<;>rfl
 obtain ⟨a,b⟩:=inv2.ok (by omega) (by show X.evs.length≤14;omega) hrl (fun i hi => hok i hi) rfl hc
 exact ⟨a,b,_,by omega,inv2⟩
theorem sp_dom (h79:F 79 = some A_xlaw00_Domain):pureS F 79 [] = some (.sl (intsC [0,1,2]) 3 .non):=by
 refine pure_of h79 ?_
 simp (disch:=omega) only[A_xlaw00_Domain,wp,qa,qb,qc,intsC]
structure SmK (l:List Int) (ths:List (List Ins)) (K:Nat):Prop where
 pk:PgK ths K
 b:2 + 2 * K * ths.length≤14
 th:∀ t,t < ths.length→ThrOk l ths.length t K (ths.getD t [])
theorem smK_of {l:List Int} {T K:Nat} {ths:List (List Ins)} (h:ths.length = T) (hT:1≤T) (hT4:T≤4) (hb:2 + 2 * K * T≤14) (hK:K≤12) (hth:∀ t,t < T→ThrOk l T t K (ths.getD t [])):SmK l ths K:=by
 subst h
 exact ⟨⟨hT,hT4,fun i hi => (hth i hi).most,fun i hi => (hth i hi).k hK,by omega⟩,hb,hth⟩
theorem sp_small (A:NumF F) (l:List Int) (hl:(l.length:Int)≤9223372036854775807):∃ ths K,pureS F 76 [.sl (intsC l) l.length .non] = some (.agg [.i .i64 2,.sl (thsC ths) ths.length .non])∧SmK l ths K:=by
 have s2:∀ b1 b2 c1 c2:AV,splice [b1,b2] 0 [c1,c2] = [c1,c2]:=fun _ _ _ _ => rfl
 obtain ⟨t3,hp3,hl3,ho3⟩:=sp_prog A.pg A.prog (l:=l) (T:=3) (most:=2) (by omega) (by omega) (by omega) hl
 obtain ⟨t2,hp2,hl2,ho2⟩:=sp_prog A.pg A.prog (l:=l) (T:=2) (most:=3) (by omega) (by omega) (by omega) hl
 have f2:∀ hp (ths:List (List Ins)) (n:Nat) (t:Tok),frz hp depth (.agg [.i .i64 2,.sl (thsC ths) n t]) = some (.agg [.i .i64 2,.sl (thsC ths) n .non]):=fun hp ths n t => by
  refine frz_d_agg ?_
  show frzL _ (7 + 1) _ = _
  simp only[frzL,frz]
 have r3:(pureS F 76 [.sl (intsC l) l.length .non] = some (.agg [.i .i64 2,.sl (thsC t3) 3 .non]))∨(pureS F 76 [.sl (intsC l) l.length .non] = some (.agg [.i .i64 2,.sl (thsC t2) 2 .non])):=by
  by_cases c0:0 < l.length
  ·have c0':(0:Int) < ((l.length:Nat):Int):=by omega
   have hip:part (intsC l) 0 none = some (.i .i64 (l.getD 0 0)):=by have:=ints_part c0;simpa using this
   have hpl:=sp_place A.pg.place (v:=l.getD 0 0) (n:=4) (by omega) (by omega)
   generalize place (l.getD 0 0) 4 = p at hpl
   cases c1:(p == 0) with
   | true =>
     refine .inl (pure_of A.small ?_)
     have hp3':pureS F 86 [.sl (intsC l) l.length .non,.i .i64 3,.i .i64 2] = some (.agg [.i .i64 2,.sl (thsC t3) 3 .non]):=hp3
     simp (disch:=omega) only[A_xlaw00_Small,wp,qa,qb,qc,gl,c0',hip,hpl,c1,hp3',s2,f2,res_cell,resC]
   | false =>
     refine .inr (pure_of A.small ?_)
     have hp2':pureS F 86 [.sl (intsC l) l.length .non,.i .i64 2,.i .i64 3] = some (.agg [.i .i64 2,.sl (thsC t2) 2 .non]):=hp2
     simp (disch:=omega) only[A_xlaw00_Small,wp,qa,qb,qc,gl,c0',hip,hpl,c1,hp2',s2,f2,res_cell,resC]
  ·have c0':¬ (0:Int) < ((l.length:Nat):Int):=by omega
   refine .inr (pure_of A.small ?_)
   have hp2':pureS F 86 [.sl (intsC l) l.length .non,.i .i64 2,.i .i64 3] = some (.agg [.i .i64 2,.sl (thsC t2) 2 .non]):=hp2
   simp (disch:=omega) only[A_xlaw00_Small,wp,qa,qb,qc,gl,c0',hp2',s2,f2,res_cell,resC]
 rcases r3 with h | h
 ·exact ⟨t3,2,by rw[hl3];exact h,smK_of hl3 (by omega) (by omega) (by omega) (by omega) ho3⟩
 ·exact ⟨t2,3,by rw[hl2];exact h,smK_of hl2 (by omega) (by omega) (by omega) (by omega) ho2⟩
theorem gs_part:∀ {L:List Gr} {k:Nat} {d:Gr} (h:k < L.length),part ((gsC L).drop (k * 8)) 0 (some 8) = some (.agg (grC (L.getD k d)))
 | X :: L,0,d,_ => by
   simp only[gsC,List.flatMap_cons,Nat.zero_mul,List.drop_zero,part,Nat.zero_add,List.length_append,grC_len]
   rw[if_pos (by omega),List.take_left' (grC_len X)]
   simp
 | X :: L,k + 1,d,h => by
   have:=gs_part (L:=L) (k:=k) (d:=d) (by simpa using h)
   simp only[gsC,List.flatMap_cons] at this ⊢
   rw[Nat.add_mul,Nat.one_mul,Nat.add_comm,←List.drop_drop,List.drop_left' (by rw[grC_len])]
   simpa using this
def resB2 (a:Option Nat) (off:Nat) (w:AV):Option Blk→Option AV
 | some (.cells cs _) => (part cs off a).map fun v => .tup [v,w]
 | _ => none
def resC2 (a:Option Nat) (w:AV) (g:G):AV→Option AV
 | .mp b off => resB2 a off w (g.hp b)
 | _ => none
theorem res_cell2 (n:Nat) (a:Option Nat) (m:Nat) (e:Env) (g:G):resE [.cell n a,.t m] e g = resC2 a (e m) g (e n):=by
 simp only[resE,resAll,resOne]
 cases e n<;>try rfl
 rename_i b off
 simp only[resC2]
 cases g.hp b with
 | none => rfl
 | some bl =>
   cases bl with
   | cells cs ro => simp only[resB2];cases part cs off a<;>rfl
   | map es => rfl
   | tok l => rfl
theorem resC2_mp (a w g b off):resC2 a w g (.mp b off) = resB2 a off w (g.hp b):=rfl
theorem resB2_cells (a off w cs ro):resB2 a off w (some (.cells cs ro)) = (part cs off a).map fun v => .tup [v,w]:=rfl
def gr0:Gr:=⟨0,[],[],[],[],[],[],[]⟩
def SmG (l:List Int) (Y:Gr):Prop:=∃ ths K,SmK l ths K∧PgG ths [0,1,2] Y
theorem sp_oneW (A:NumF F) {f:Nat} (hf:F f = some A_xlaw09_one) (l:List Int) (hl:(l.length:Int)≤9223372036854775807) (pick:Int):∃ (Y:Gr) (b:Bool),pureS F f [.sl (intsC l) l.length .non,.i .i64 pick] = some (.tup [.agg (grC Y),.b b])∧(b = true→SmG l Y):=by
 have s2:∀ b1 b2 c1 c2:AV,splice [b1,b2] 0 [c1,c2] = [c1,c2]:=fun _ _ _ _ => rfl
 have l7:∀ x:AV,List.replicate 7 x = [x,x,x,x,x,x,x]:=fun _ => rfl
 have s8:∀ b1 b2 b3 b4 b5 b6 b7 b8 c1 c2 c3 c4 c5 c6 c7 c8:AV,splice [b1,b2,b3,b4,b5,b6,b7,b8] 0 [c1,c2,c3,c4,c5,c6,c7,c8] = [c1,c2,c3,c4,c5,c6,c7,c8]:=fun _ _ _ _ _ _ _ _ _ _ _ _ _ _ _ _ => rfl
 obtain ⟨ths,K,hsm,SK⟩:=sp_small A l hl
 obtain ⟨n,hld⟩:=sp_loads A.loads SK.pk
 have hdm:=sp_dom A.dom
 obtain ⟨L,c,hall,hPg,hLl⟩:=sp13_all A.en SK.pk [0,1,2] (by simp)
 have hall':pureS F 78 [.agg [.i .i64 2,.sl (thsC ths) ths.length .non],.sl (intsC [0,1,2]) 3 .non] = some (.tup [.sl (gsC L) L.length .non,.i .i64 c]):=hall
 have f2:∀ hp (n:Nat) (t:Tok),frz hp depth (.agg [.i .i64 2,.sl (thsC ths) n t]) = some (.agg [.i .i64 2,.sl (thsC ths) n .non]):=fun hp n t => by
  refine frz_d_agg ?_
  show frzL _ (7 + 1) _ = _
  simp only[frzL,frz]
 have v2:∀ hp (n:Nat) (t:Tok),vis hp depth (.agg [.i .i64 2,.sl (thsC ths) n t]) = []:=fun hp n t => by
  show vis hp (8 + 1) _ = _
  simp only[vis,List.flatMap_cons,List.flatMap_nil]
  rfl
 have hz:∀ hp,frz hp depth (.tup [.agg [.i .i64 0,.sl [] 0 .rig,.sl [] 0 .rig,.sl [] 0 .rig,.sl [] 0 .rig,.sl [] 0 .rig,.sl [] 0 .rig,.sl [] 0 .rig],.b false]) = some (.tup [.agg (grC gr0),.b false]):=fun hp => by
  show frz _ (8 + 1) _ = _
  simp only[frz,frzL,grC,gr0]
  rfl
 have p8:∀ c1 c2 c3 c4 c5 c6 c7 c8:AV,part [c1,c2,c3,c4,c5,c6,c7,c8] 0 (some 8) = some (.agg [c1,c2,c3,c4,c5,c6,c7,c8]):=fun _ _ _ _ _ _ _ _ => rfl
 by_cases c4:n≤4
 ·have c4':¬ (4:Int) < ((n:Nat):Int):=by omega
  cases hL:L with
  | nil =>
    subst hL
    have c5:(((0:Nat):Int) == 0) = true:=rfl
    refine ⟨gr0,false,pure_of hf ?_,fun h => by cases h⟩
    simp (disch:=omega) only[A_xlaw09_one,wp,qa,qb,qc,gl,hsm,l7,s2,s8,f2,v2,hld,c4',hdm,hall',c5,List.getElem?_cons_zero,List.getElem?_cons_succ,gsC,res_cell2,resC2_mp,resB2_cells,p8,Option.map_some,hz]
  | cons Y0 L0 =>
    have hLp:0 < L.length:=by rw[hL];simp
    have c5:(((L.length:Nat):Int) == 0) = false:=by rw[beq_eq_false_iff_ne];omega
    have hpl:=sp_place A.pg.place (v:=pick) (n:=(L.length:Int)) (by omega) (by omega)
    obtain ⟨p0,p1⟩:=place_lt (v:=pick) (n:=(L.length:Int)) (by omega)
    obtain ⟨p,hp⟩:∃ p:Nat,place pick (L.length:Int) = (p:Int):=⟨(place pick (L.length:Int)).toNat,by omega⟩
    rw[hp] at hpl p1
    have hgp:=gs_part (L:=L) (k:=p) (d:=gr0) (by omega)
    have hY:=hPg _ (getD_mem (d:=gr0) (show p < L.length by omega))
    have hgl:=gsC_len L
    generalize L.getD p gr0 = Y at hgp hY
    refine ⟨Y,true,pure_of hf ?_,fun _ => ⟨ths,K,SK,hY⟩⟩
    have hzY:∀ hp,frz hp depth (.tup [.agg (grC Y),.b true]) = some (.tup [.agg (grC Y),.b true]):=fun hp => by
     show frz _ (8 + 1) _ = _
     simp only[frz,frzL,grC]
     rfl
    rw[grC] at hgp hzY ⊢
    simp (disch:=omega) only[A_xlaw09_one,wp,qa,qb,qc,gl,hsm,l7,s2,s8,f2,v2,hld,c4',hdm,hall',c5,List.getElem?_cons_zero,List.getElem?_cons_succ,hpl,hgp,res_cell2,resC2_mp,resB2_cells,p8,Option.map_some,hzY]
 ·have c4':(4:Int) < ((n:Nat):Int):=by omega
  refine ⟨gr0,false,pure_of hf ?_,fun h => by cases h⟩
  simp (disch:=omega) only[A_xlaw09_one,wp,qa,qb,qc,gl,hsm,l7,s2,s8,f2,v2,hld,c4',res_cell2,resC2_mp,resB2_cells,p8,Option.map_some,hz]
end Go.Ab
end
section
set_option linter.unusedVariables false
set_option linter.unusedSimpArgs false
namespace Go.Ab
variable {F:Funs}
theorem nm_OrderNumbers {f:Nat} (hf:F f = some A_xlaw11_OrderNumbers) (aw:pureS F 157 [] = some (.b true)) (l:List Int) (pick:Int) {Y:Gr} {b:Bool} (ho:pureS F 477 [.sl (intsC l) l.length .non,.i .i64 pick] = some (.tup [.agg (grC Y),.b b])) (ha:b = true→pureS F 252 [.agg (grC Y)] = some (.b true)) (tl:Tok):pureS F f [.sl (intsC l) l.length tl,.i .i64 pick] = some (.b true):=by
 refine pure_of hf ?_
 have l7:∀ x:AV,List.replicate 7 x = [x,x,x,x,x,x,x]:=fun _ => rfl
 have s8:∀ b1 b2 b3 b4 b5 b6 b7 b8 c1 c2 c3 c4 c5 c6 c7 c8:AV,splice [b1,b2,b3,b4,b5,b6,b7,b8] 0 [c1,c2,c3,c4,c5,c6,c7,c8] = [c1,c2,c3,c4,c5,c6,c7,c8]:=fun _ _ _ _ _ _ _ _ _ _ _ _ _ _ _ _ => rfl
 have p8:∀ c1 c2 c3 c4 c5 c6 c7 c8:AV,part [c1,c2,c3,c4,c5,c6,c7,c8] 0 (some 8) = some (.agg [c1,c2,c3,c4,c5,c6,c7,c8]):=fun _ _ _ _ _ _ _ _ => rfl
 have fg:∀ hp,frz hp depth (.agg (grC Y)) = some (.agg (grC Y)):=fun hp => frz_gr hp Y
 have vg:∀ hp,vis hp depth (.agg (grC Y)) = []:=fun hp => vis_gr hp Y
 cases b with
 | false =>
   rw[grC] at ho
   simp (disch:=omega) only[A_xlaw11_OrderNumbers,wp,qa,qb,qc,gl,ho,aw,l7,s8,List.getElem?_cons_zero,List.getElem?_cons_succ]
 | true =>
   have ha:=ha rfl
   rw[grC] at ho ha fg vg
   simp (disch:=omega) only[A_xlaw11_OrderNumbers,wp,qa,qb,qc,gl,ho,aw,l7,s8,p8,fg,vg,ha,List.getElem?_cons_zero,List.getElem?_cons_succ]
end Go.Ab
end
section
namespace Go.Ab
theorem SmG.ok {l:List Int} {Y:Gr} (h:SmG l Y):FewG Y∧GraphOk Y:=by
 obtain ⟨ths,K,SK,hY⟩:=h
 obtain ⟨a,b,_⟩:=hY.ok SK.pk SK.b
 exact ⟨a,b⟩
end Go.Ab
end
section
set_option linter.unusedVariables false
set_option linter.unusedSimpArgs false
namespace Go.Ab
variable {F:Funs}
theorem thaw27 (h27:F 27 = some A_xref01_New) {n:Nat} (hn:n≤40) (al:Nat→Bool) (id:Nat) (g:G):vThaw F al id (.fn 27 [] []) [.i .i64 n,.sl [] 0 .rig] g = some (.mp id 0,⟨upd g.hp id (some (.cells (matC n fun _ _ => false) false)),g.nx⟩):=
 vThaw_S (bs:=[.i .i64 n,.sl [] 0 .non]) (by rw[frzL_cons,frzL_cons,frzL_nil,frz_d_i,frz_d_sl];rfl) (sp_newT h27 hn .non) (by rw[List.flatMap_cons,List.flatMap_cons,vis_i,vis_sl];rfl)
def stM (φ:Bool→Bool→Bool) (A B:Mx) (N a b:Nat):Mx:=fun i j => if (i < a∧j < N)∨(i = a∧j < b) then φ (A i j) (B i j) else false
theorem stM_succ (φ A B N a b):upd2 (stM φ A B N a b) a b (φ (A a b) (B a b)) = stM φ A B N a (b + 1):=by
 funext i j
 unfold upd2 stM
 by_cases h:i = a∧j = b
 ·obtain ⟨rfl,rfl⟩:=h
  rw[if_pos ⟨rfl,rfl⟩,if_pos (.inr ⟨rfl,by omega⟩)]
 ·rw[if_neg h]
  by_cases h2:(i < a∧j < N)∨(i = a∧j < b)
  ·rw[if_pos h2,if_pos (by omega)]
  ·rw[if_neg h2,if_neg (by omega)]
theorem stM_row (φ A B N a):stM φ A B N a N = stM φ A B N (a + 1) 0:=by
 funext i j
 unfold stM
 by_cases h2:(i < a∧j < N)∨(i = a∧j < N)
 ·rw[if_pos h2,if_pos (by omega)]
 ·rw[if_neg h2,if_neg (by omega)]
theorem stM_0 (φ A B N):stM φ A B N 0 0 = fun _ _ => false:=by
 funext i j
 unfold stM
 rw[if_neg (by omega)]
def opM (φ:Bool→Bool→Bool) (A B:Mx) (N:Nat):Mx:=stM φ A B N N 0
theorem sp_mor (h:F 29 = some A_xref01_R_Or) (h27:F 27 = some A_xref01_New) {n m:Nat} (hn:n≤40) (hm:m≤40) (A B:Mx):pureS F 29 [.ptr (matC n A),.ptr (matC m B)] = some (.ptr (matC (max n m) (opM (fun x y => x || y) A B (max n m)))):=by
 refine pure_of_thaw h (matC_flat _ _) ?_
 have hN:max n m≤40:=by omega
 simp (disch:=omega) only[A_xref01_R_Or,wp,qa,qb,qc,ml,maxI,thaw27 h27]
 generalize max n m = N at hN
 refine W_loop (fun q e g => ∃ a,q = N - a∧a≤N∧e 0 = .ptr (matC n A)∧e 1 = .ptr (matC m B)∧e 5 = .mp 10 0∧e 6 = .i .i64 a∧g.hp 10 = some (.cells (matC N (stM (fun x y => x || y) A B N a 0)) false)∧10 < g.nx) N ?_ ?_
 ·refine ⟨0,rfl,Nat.zero_le _,?_⟩
  simp (disch:=omega) only[wp,qa,qb,qc,stM_0]
  exact ⟨rfl,by first | omega | (dsimp only;omega)⟩
 ·rintro q e g ⟨a,rfl,ha,h0,h1,h5,h6,hg,hnx⟩
  by_cases ha':a < N
  ·have ha1:(a:Int) < N:=by omega
   have hwa:=succ_wrap (k:=a) (by omega)
   simp (disch:=omega) only[wp,qa,qb,qc,ml,h0,h1,h5,h6,hg,ha1]
   refine W_loop (fun q e g => ∃ b,q = N - b∧b≤N∧e 0 = .ptr (matC n A)∧e 1 = .ptr (matC m B)∧e 5 = .mp 10 0∧e 6 = .i .i64 a∧e 7 = .i .i64 b∧g.hp 10 = some (.cells (matC N (stM (fun x y => x || y) A B N a b)) false)∧10 < g.nx) N ?_ ?_
   ·refine ⟨0,rfl,Nat.zero_le _,?_⟩
    simp (disch:=omega) only[wp,qa,qb,qc,h0,h1,h5,h6,hg]
    exact ⟨rfl,by first | omega | (dsimp only;omega)⟩
   ·rintro q e g ⟨b,rfl,hb,h0,h1,h5,h6,h7,hg,hnx⟩
    by_cases hb':b < N
    ·have hb1:(b:Int) < N:=by omega
     have hwb:=succ_wrap (k:=b) (by omega)
     have hs:=stM_succ (fun x y => x || y) A B N a b
     cases hA:A a b with
     | true =>
       simp only[hA,Bool.true_or,Bool.true_and] at hs
       simp (disch:=omega) only[wp,qa,qb,qc,ml,h0,h1,h5,h6,h7,hg,hb1,hA,hwb,hs]
       exact ⟨N - (b + 1),by omega,b + 1,rfl,by omega,rfl,rfl,by first | omega | (dsimp only;omega)⟩
     | false =>
       simp only[hA,Bool.false_or,Bool.false_and] at hs
       simp (disch:=omega) only[wp,qa,qb,qc,ml,h0,h1,h5,h6,h7,hg,hb1,hA,hwb,hs]
       exact ⟨N - (b + 1),by omega,b + 1,rfl,by omega,rfl,rfl,by first | omega | (dsimp only;omega)⟩
    ·obtain rfl:b = N:=by omega
     have hb1:¬ ((b:Int) < b):=by omega
     rw[stM_row] at hg
     simp (disch:=omega) only[wp,qa,qb,qc,ml,h0,h1,h5,h6,h7,hg,hb1,hwa]
     exact ⟨b - (a + 1),by omega,a + 1,rfl,by omega,rfl,rfl,by first | omega | (dsimp only;omega)⟩
  ·obtain rfl:a = N:=by omega
   have ha1:¬ ((a:Int) < a):=by omega
   simp (disch:=omega) only[wp,qa,qb,qc,ml,h0,h1,h5,h6,hg,ha1]
   exact ⟨10,rfl,hg⟩
theorem sp_mand (h:F 30 = some A_xref01_R_And) (h27:F 27 = some A_xref01_New) {n m:Nat} (hn:n≤40) (hm:m≤40) (A B:Mx):pureS F 30 [.ptr (matC n A),.ptr (matC m B)] = some (.ptr (matC (max n m) (opM (fun x y => x && y) A B (max n m)))):=by
 refine pure_of_thaw h (matC_flat _ _) ?_
 have hN:max n m≤40:=by omega
 simp (disch:=omega) only[A_xref01_R_And,wp,qa,qb,qc,ml,maxI,thaw27 h27]
 generalize max n m = N at hN
 refine W_loop (fun q e g => ∃ a,q = N - a∧a≤N∧e 0 = .ptr (matC n A)∧e 1 = .ptr (matC m B)∧e 5 = .mp 10 0∧e 6 = .i .i64 a∧g.hp 10 = some (.cells (matC N (stM (fun x y => x && y) A B N a 0)) false)∧10 < g.nx) N ?_ ?_
 ·refine ⟨0,rfl,Nat.zero_le _,?_⟩
  simp (disch:=omega) only[wp,qa,qb,qc,stM_0]
  exact ⟨rfl,by first | omega | (dsimp only;omega)⟩
 ·rintro q e g ⟨a,rfl,ha,h0,h1,h5,h6,hg,hnx⟩
  by_cases ha':a < N
  ·have ha1:(a:Int) < N:=by omega
   have hwa:=succ_wrap (k:=a) (by omega)
   simp (disch:=omega) only[wp,qa,qb,qc,ml,h0,h1,h5,h6,hg,ha1]
   refine W_loop (fun q e g => ∃ b,q = N - b∧b≤N∧e 0 = .ptr (matC n A)∧e 1 = .ptr (matC m B)∧e 5 = .mp 10 0∧e 6 = .i .i64 a∧e 7 = .i .i64 b∧g.hp 10 = some (.cells (matC N (stM (fun x y => x && y) A B N a b)) false)∧10 < g.nx) N ?_ ?_
   ·refine ⟨0,rfl,Nat.zero_le _,?_⟩
    simp (disch:=omega) only[wp,qa,qb,qc,h0,h1,h5,h6,hg]
    exact ⟨rfl,by first | omega | (dsimp only;omega)⟩
   ·rintro q e g ⟨b,rfl,hb,h0,h1,h5,h6,h7,hg,hnx⟩
    by_cases hb':b < N
    ·have hb1:(b:Int) < N:=by omega
     have hwb:=succ_wrap (k:=b) (by omega)
     have hs:=stM_succ (fun x y => x && y) A B N a b
     cases hA:A a b with
     | true =>
       simp only[hA,Bool.true_or,Bool.true_and] at hs
       simp (disch:=omega) only[wp,qa,qb,qc,ml,h0,h1,h5,h6,h7,hg,hb1,hA,hwb,hs]
       exact ⟨N - (b + 1),by omega,b + 1,rfl,by omega,rfl,rfl,by first | omega | (dsimp only;omega)⟩
     | false =>
       simp only[hA,Bool.false_or,Bool.false_and] at hs
       simp (disch:=omega) only[wp,qa,qb,qc,ml,h0,h1,h5,h6,h7,hg,hb1,hA,hwb,hs]
       exact ⟨N - (b + 1),by omega,b + 1,rfl,by omega,rfl,rfl,by first | omega | (dsimp only;omega)⟩
    ·obtain rfl:b = N:=by omega
     have hb1:¬ ((b:Int) < b):=by omega
     rw[stM_row] at hg
     simp (disch:=omega) only[wp,qa,qb,qc,ml,h0,h1,h5,h6,h7,hg,hb1,hwa]
     exact ⟨b - (a + 1),by omega,a + 1,rfl,by omega,rfl,rfl,by first | omega | (dsimp only;omega)⟩
  ·obtain rfl:a = N:=by omega
   have ha1:¬ ((a:Int) < a):=by omega
   simp (disch:=omega) only[wp,qa,qb,qc,ml,h0,h1,h5,h6,hg,ha1]
   exact ⟨10,rfl,hg⟩
end Go.Ab
end
section
set_option linter.unusedVariables false
set_option linter.unusedSimpArgs false
namespace Go.Ab
variable {F:Funs}
def t1M (A B:Mx) (a b c:Nat) (T:Mx):Mx:=fun i j => if i = a∧j < c then T i j || B b j else T i j
def t2M (A B:Mx) (N a:Nat) (T:Mx) (b:Nat):Mx:=if A a b then t1M A B a b N T else T
def t3M (A B:Mx) (N a k:Nat) (T:Mx):Mx:=(List.range k).foldl (t2M A B N a) T
def thM (A B:Mx) (N k:Nat):Mx:=(List.range k).foldl (fun T a => t3M A B N a N T) (fun _ _ => false)
theorem t3M_succ (A B N a k T):t3M A B N a (k + 1) T = t2M A B N a (t3M A B N a k T) k:=by simp[t3M,List.range_succ]
theorem thM_succ (A B N k):thM A B N (k + 1) = t3M A B N k N (thM A B N k):=by simp[thM,List.range_succ]
theorem t1M_succ (A B a b c T):upd2 (t1M A B a b c T) a c (T a c || B b c) = t1M A B a b (c + 1) T:=by
 funext i j
 unfold upd2 t1M
 by_cases h:i = a∧j = c
 ·obtain ⟨rfl,rfl⟩:=h;rw[if_pos ⟨rfl,rfl⟩,if_pos ⟨rfl,by omega⟩]
 ·rw[if_neg h]
  by_cases h2:i = a∧j < c
  ·rw[if_pos h2,if_pos (by omega)]
  ·rw[if_neg h2,if_neg (by omega)]
theorem t1M_at (A B a b c T):t1M A B a b c T a c = T a c:=by unfold t1M;rw[if_neg (by omega)]
theorem t1M_0 (A B a b T):t1M A B a b 0 T = T:=by funext i j;unfold t1M;rw[if_neg (by omega)]
theorem sp_mthen (h:F 32 = some A_xref01_R_Then) (h27:F 27 = some A_xref01_New) {n m:Nat} (hn:n≤40) (hm:m≤40) (A B:Mx):pureS F 32 [.ptr (matC n A),.ptr (matC m B)] = some (.ptr (matC (max n m) (thM A B (max n m) (max n m)))):=by
 refine pure_of_thaw h (matC_flat _ _) ?_
 have hN:max n m≤40:=by omega
 simp (disch:=omega) only[A_xref01_R_Then,wp,qa,qb,qc,ml,maxI,thaw27 h27]
 generalize max n m = N at hN
 refine W_loop (fun q e g => ∃ a,q = N - a∧a≤N∧e 0 = .ptr (matC n A)∧e 1 = .ptr (matC m B)∧e 5 = .mp 10 0∧e 6 = .i .i64 a∧g.hp 10 = some (.cells (matC N (thM A B N a)) false)∧10 < g.nx) N ?_ ?_
 ·refine ⟨0,rfl,Nat.zero_le _,?_⟩
  simp (disch:=omega) only[wp,qa,qb,qc]
  exact ⟨rfl,rfl,by first | omega | (dsimp only;omega)⟩
 ·rintro q e g ⟨a,rfl,ha,h0,h1,h5,h6,hg,hnx⟩
  by_cases ha':a < N
  ·have ha1:(a:Int) < N:=by omega
   have hwa:=succ_wrap (k:=a) (by omega)
   simp (disch:=omega) only[wp,qa,qb,qc,ml,h0,h1,h5,h6,hg,ha1]
   refine W_loop (fun q e g => ∃ b,q = N - b∧b≤N∧e 0 = .ptr (matC n A)∧e 1 = .ptr (matC m B)∧e 5 = .mp 10 0∧e 6 = .i .i64 a∧e 7 = .i .i64 b∧g.hp 10 = some (.cells (matC N (t3M A B N a b (thM A B N a))) false)∧10 < g.nx) N ?_ ?_
   ·refine ⟨0,rfl,Nat.zero_le _,?_⟩
    simp (disch:=omega) only[wp,qa,qb,qc,h0,h1,h5,h6,hg]
    exact ⟨rfl,rfl,by first | omega | (dsimp only;omega)⟩
   ·rintro q e g ⟨b,rfl,hb,h0,h1,h5,h6,h7,hg,hnx⟩
    by_cases hb':b < N
    ·have hb1:(b:Int) < N:=by omega
     have hwb:=succ_wrap (k:=b) (by omega)
     have hs:=t3M_succ A B N a b (thM A B N a)
     generalize t3M A B N a b (thM A B N a) = T at hg hs
     cases hA:A a b with
     | true =>
       rw[t2M,if_pos hA] at hs
       simp (disch:=omega) only[wp,qa,qb,qc,ml,h0,h1,h5,h6,h7,hg,hb1]
       refine W_loop (fun q e g => ∃ c,q = N - c∧c≤N∧e 0 = .ptr (matC n A)∧e 1 = .ptr (matC m B)∧e 5 = .mp 10 0∧e 6 = .i .i64 a∧e 7 = .i .i64 b∧e 8 = .i .i64 c∧g.hp 10 = some (.cells (matC N (t1M A B a b c T)) false)∧10 < g.nx) N ?_ ?_
       ·refine ⟨0,rfl,Nat.zero_le _,?_⟩
        simp (disch:=omega) only[wp,qa,qb,qc,h0,h1,h5,h6,h7,hg,t1M_0]
        exact ⟨rfl,by first | omega | (dsimp only;omega)⟩
       ·rintro q e g ⟨c,rfl,hc,h0,h1,h5,h6,h7,h8,hg,hnx⟩
        by_cases hc':c < N
        ·have hc1:(c:Int) < N:=by omega
         have hwc:=succ_wrap (k:=c) (by omega)
         have hs1:=t1M_succ A B a b c T
         have hat:=t1M_at A B a b c T
         cases hT:T a c with
         | true =>
           rw[hT] at hat hs1
           simp only[Bool.true_or] at hs1
           simp (disch:=omega) only[wp,qa,qb,qc,ml,h0,h1,h5,h6,h7,h8,hg,hc1,hA,hat,hwc,hs1]
           exact ⟨N - (c + 1),by omega,c + 1,rfl,by omega,rfl,rfl,by first | omega | (dsimp only;omega)⟩
         | false =>
           rw[hT] at hat hs1
           simp only[Bool.false_or] at hs1
           simp (disch:=omega) only[wp,qa,qb,qc,ml,h0,h1,h5,h6,h7,h8,hg,hc1,hA,hat,hwc,hs1]
           exact ⟨N - (c + 1),by omega,c + 1,rfl,by omega,rfl,rfl,by first | omega | (dsimp only;omega)⟩
        ·obtain rfl:c = N:=by omega
         have hc1:¬ ((c:Int) < c):=by omega
         rw[←hs] at hg
         simp (disch:=omega) only[wp,qa,qb,qc,ml,h0,h1,h5,h6,h7,h8,hg,hc1,hwb]
         exact ⟨c - (b + 1),by omega,b + 1,rfl,by omega,rfl,rfl,by first | omega | (dsimp only;omega)⟩
     | false =>
       rw[t2M,if_neg (by rw[hA];simp)] at hs
       have h0N:(0:Int) < N:=by omega
       have hA0:part (((matR A).drop (a * 40)).drop (b * 1)) 0 none = some (.b false):=by rw[matR_at (by omega),hA]
       simp (disch:=omega) only[wp,qa,qb,qc,ml,h0,h1,h5,h6,h7,hg,hb1]
       refine W_loop (fun q e g => e 0 = .ptr (matC n A)∧e 1 = .ptr (matC m B)∧e 5 = .mp 10 0∧e 6 = .i .i64 a∧e 7 = .i .i64 b∧e 8 = .i .i64 0∧g.hp 10 = some (.cells (matC N T) false)∧10 < g.nx) 0 ?_ ?_
       ·simp (disch:=omega) only[wp,qa,qb,qc,h0,h1,h5,h6,h7,hg]
        first | omega | (dsimp only;omega)
       ·rintro q e g ⟨h0,h1,h5,h6,h7,h8,hg,hnx⟩
        rw[←hs] at hg
        simp (disch:=omega) only[wp,qa,qb,qc,ml,h0,h1,h5,h6,h7,h8,hg,h0N,hA,hwb]
        exact ⟨N - (b + 1),by omega,b + 1,rfl,by omega,rfl,rfl,by first | omega | (dsimp only;omega)⟩
    ·obtain rfl:b = N:=by omega
     have hb1:¬ ((b:Int) < b):=by omega
     rw[←thM_succ] at hg
     simp (disch:=omega) only[wp,qa,qb,qc,ml,h0,h1,h5,h6,h7,hg,hb1,hwa]
     exact ⟨b - (a + 1),by omega,a + 1,rfl,by omega,rfl,rfl,by first | omega | (dsimp only;omega)⟩
  ·obtain rfl:a = N:=by omega
   have ha1:¬ ((a:Int) < a):=by omega
   simp (disch:=omega) only[wp,qa,qb,qc,ml,h0,h1,h5,h6,hg,ha1]
   exact ⟨10,rfl,hg⟩
def bkM (A:Mx) (N a b:Nat):Mx:=fun i j => if (j < a∧i < N)∨(j = a∧i < b) then A j i else false
theorem bkM_succ (A N a b):upd2 (bkM A N a b) b a (A a b) = bkM A N a (b + 1):=by
 funext i j
 unfold upd2 bkM
 by_cases h:i = b∧j = a
 ·obtain ⟨rfl,rfl⟩:=h
  rw[if_pos ⟨rfl,rfl⟩,if_pos (.inr ⟨rfl,by omega⟩)]
 ·rw[if_neg h]
  by_cases h2:(j < a∧i < N)∨(j = a∧i < b)
  ·rw[if_pos h2,if_pos (by omega)]
  ·rw[if_neg h2,if_neg (by omega)]
theorem bkM_row (A N a):bkM A N a N = bkM A N (a + 1) 0:=by
 funext i j
 unfold bkM
 by_cases h2:(j < a∧i < N)∨(j = a∧i < N)
 ·rw[if_pos h2,if_pos (by omega)]
 ·rw[if_neg h2,if_neg (by omega)]
theorem bkM_0 (A N):bkM A N 0 0 = fun _ _ => false:=by
 funext i j
 unfold bkM
 rw[if_neg (by omega)]
theorem sp_mback (h:F 33 = some A_xref01_R_Back) (h27:F 27 = some A_xref01_New) {n:Nat} (hn:n≤40) (A:Mx):pureS F 33 [.ptr (matC n A)] = some (.ptr (matC n (bkM A n n 0))):=by
 refine pure_of_thaw h (matC_flat _ _) ?_
 simp (disch:=omega) only[A_xref01_R_Back,wp,qa,qb,qc,ml,thaw27 h27]
 refine W_loop (fun q e g => ∃ a,q = n - a∧a≤n∧e 0 = .ptr (matC n A)∧e 3 = .mp 5 0∧e 4 = .i .i64 a∧g.hp 5 = some (.cells (matC n (bkM A n a 0)) false)∧5 < g.nx) n ?_ ?_
 ·refine ⟨0,rfl,Nat.zero_le _,?_⟩
  simp (disch:=omega) only[wp,qa,qb,qc,bkM_0]
  exact ⟨rfl,by first | omega | (dsimp only;omega)⟩
 ·rintro q e g ⟨a,rfl,ha,h0,h3,h4,hg,hnx⟩
  by_cases ha':a < n
  ·have ha1:(a:Int) < n:=by omega
   have hwa:=succ_wrap (k:=a) (by omega)
   simp (disch:=omega) only[wp,qa,qb,qc,ml,h0,h3,h4,hg,ha1]
   refine W_loop (fun q e g => ∃ b,q = n - b∧b≤n∧e 0 = .ptr (matC n A)∧e 3 = .mp 5 0∧e 4 = .i .i64 a∧e 5 = .i .i64 b∧g.hp 5 = some (.cells (matC n (bkM A n a b)) false)∧5 < g.nx) n ?_ ?_
   ·refine ⟨0,rfl,Nat.zero_le _,?_⟩
    simp (disch:=omega) only[wp,qa,qb,qc,h0,h3,h4,hg]
    exact ⟨rfl,by first | omega | (dsimp only;omega)⟩
   ·rintro q e g ⟨b,rfl,hb,h0,h3,h4,h5,hg,hnx⟩
    by_cases hb':b < n
    ·have hb1:(b:Int) < n:=by omega
     have hwb:=succ_wrap (k:=b) (by omega)
     have hs:=bkM_succ A n a b
     simp (disch:=omega) only[wp,qa,qb,qc,ml,h0,h3,h4,h5,hg,hb1,hwb,hs]
     exact ⟨n - (b + 1),by omega,b + 1,rfl,by omega,rfl,rfl,by first | omega | (dsimp only;omega)⟩
    ·obtain rfl:b = n:=by omega
     have hb1:¬ ((b:Int) < b):=by omega
     rw[bkM_row] at hg
     simp (disch:=omega) only[wp,qa,qb,qc,ml,h0,h3,h4,h5,hg,hb1,hwa]
     exact ⟨b - (a + 1),by omega,a + 1,rfl,by omega,rfl,rfl,by first | omega | (dsimp only;omega)⟩
  ·obtain rfl:a = n:=by omega
   have ha1:¬ ((a:Int) < a):=by omega
   simp (disch:=omega) only[wp,qa,qb,qc,ml,h0,h3,h4,hg,ha1]
   exact ⟨5,rfl,hg⟩
def mbM (A:Mx) (k:Nat):Mx:=fun i j => A i j || decide (i < k∧i = j)
theorem mbM_succ (A k):upd2 (mbM A k) k k true = mbM A (k + 1):=by
 funext i j
 unfold upd2 mbM
 by_cases h:i = k∧j = k
 ·obtain ⟨rfl,rfl⟩:=h;rw[if_pos ⟨rfl,rfl⟩];simp
 ·rw[if_neg h]
  congr 1
  rw[decide_eq_decide];omega
theorem mbM_0 (A):mbM A 0 = A:=by funext i j;simp[mbM]
theorem sp_mmaybe (h:F 35 = some A_xref01_R_Maybe) (h27:F 27 = some A_xref01_New) {n:Nat} (hn:n≤40) (A:Mx):pureS F 35 [.ptr (matC n A)] = some (.ptr (matC n (mbM A n))):=by
 refine pure_of_thaw h (matC_flat _ _) ?_
 simp (disch:=omega) only[A_xref01_R_Maybe,wp,qa,qb,qc,ml,thaw27 h27]
 refine W_loop (fun q e g => ∃ a,q = n - a∧a≤n∧e 3 = .mp 5 0∧e 4 = .i .i64 a∧g.hp 5 = some (.cells (matC n (mbM A a)) false)∧5 < g.nx) n ?_ ?_
 ·refine ⟨0,rfl,Nat.zero_le _,?_⟩
  simp (disch:=omega) only[wp,qa,qb,qc,mbM_0]
  exact ⟨rfl,by first | omega | (dsimp only;omega)⟩
 ·rintro q e g ⟨a,rfl,ha,h3,h4,hg,hnx⟩
  by_cases ha':a < n
  ·have ha1:(a:Int) < n:=by omega
   have hwa:=succ_wrap (k:=a) (by omega)
   have hs:=mbM_succ A a
   simp (disch:=omega) only[wp,qa,qb,qc,ml,h3,h4,hg,ha1,hwa,hs]
   exact ⟨n - (a + 1),by omega,a + 1,rfl,by omega,rfl,rfl,by first | omega | (dsimp only;omega)⟩
  ·obtain rfl:a = n:=by omega
   have ha1:¬ ((a:Int) < a):=by omega
   simp (disch:=omega) only[wp,qa,qb,qc,ml,h3,h4,hg,ha1]
   exact ⟨5,rfl,hg⟩
end Go.Ab
end
section
set_option linter.unusedVariables false
set_option linter.unusedSimpArgs false
namespace Go.Ab
variable {F:Funs}
def p1M (k a c:Nat) (T:Mx):Mx:=fun i j => if i = a∧j < c then T i j || T k j else T i j
def p2M (N k:Nat) (T:Mx) (a:Nat):Mx:=if T a k then p1M k a N T else T
def p3M (N k m:Nat) (T:Mx):Mx:=(List.range m).foldl (p2M N k) T
def plM (N:Nat) (A:Mx) (m:Nat):Mx:=(List.range m).foldl (fun T k => p3M N k N T) A
theorem p3M_succ (N k m T):p3M N k (m + 1) T = p2M N k (p3M N k m T) m:=by simp[p3M,List.range_succ]
theorem plM_succ (N A m):plM N A (m + 1) = p3M N m N (plM N A m):=by simp[plM,List.range_succ]
theorem p1M_succ (k a c T):upd2 (p1M k a c T) a c (T a c || T k c) = p1M k a (c + 1) T:=by
 funext i j
 unfold upd2 p1M
 by_cases h:i = a∧j = c
 ·obtain ⟨rfl,rfl⟩:=h;rw[if_pos ⟨rfl,rfl⟩,if_pos ⟨rfl,by omega⟩]
 ·rw[if_neg h]
  by_cases h2:i = a∧j < c
  ·rw[if_pos h2,if_pos (by omega)]
  ·rw[if_neg h2,if_neg (by omega)]
theorem p1M_at (k a c T):p1M k a c T a c = T a c:=by unfold p1M;rw[if_neg (by omega)]
theorem p1M_k (k a c T):p1M k a c T k c = T k c:=by unfold p1M;rw[if_neg (by omega)]
theorem p1M_cond {k a c T} (h:T a k = true):p1M k a c T a k = true:=by unfold p1M;split<;>simp[h]
theorem p1M_0 (k a T):p1M k a 0 T = T:=by funext i j;unfold p1M;rw[if_neg (by omega)]
theorem sp_mplus (h:F 34 = some A_xref01_R_Plus) (h27:F 27 = some A_xref01_New) {N:Nat} (hN:N≤40) (A:Mx):pureS F 34 [.ptr (matC N A)] = some (.ptr (matC N (plM N A N))):=by
 refine pure_of_thaw h (matC_flat _ _) ?_
 simp (disch:=omega) only[A_xref01_R_Plus,wp,qa,qb,qc,ml,thaw27 h27]
 refine W_loop (fun q e g => ∃ k,q = N - k∧k≤N∧e 3 = .mp 5 0∧e 4 = .i .i64 k∧g.hp 5 = some (.cells (matC N (plM N A k)) false)∧5 < g.nx) N ?_ ?_
 ·refine ⟨0,rfl,Nat.zero_le _,?_⟩
  simp (disch:=omega) only[wp,qa,qb,qc]
  exact ⟨rfl,rfl,by first | omega | (dsimp only;omega)⟩
 ·rintro q e g ⟨k,rfl,hk,h3,h4,hg,hnx⟩
  by_cases hk':k < N
  ·have hk1:(k:Int) < N:=by omega
   have hwk:=succ_wrap (k:=k) (by omega)
   simp (disch:=omega) only[wp,qa,qb,qc,ml,h3,h4,hg,hk1]
   refine W_loop (fun q e g => ∃ a,q = N - a∧a≤N∧e 3 = .mp 5 0∧e 4 = .i .i64 k∧e 5 = .i .i64 a∧g.hp 5 = some (.cells (matC N (p3M N k a (plM N A k))) false)∧5 < g.nx) N ?_ ?_
   ·refine ⟨0,rfl,Nat.zero_le _,?_⟩
    simp (disch:=omega) only[wp,qa,qb,qc,h3,h4,hg]
    exact ⟨rfl,rfl,by first | omega | (dsimp only;omega)⟩
   ·rintro q e g ⟨a,rfl,ha,h3,h4,h5,hg,hnx⟩
    by_cases ha':a < N
    ·have ha1:(a:Int) < N:=by omega
     have hwa:=succ_wrap (k:=a) (by omega)
     have hs:=p3M_succ N k a (plM N A k)
     generalize p3M N k a (plM N A k) = T at hg hs
     cases hA:T a k with
     | true =>
       rw[p2M,if_pos hA] at hs
       simp (disch:=omega) only[wp,qa,qb,qc,ml,h3,h4,h5,hg,ha1]
       refine W_loop (fun q e g => ∃ c,q = N - c∧c≤N∧e 3 = .mp 5 0∧e 4 = .i .i64 k∧e 5 = .i .i64 a∧e 6 = .i .i64 c∧g.hp 5 = some (.cells (matC N (p1M k a c T)) false)∧5 < g.nx) N ?_ ?_
       ·refine ⟨0,rfl,Nat.zero_le _,?_⟩
        simp (disch:=omega) only[wp,qa,qb,qc,h3,h4,h5,hg,p1M_0]
        exact ⟨rfl,by first | omega | (dsimp only;omega)⟩
       ·rintro q e g ⟨c,rfl,hc,h3,h4,h5,h6,hg,hnx⟩
        by_cases hc':c < N
        ·have hc1:(c:Int) < N:=by omega
         have hwc:=succ_wrap (k:=c) (by omega)
         have hs1:=p1M_succ k a c T
         have hat:=p1M_at k a c T
         have hkc:=p1M_k k a c T
         have hco:=p1M_cond (c:=c) hA
         generalize p1M k a c T = M at hg hs1 hat hkc hco
         cases hT:T a c with
         | true =>
           rw[hT] at hat hs1
           simp only[Bool.true_or] at hs1
           simp (disch:=omega) only[wp,qa,qb,qc,ml,h3,h4,h5,h6,hg,hc1,hco,hat,hwc,hs1]
           exact ⟨N - (c + 1),by omega,c + 1,rfl,by omega,rfl,rfl,by first | omega | (dsimp only;omega)⟩
         | false =>
           rw[hT] at hat hs1
           simp only[Bool.false_or] at hs1
           simp (disch:=omega) only[wp,qa,qb,qc,ml,h3,h4,h5,h6,hg,hc1,hco,hat,hkc,hwc,hs1]
           exact ⟨N - (c + 1),by omega,c + 1,rfl,by omega,rfl,rfl,by first | omega | (dsimp only;omega)⟩
        ·obtain rfl:c = N:=by omega
         have hc1:¬ ((c:Int) < c):=by omega
         rw[←hs] at hg
         simp (disch:=omega) only[wp,qa,qb,qc,ml,h3,h4,h5,h6,hg,hc1,hwa]
         exact ⟨c - (a + 1),by omega,a + 1,rfl,by omega,rfl,rfl,by first | omega | (dsimp only;omega)⟩
     | false =>
       rw[p2M,if_neg (by rw[hA];simp)] at hs
       have h0N:(0:Int) < N:=by omega
       simp (disch:=omega) only[wp,qa,qb,qc,ml,h3,h4,h5,hg,ha1]
       refine W_loop (fun q e g => e 3 = .mp 5 0∧e 4 = .i .i64 k∧e 5 = .i .i64 a∧e 6 = .i .i64 0∧g.hp 5 = some (.cells (matC N T) false)∧5 < g.nx) 0 ?_ ?_
       ·simp (disch:=omega) only[wp,qa,qb,qc,h3,h4,h5,hg]
        first | omega | (dsimp only;omega)
       ·rintro q e g ⟨h3,h4,h5,h6,hg,hnx⟩
        simp (disch:=omega) only[wp,qa,qb,qc,ml,h3,h4,h5,h6,hg,h0N,hA,hwa]
        exact ⟨N - (a + 1),by omega,a + 1,rfl,by omega,rfl,by rw[hs],by first | omega | (dsimp only;omega)⟩
    ·obtain rfl:a = N:=by omega
     have ha1:¬ ((a:Int) < a):=by omega
     rw[←plM_succ] at hg
     simp (disch:=omega) only[wp,qa,qb,qc,ml,h3,h4,h5,hg,ha1,hwk]
     exact ⟨a - (k + 1),by omega,k + 1,rfl,by omega,rfl,rfl,by first | omega | (dsimp only;omega)⟩
  ·obtain rfl:k = N:=by omega
   have hk1:¬ ((k:Int) < k):=by omega
   simp (disch:=omega) only[wp,qa,qb,qc,ml,h3,h4,hg,hk1]
   exact ⟨5,rfl,hg⟩
theorem sp_mpairs (h:F 56 = some A_xref01_R_Pairs) {n:Nat} (hn:n≤40) (M:Mx) (R:Rw) (hM:∀ a b:Nat,a < n→b < n→M a b = has n R a b):pureS F 56 [.ptr (matC n M)] = some (.sl (pairsC (pairsR n R)) (pairsR n R).length .non):=by
 refine pure_of h ?_
 simp (disch:=omega) only[A_xref01_R_Pairs,wp,qa,qb,qc,ml]
 refine W_loop (fun m e g => ∃ k t,m = n - k∧k≤n∧e 0 = .ptr (matC n M)∧e 4 = .i .i64 k∧e 3 = .sl (pairsC (pairsK n k R)) (pairsK n k R).length t∧Live g 2 t∧(pairsK n k R).length≤40 * k) n ?_ ?_
 ·refine ⟨0,.rig,rfl,Nat.zero_le _,?_⟩
  simp (disch:=omega) only[wp,qa,qb,qc]
  exact ⟨rfl,rfl,.inl rfl,Nat.zero_le _⟩
 ·rintro m e g ⟨k,t,rfl,hk,h0,h4,h3,ht,hl⟩
  by_cases hk':k < n
  ·have hk1:(k:Int) < n:=by omega
   have hw:=succ_wrap (k:=k) (by omega)
   simp (disch:=omega) only[wp,qa,qb,qc,ml,h0,h4,h3,hk1]
   refine W_loop (fun m e g => ∃ j t,m = n - j∧j≤n∧e 0 = .ptr (matC n M)∧e 4 = .i .i64 k∧e 5 = .i .i64 j∧e 3 = .sl (pairsC (partL n k j R)) (partL n k j R).length t∧Live g 2 t∧(partL n k j R).length≤40 * k + j) n ?_ ?_
   ·refine ⟨0,t,rfl,Nat.zero_le _,?_⟩
    simp (disch:=omega) only[wp,qa,qb,qc,h0,h4,h3]
    rw[partL_0]
    refine ⟨rfl,rfl,?_,by omega⟩
    rcases ht with rfl | ⟨τ,rfl,hτ,hlt⟩
    ·exact .inl rfl
    ·exact .inr ⟨τ,rfl,hτ,Nat.lt_of_lt_of_le hlt (by dsimp only;omega)⟩
   ·rintro m e g ⟨j,t,rfl,hj,h0,h4,h5,h3,ht,hl⟩
    have hLn:=partL_succ n k j R
    by_cases hj':j < n
    ·have hj1:(j:Int) < n:=by omega
     have hwj:=succ_wrap (k:=j) (by omega)
     have hMh:=hM k j hk' hj'
     by_cases hh:has n R k j = true
     ·rw[if_pos hh] at hLn
      rw[hh] at hMh
      rcases ht with rfl | ⟨τ,rfl,hτ,hlt⟩
      ·simp (disch:=omega) only[wp,qa,qb,qc,ml,h0,h4,h5,h3,hj1,hMh,hwj,pairsC_len]
       refine ⟨n - (j + 1),?_,j + 1,?_⟩
       ·omega
       ·rw[hLn,pairsC_app,pairsC_one,List.length_append]
        exact ⟨_,rfl,by omega,rfl,rfl,.inr ⟨_,rfl,upd_same _ _ _,by dsimp only;omega⟩,by simp;omega⟩
      ·simp (disch:=omega) only[wp,qa,qb,qc,ml,h0,h4,h5,h3,hj1,hMh,hwj,pairsC_len,hτ]
       refine ⟨n - (j + 1),?_,j + 1,?_⟩
       ·omega
       ·rw[hLn,pairsC_app,pairsC_one,List.length_append]
        exact ⟨_,rfl,by omega,rfl,rfl,.inr ⟨_,rfl,upd_same _ _ _,by dsimp only;omega⟩,by simp;omega⟩
     ·rw[if_neg hh] at hLn
      rw[Bool.not_eq_true] at hh
      rw[hh] at hMh
      simp (disch:=omega) only[wp,qa,qb,qc,ml,h0,h4,h5,h3,hj1,hMh,hwj]
      refine ⟨_,?_,j + 1,t,rfl,by omega,rfl,?_⟩
      ·omega
      ·rw[hLn]
       refine ⟨rfl,?_,by omega⟩
       rcases ht with rfl | ⟨τ,rfl,hτ,hlt⟩
       ·exact .inl rfl
       ·exact .inr ⟨τ,rfl,hτ,Nat.lt_of_lt_of_le hlt (by dsimp only;omega)⟩
    ·obtain rfl:j = n:=by omega
     have hj1:¬ ((j:Int) < j):=by omega
     simp (disch:=omega) only[wp,qa,qb,qc,ml,h0,h4,h5,h3,hj1,hw]
     refine ⟨_,?_,k + 1,t,rfl,by omega,rfl,?_⟩
     ·omega
     ·rw[←partL_n]
      refine ⟨rfl,?_,by omega⟩
      rcases ht with rfl | ⟨τ,rfl,hτ,hlt⟩
      ·exact .inl rfl
      ·exact .inr ⟨τ,rfl,hτ,Nat.lt_of_lt_of_le hlt (by dsimp only;omega)⟩
  ·obtain rfl:k = n:=by omega
   have hk1:¬ ((k:Int) < k):=by omega
   simp (disch:=omega) only[wp,qa,qb,qc,ml,h0,h4,h3,hk1]
   rfl
theorem sp_samePairs (h:F 55 = some A_xref01_SamePairs) (l:List (Int × Int)) (hl:l.length < 9000000000000000000) (t t':Tok):pureS F 55 [.sl (pairsC l) l.length t,.sl (pairsC l) l.length t'] = some (.b true):=by
 refine pure_of h ?_
 simp (disch:=omega) only[A_xref01_SamePairs,wp,qa,qb,qc,bne_self_eq_false]
 refine W_loop (fun m e g => ∃ k,m = l.length - k∧k≤l.length∧e 0 = .sl (pairsC l) l.length t∧e 1 = .sl (pairsC l) l.length t'∧e 5 = .i .i64 k) l.length ?_ ?_
 ·refine ⟨0,rfl,Nat.zero_le _,?_⟩
  simp (disch:=omega) only[wp,qa,qb,qc]
  rfl
 ·rintro m e g ⟨k,rfl,hk,h0,h1,h5⟩
  by_cases hk':k < l.length
  ·have hk1:(k:Int) < l.length:=by omega
   have hw:=succ_wrap (k:=k) (by omega)
   have hpa:=pairs_a hk'
   have hpb:=pairs_b hk'
   simp (disch:=omega) only[wp,qa,qb,qc,h0,h1,h5,hk1,hpa,hpb,List.length_drop,pairsC_len,bne_self_eq_false,hw]
   exact ⟨l.length - (k + 1),by omega,k + 1,rfl,by omega,rfl⟩
  ·obtain rfl:k = l.length:=by omega
   have hk1:¬ ((l.length:Int) < l.length):=by omega
   simp (disch:=omega) only[wp,qa,qb,qc,h0,h1,h5,hk1]
end Go.Ab
end
section
set_option linter.unusedVariables false
set_option linter.unusedSimpArgs false
namespace Go.Ab
variable {F:Funs}
def Eqv (A:Mx) (R:Rw):Prop:=∀ a b,A a b = hb R a b
theorem upd2_get (M:Mx) (a b:Nat) (x:Bool) (i j:Nat):upd2 M a b x i j = if i = a∧j = b then x else M i j:=rfl
theorem eqv_new {n:Nat} (hn:n≤40) (l:List (Int × Int)):Eqv (newM n l) (newR n l):=by
 have key:∀ (l:List (Int × Int)) (M:Mx) (R:Rw),Eqv M R→Eqv (l.foldl (addM n) M) (l.foldl (addR n) R):=by
  intro l
  induction l with
  | nil => intro M R h;exact h
  | cons p l ih =>
    intro M R h
    refine ih _ _ fun a b => ?_
    rw[hb_add hn]
    unfold addM
    by_cases hi:inR n p = true
    ·rw[if_pos hi,upd2_get,hi]
     have hi':=hi
     simp only[inR,decide_eq_true_eq] at hi'
     by_cases h2:a = p.1.toNat∧b = p.2.toNat
     ·rw[if_pos h2]
      have:p = ((a:Int),(b:Int)):=by
       obtain ⟨x,y⟩:=p
       simp only at h2 hi'
       simp only[Prod.mk.injEq];omega
      simp[this]
     ·rw[if_neg h2,h a b]
      have:¬ p = ((a:Int),(b:Int)):=by
       rintro rfl
       exact h2 ⟨by simp,by simp⟩
      simp[this]
    ·rw[if_neg hi,h a b]
     simp only[Bool.not_eq_true] at hi
     simp[hi]
 exact key l _ _ fun a b => by rw[hb_zero]
def Same (n:Nat) (M:Mx) (R:Rw):Prop:=∀ a b:Nat,a < n→b < n→M a b = has n R a b
theorem same_of {n:Nat} {M:Mx} {R:Rw} (h:∀ a b,a < n→b < n→M a b = hb R a b):Same n M R:=fun a b ha hb' => by
 rw[h a b ha hb',has_N]
 simp[hN,ha,hb']
theorem opM_get (φ:Bool→Bool→Bool) (A B:Mx) (N a b:Nat) (ha:a < N) (hb':b < N):opM φ A B N a b = φ (A a b) (B a b):=by
 unfold opM stM;rw[if_pos (.inl ⟨ha,hb'⟩)]
theorem mback_get (A:Mx) (N a b:Nat) (ha:a < N) (hb':b < N):bkM A N N 0 a b = A b a:=by
 unfold bkM;rw[if_pos (.inl ⟨hb',ha⟩)]
theorem t3M_get (A B:Mx) (N a k:Nat) (T:Mx) (i j:Nat) (hj:j < N):t3M A B N a k T i j = (T i j || (decide (i = a) && (List.range k).any fun c => A a c && B c j)):=by
 induction k with
 | zero => simp[t3M]
 | succ k ih =>
   rw[t3M_succ,t2M,List.range_succ,List.any_append]
   cases hA:A a k with
   | true =>
     rw[if_pos rfl]
     unfold t1M
     by_cases hi:i = a
     ·subst hi
      rw[if_pos ⟨rfl,hj⟩,ih]
      simp[hA,Bool.or_assoc]
     ·rw[if_neg (fun h => hi h.1),ih]
      simp[hi]
   | false =>
     rw[if_neg (by simp),ih]
     simp[hA]
theorem thM_get (A B:Mx) (N k:Nat) (i j:Nat) (hj:j < N):thM A B N k i j = (decide (i < k) && (List.range N).any fun c => A i c && B c j):=by
 induction k with
 | zero => simp[thM]
 | succ k ih =>
   rw[thM_succ,t3M_get _ _ _ _ _ _ _ _ hj,ih]
   by_cases hi:i = k
   ·subst hi;simp
   ·have:decide (i < k) = decide (i < k + 1):=by rw[decide_eq_decide];omega
    rw[this];simp[hi]
theorem p3M_get (N k m:Nat) (T:Mx) (i j:Nat) (hj:j < N) (hk:k < N):p3M N k m T i j = (T i j || (decide (i < m) && T i k && T k j)):=by
 have key:∀ m i j,p3M N k m T i j = (T i j || (decide (i < m) && decide (j < N) && T i k && T k j)):=by
  intro m
  induction m with
  | zero => intro i j;simp[p3M]
  | succ m ih =>
    intro i j
    rw[p3M_succ,p2M]
    have hmk:p3M N k m T m k = T m k:=by rw[ih];simp
    have hkj:∀ j,p3M N k m T k j = T k j:=fun j => by
     rw[ih]
     cases T k j<;>simp
    rw[hmk]
    cases hc:T m k with
    | true =>
      rw[if_pos rfl]
      unfold p1M
      by_cases hi:i = m
      ·subst hi
       by_cases hjN:j < N
       ·rw[if_pos ⟨rfl,hjN⟩,ih,hkj]
        simp[hjN,hc]
       ·rw[if_neg (by omega),ih]
        simp[hjN]
      ·rw[if_neg (fun h => hi h.1),ih]
       have:decide (i < m) = decide (i < m + 1):=by rw[decide_eq_decide];omega
       rw[this]
    | false =>
      rw[if_neg (by simp),ih]
      by_cases hi:i = m
      ·subst hi;simp[hc]
      ·have:decide (i < m) = decide (i < m + 1):=by rw[decide_eq_decide];omega
       rw[this]
 rw[key];simp[hj]
theorem plM_get {N:Nat} {A:Mx} {R:Rw} (h:Eqv A R) (hR:Wf N R):∀ k,k≤N→∀ i j,i < N→j < N→plM N A k i j = hb (plusK N k R) i j
 | 0,_,i,j,_,_ => h i j
 | k + 1,hk,i,j,hi,hj => by
   have ih:=plM_get h hR k (by omega)
   rw[plM_succ,p3M_get _ _ _ _ _ _ hj (by omega),plusK_succ,hb_rowP (by omega) _ (wf_plusK hR k (by omega)) N (Nat.le_refl _),ih i j hi hj,ih i k hi (by omega),ih k j (by omega) hj]
theorem Wf.mono {n m:Nat} (h:n≤m) {R:Rw} (hR:Wf n R):Wf m R:=fun a b hh => by obtain ⟨h1,h2⟩:=hR a b hh;omega
end Go.Ab
end
section
set_option linter.unusedVariables false
set_option linter.unusedSimpArgs false
namespace Go.Ab
variable {F:Funs}
def EqN (n:Nat) (A:Mx) (R:Rw):Prop:=Wf n R∧∀ a b,a < n→b < n→A a b = hb R a b
theorem EqN.same {n A R} (h:EqN n A R):Same n A R:=same_of h.2
theorem EqN.new {n:Nat} (hn:n≤40) (l:List (Int × Int)):EqN n (newM n l) (newR n l):=⟨wf_new hn _,fun a b _ _ => eqv_new hn l a b⟩
section
variable {n:Nat} {A B:Mx} {R S:Rw}
theorem EqN.or (h:EqN n A R) (k:EqN n B S):EqN n (opM (fun x y => x || y) A B n) (orR R S):=
 ⟨wf_or h.1 k.1,fun a b ha hb' => by rw[opM_get _ _ _ _ _ _ ha hb',h.2 a b ha hb',k.2 a b ha hb',hb_or]⟩
theorem EqN.and (h:EqN n A R) (k:EqN n B S):EqN n (opM (fun x y => x && y) A B n) (andR R S):=
 ⟨wf_and h.1,fun a b ha hb' => by rw[opM_get _ _ _ _ _ _ ha hb',h.2 a b ha hb',k.2 a b ha hb',hb_and]⟩
theorem EqN.then (h:EqN n A R) (k:EqN n B S):EqN n (thM A B n n) (thenR n R S):=
 ⟨wf_then h.1 k.1,fun a b ha hb' => by
  rw[thM_get _ _ _ _ _ _ hb',Bool.eq_iff_iff,hb_then h.1,decide_eq_true ha,Bool.true_and,List.any_eq_true]
  constructor
  ·rintro ⟨c,hc,hh⟩
   rw[h.2 a c ha (List.mem_range.1 hc),k.2 c b (List.mem_range.1 hc) hb',Bool.and_eq_true] at hh
   exact ⟨c,hh.1,hh.2⟩
  ·rintro ⟨c,h1,h2⟩
   have hc:=(h.1 a c h1).2
   exact ⟨c,List.mem_range.2 hc,by rw[h.2 a c ha hc,k.2 c b hc hb',h1,h2];rfl⟩⟩
theorem plM_getN {N:Nat} {A:Mx} {R:Rw} (h:EqN N A R):∀ k,k≤N→∀ i j,i < N→j < N→plM N A k i j = hb (plusK N k R) i j
 | 0,_,i,j,hi,hj => h.2 i j hi hj
 | k + 1,hk,i,j,hi,hj => by
   have ih:=plM_getN h k (by omega)
   rw[plM_succ,p3M_get _ _ _ _ _ _ hj (by omega),plusK_succ,hb_rowP (by omega) _ (wf_plusK h.1 k (by omega)) N (Nat.le_refl _),ih i j hi hj,ih i k hi (by omega),ih k j (by omega) hj]
theorem EqN.plus (h:EqN n A R):EqN n (plM n A n) (plusR n R):=⟨wf_plus h.1,fun a b ha hb' => plM_getN h n (Nat.le_refl _) a b ha hb'⟩
theorem EqN.maybe (hn:n≤40) (h:EqN n A R):EqN n (mbM A n) (maybeK n R):=
 ⟨wf_maybe hn h.1,fun a b ha hb' => by
  rw[hb_maybeK _ _ _ _ (by omega),←h.2 a b ha hb']
  unfold mbM
  congr 1
  rw[Bool.eq_iff_iff]
  simp only[Bool.and_eq_true,decide_eq_true_eq]
  omega⟩
theorem EqN.back (hn:n≤40) (h:EqN n A R):EqN n (bkM A n n 0) (backR n R):=
 ⟨wf_back hn,fun a b ha hb' => by
  rw[mback_get _ _ _ _ ha hb',hb_back hn,hN_wf h.1,h.2 b a hb' ha]⟩
end
end Go.Ab
end
section
set_option linter.unusedVariables false
set_option linter.unusedSimpArgs false
namespace Go.Ab
variable {F:Funs}
def anyM (L:List (Int × Int)):Mx:=fun a b => L.any fun q => decide (q = ((a:Int),(b:Int)))
theorem anyM_add (L:List (Int × Int)) {a b:Int} (h0:0≤a) (h1:0≤b):upd2 (anyM L) a.toNat b.toNat true = anyM (L ++ [(a,b)]):=by
 funext i j
 unfold upd2 anyM
 rw[List.any_append]
 by_cases h:i = a.toNat∧j = b.toNat
 ·rw[if_pos h]
  have:decide ((a,b) = ((i:Int),(j:Int))) = true:=by rw[decide_eq_true_eq,Prod.mk.injEq];omega
  simp only[List.any_cons,List.any_nil,this,Bool.true_or,Bool.or_true]
 ·rw[if_neg h]
  have:decide ((a,b) = ((i:Int),(j:Int))) = false:=by rw[decide_eq_false_iff_not,Prod.mk.injEq];omega
  simp only[List.any_cons,List.any_nil,this,Bool.or_false]
theorem anyM_mem {L:List (Int × Int)} {a b:Nat}:anyM L a b = true↔((a:Int),(b:Int))∈L:=by
 unfold anyM
 rw[List.any_eq_true]
 constructor
 ·rintro ⟨q,hq,h⟩;rw[decide_eq_true_eq] at h;rw[←h];exact hq
 ·intro h;exact ⟨_,h,by simp⟩
def rfL (X:Gr) (k:Nat):List (Int × Int):=(List.range k).flatMap fun (i:Nat) => if 0≤X.rf.getD i 0 then [(X.rf.getD i 0,(i:Int))] else []
theorem rfL_succ (X k):rfL X (k + 1) = rfL X k ++ (if 0≤X.rf.getD k 0 then [(X.rf.getD k 0,(k:Int))] else []):=by simp[rfL,List.range_succ]
theorem sp_mRf (h69:F 69 = some A_xref09_Rf) (h27:F 27 = some A_xref01_New) {X:Gr} (hn:X.evs.length≤40) (hr:X.rf.length≤40) (hw:∀ i,i < X.rf.length→X.rf.getD i 0 < 40):pureS F 69 [.agg (grC X)] = some (.ptr (matC X.evs.length (anyM (rfL X X.rf.length)))):=by
 refine pure_of_thaw h69 (matC_flat _ _) ?_
 simp (disch:=omega) only[A_xref09_Rf,wp,qa,qb,qc,gl,ml,thaw27 h27]
 refine W_loop (fun q e g => ∃ k:Nat,q = X.rf.length - k∧k≤X.rf.length∧e 1 = .mp 0 0∧e 3 = .mp 5 0∧e 4 = .i .i64 k∧g.hp 0 = some (.cells (grC X) false)∧g.hp 5 = some (.cells (matC X.evs.length (anyM (rfL X k))) false)∧5 < g.nx) X.rf.length ?_ ?_
 ·refine ⟨0,rfl,Nat.zero_le _,?_⟩
  simp (disch:=omega) only[wp,qa,qb,qc]
  exact ⟨rfl,rfl,by first | omega | (dsimp only;omega)⟩
 ·rintro q e g ⟨k,rfl,hk,e1,e3,e4,hg,hm,hnx⟩
  by_cases hk':k < X.rf.length
  ·have hk1:(k:Int) < X.rf.length:=by omega
   have hk40:(k:Int) < 40:=by omega
   have hwk:=succ_wrap (k:=k) (by omega)
   have hp:=ints_part hk'
   have hs:=rfL_succ X k
   have hwb:=hw k hk'
   generalize X.rf.getD k 0 = w at hp hs hwb
   generalize rfL X k = L at hm hs
   by_cases c1:0≤w
   case neg =>
    rw[if_neg c1,List.append_nil] at hs
    simp (disch:=omega) only[wp,qa,qb,qc,gl,ml,e1,e3,e4,hg,hm,hk1,hp,c1,hwk]
    exact ⟨X.rf.length - (k + 1),by omega,k + 1,rfl,by omega,rfl,by rw[hs],by first | omega | (dsimp only;omega)⟩
   rw[if_pos c1] at hs
   have hadd:=anyM_add L c1 (b:=(k:Int)) (by omega)
   rw[Int.toNat_natCast] at hadd
   have hset:=matC_set (n:=X.evs.length) (M:=anyM L) (a:=w.toNat) (b:=k) (x:=true) (by omega)
   rw[hadd,←hs] at hset
   simp (disch:=omega) only[wp,qa,qb,qc,gl,ml,e1,e3,e4,hg,hm,hk1,hp,c1,hwk,hset]
   exact ⟨X.rf.length - (k + 1),by omega,k + 1,rfl,by omega,rfl,rfl,by first | omega | (dsimp only;omega)⟩
  ·obtain rfl:k = X.rf.length:=by omega
   have hk1:¬ ((X.rf.length:Int) < X.rf.length):=by omega
   simp (disch:=omega) only[wp,qa,qb,qc,gl,ml,e1,e3,e4,hg,hm,hk1]
   exact ⟨_,rfl,hm⟩
def coI (c:List Int) (i k:Nat):List (Int × Int):=(List.range k).flatMap fun m => if i < m then [(c.getD i 0,c.getD m 0)] else []
theorem coI_succ {c:List Int} {i k:Nat} (h:i < k):coI c i (k + 1) = coI c i k ++ [(c.getD i 0,c.getD k 0)]:=by simp[coI,List.range_succ,h]
theorem coI_0 (c:List Int) (i:Nat):coI c i (i + 1) = []:=by
 unfold coI
 rw[List.flatMap_eq_nil_iff]
 intro m hm
 rw[if_neg (by have:=List.mem_range.1 hm;omega)]
def coJ (c:List Int) (i:Nat):List (Int × Int):=(List.range i).flatMap fun j => coI c j c.length
theorem coJ_succ (c i):coJ c (i + 1) = coJ c i ++ coI c i c.length:=by simp[coJ,List.range_succ]
def coX (X:Gr) (l:Nat):List (Int × Int):=(List.range l).flatMap fun j => coJ (X.co.getD j []) (X.co.getD j []).length
theorem coX_succ (X l):coX X (l + 1) = coX X l ++ coJ (X.co.getD l []) (X.co.getD l []).length:=by simp[coX,List.range_succ]
theorem sp_mCo (h70:F 70 = some A_xref09_Co) (h27:F 27 = some A_xref01_New) {X:Gr} (hn:X.evs.length≤40) (hl:X.co.length≤1000) (hc:∀ j,j < X.co.length→(X.co.getD j []).length≤1000∧∀ i,i < (X.co.getD j []).length→0≤(X.co.getD j []).getD i 0∧(X.co.getD j []).getD i 0 < 40):pureS F 70 [.agg (grC X)] = some (.ptr (matC X.evs.length (anyM (coX X X.co.length)))):=by
 refine pure_of_thaw h70 (matC_flat _ _) ?_
 simp (disch:=omega) only[A_xref09_Co,wp,qa,qb,qc,gl,ml,thaw27 h27]
 refine W_loop (fun q e g => ∃ j:Nat,q = X.co.length - j∧j≤X.co.length∧e 1 = .mp 0 0∧e 3 = .mp 5 0∧e 4 = .i .i64 j∧g.hp 0 = some (.cells (grC X) false)∧g.hp 5 = some (.cells (matC X.evs.length (anyM (coX X j))) false)∧5 < g.nx) X.co.length ?_ ?_
 ·refine ⟨0,rfl,Nat.zero_le _,?_⟩
  simp (disch:=omega) only[wp,qa,qb,qc]
  exact ⟨rfl,rfl,by first | omega | (dsimp only;omega)⟩
 ·rintro q e g ⟨j,rfl,hj,e1,e3,e4,hg,hm,hnx⟩
  by_cases hj':j < X.co.length
  ·have hj1:(j:Int) < X.co.length:=by omega
   have hwj:=succ_wrap (k:=j) (by omega)
   have hp:=co_part hj'
   have hs:=coX_succ X j
   obtain ⟨hcl,hcr⟩:=hc j hj'
   generalize X.co.getD j [] = c at hp hs hcl hcr
   generalize coX X j = L at hm hs
   simp (disch:=omega) only[wp,qa,qb,qc,gl,ml,e1,e3,e4,hg,hm,hj1]
   refine W_loop (fun q e g => ∃ i:Nat,q = c.length - i∧i≤c.length∧e 1 = .mp 0 0∧e 3 = .mp 5 0∧e 4 = .i .i64 j∧e 5 = .i .i64 i∧g.hp 0 = some (.cells (grC X) false)∧g.hp 5 = some (.cells (matC X.evs.length (anyM (L ++ coJ c i))) false)∧5 < g.nx) c.length ?_ ?_
   ·refine ⟨0,rfl,Nat.zero_le _,?_⟩
    simp (disch:=omega) only[wp,qa,qb,qc,e1,e3,e4]
    exact ⟨rfl,hg,by rw[hm];simp[coJ],by first | omega | (dsimp only;omega)⟩
   ·rintro q e g ⟨i,rfl,hi,e1,e3,e4,e5,hg,hm,hnx⟩
    by_cases hi':i < c.length
    ·have hi1:(i:Int) < c.length:=by omega
     have hwi:=succ_wrap (k:=i) (by omega)
     have hip:=ints_part hi'
     have hsJ:=coJ_succ c i
     have ⟨ha0,ha1⟩:=hcr i hi'
     generalize hLJ:L ++ coJ c i = LJ at hm
     have hsJ':L ++ coJ c (i + 1) = LJ ++ coI c i c.length:=by rw[hsJ,←List.append_assoc,hLJ]
     simp (disch:=omega) only[wp,qa,qb,qc,gl,ml,e1,e3,e4,e5,hg,hm,hj1,hp,hi1,hwi]
     refine W_loop (fun q e g => ∃ k:Nat,q = c.length - k∧i < k∧k≤c.length∧e 1 = .mp 0 0∧e 3 = .mp 5 0∧e 4 = .i .i64 j∧e 5 = .i .i64 i∧e 6 = .i .i64 k∧g.hp 0 = some (.cells (grC X) false)∧g.hp 5 = some (.cells (matC X.evs.length (anyM (LJ ++ coI c i k))) false)∧5 < g.nx) (c.length - (i + 1)) ?_ ?_
     ·refine ⟨i + 1,rfl,by omega,by omega,?_⟩
      simp (disch:=omega) only[wp,qa,qb,qc,e1,e3,e4,e5,coI_0,List.append_nil]
      exact ⟨hg,hm,by first | omega | (dsimp only;omega)⟩
     ·rintro q e g ⟨k,rfl,hik,hk,e1,e3,e4,e5,e6,hg,hm,hnx⟩
      by_cases hk':k < c.length
      ·have hk1:(k:Int) < c.length:=by omega
       have hwk:=succ_wrap (k:=k) (by omega)
       have hkp:=ints_part hk'
       have hsI:=coI_succ (c:=c) hik
       have ⟨hb0,hb1⟩:=hcr k hk'
       generalize hLI:LJ ++ coI c i k = LI at hm
       have hsI':LJ ++ coI c i (k + 1) = LI ++ [(c.getD i 0,c.getD k 0)]:=by rw[hsI,←List.append_assoc,hLI]
       generalize c.getD i 0 = va at hip ha0 ha1 hsI'
       generalize c.getD k 0 = vb at hkp hb0 hb1 hsI'
       have hadd:=anyM_add LI ha0 hb0
       have hset:=matC_set (n:=X.evs.length) (M:=anyM LI) (a:=va.toNat) (b:=vb.toNat) (x:=true) (by omega)
       rw[hadd,←hsI'] at hset
       simp (disch:=omega) only[wp,qa,qb,qc,gl,ml,e1,e3,e4,e5,e6,hg,hm,hj1,hp,hi1,hk1,hip,hkp,hwk,hset]
       exact ⟨c.length - (k + 1),by omega,k + 1,rfl,by omega,by omega,rfl,rfl,by first | omega | (dsimp only;omega)⟩
      ·obtain rfl:k = c.length:=by omega
       have hk1:¬ ((c.length:Int) < c.length):=by omega
       simp (disch:=omega) only[wp,qa,qb,qc,gl,ml,e1,e3,e4,e5,e6,hg,hm,hj1,hp,hk1,hwi]
       exact ⟨c.length - (i + 1),by omega,i + 1,rfl,by omega,rfl,by rw[hsJ'],by first | omega | (dsimp only;omega)⟩
    ·obtain rfl:i = c.length:=by omega
     have hi1:¬ ((c.length:Int) < c.length):=by omega
     simp (disch:=omega) only[wp,qa,qb,qc,gl,ml,e1,e3,e4,e5,hg,hm,hj1,hp,hi1,hwj]
     exact ⟨X.co.length - (j + 1),by omega,j + 1,rfl,by omega,rfl,by rw[hs],by first | omega | (dsimp only;omega)⟩
  ·obtain rfl:j = X.co.length:=by omega
   have hj1:¬ ((X.co.length:Int) < X.co.length):=by omega
   simp (disch:=omega) only[wp,qa,qb,qc,gl,ml,e1,e3,e4,hg,hm,hj1]
   exact ⟨_,rfl,hm⟩
end Go.Ab
end
section
set_option linter.unusedVariables false
set_option linter.unusedSimpArgs false
namespace Go.Ab
variable {F:Funs}
def frM (n:Nat) (A C:Mx):Mx:=thM (bkM A n n 0) C n n
def comM (n:Nat) (A C:Mx):Mx:=opM (fun x y => x || y) (opM (fun x y => x || y) A C n) (frM n A C) n
theorem sp_mFr (h71:F 71 = some A_xref09_Fr) (h27:F 27 = some A_xref01_New) (h32:F 32 = some A_xref01_R_Then) (h33:F 33 = some A_xref01_R_Back) {X:Gr} {n:Nat} (hn:n≤40) {A C:Mx} (hA:pureS F 69 [.agg (grC X)] = some (.ptr (matC n A))) (hC:pureS F 70 [.agg (grC X)] = some (.ptr (matC n C))):pureS F 71 [.agg (grC X)] = some (.ptr (matC n (frM n A C))):=by
 refine pure_of h71 ?_
 simp (disch:=omega) only[A_xref09_Fr,wp,qa,qb,qc,gl,hA,hC,sp_mback h33 h27 hn,sp_mthen h32 h27 hn hn,Nat.max_self]
 rfl
theorem sp_mCom (h83:F 83 = some A_xref09_Com) (h27:F 27 = some A_xref01_New) (h29:F 29 = some A_xref01_R_Or) {X:Gr} {n:Nat} (hn:n≤40) {A C:Mx} (hA:pureS F 69 [.agg (grC X)] = some (.ptr (matC n A))) (hC:pureS F 70 [.agg (grC X)] = some (.ptr (matC n C))) (hF:pureS F 71 [.agg (grC X)] = some (.ptr (matC n (frM n A C)))):pureS F 83 [.agg (grC X)] = some (.ptr (matC n (comM n A C))):=by
 refine pure_of h83 ?_
 simp (disch:=omega) only[A_xref09_Com,wp,qa,qb,qc,gl,hA,hC,hF,sp_mor h29 h27 hn hn,Nat.max_self]
 rfl
theorem sp_mEco (h72:F 72 = some A_xref09_Eco) (h27:F 27 = some A_xref01_New) (h34:F 34 = some A_xref01_R_Plus) {X:Gr} {n:Nat} (hn:n≤40) {M:Mx} (hM:pureS F 83 [.agg (grC X)] = some (.ptr (matC n M))):pureS F 72 [.agg (grC X)] = some (.ptr (matC n (plM n M n))):=by
 refine pure_of h72 ?_
 simp (disch:=omega) only[A_xref09_Eco,wp,qa,qb,qc,gl,hM,sp_mplus h34 h27 hn]
def stU (φ:Nat→Nat→Bool) (n a b:Nat):Mx:=fun i j => if (i < a∧i < j∧j < n)∨(i = a∧i < j∧j < b) then φ i j else false
theorem stU_succ {φ:Nat→Nat→Bool} {n a b:Nat} (h:a < b):upd2 (stU φ n a b) a b (φ a b) = stU φ n a (b + 1):=by
 funext i j
 unfold upd2 stU
 by_cases h1:i = a∧j = b
 ·obtain ⟨rfl,rfl⟩:=h1
  rw[if_pos ⟨rfl,rfl⟩,if_pos (by omega)]
 ·rw[if_neg h1]
  by_cases h2:(i < a∧i < j∧j < n)∨(i = a∧i < j∧j < b)
  ·rw[if_pos h2,if_pos (by omega)]
  ·rw[if_neg h2,if_neg (by omega)]
theorem stU_row (φ:Nat→Nat→Bool) (n a:Nat):stU φ n a n = stU φ n (a + 1) (a + 1 + 1):=by
 funext i j
 unfold stU
 by_cases h2:(i < a∧i < j∧j < n)∨(i = a∧i < j∧j < n)
 ·rw[if_pos h2,if_pos (by omega)]
 ·rw[if_neg h2,if_neg (by omega)]
theorem stU_0 (φ:Nat→Nat→Bool) (n:Nat):stU φ n 0 (0 + 1) = fun _ _ => false:=by
 funext i j;unfold stU;rw[if_neg (by omega)]
def thI (X:Gr) (i:Nat):Int:=(X.evs.getD i ev0).th
def poV (X:Gr) (i j:Nat):Bool:=(thI X i == 0 && decide (0 < thI X j)) || (decide (0 < thI X i) && thI X i == thI X j)
theorem po_W (h27:F 27 = some A_xref01_New) {X:Gr} (hn:X.evs.length≤40):W F A_xref06_Po.body (argEnv [.agg (grC X)]) g0 (retT A_xref06_Po.res (matC X.evs.length (stU (poV X) X.evs.length X.evs.length (X.evs.length + 1)))):=by
 simp (disch:=omega) only[A_xref06_Po,wp,qa,qb,qc,gl,ml,thaw27 h27]
 refine W_loop (fun q e g => ∃ a:Nat,q = X.evs.length - a∧a≤X.evs.length∧e 1 = .mp 0 0∧e 3 = .mp 5 0∧e 4 = .i .i64 a∧g.hp 0 = some (.cells (grC X) false)∧g.hp 5 = some (.cells (matC X.evs.length (stU (poV X) X.evs.length a (a + 1))) false)∧5 < g.nx) X.evs.length ?_ ?_
 ·refine ⟨0,rfl,Nat.zero_le _,?_⟩
  simp (disch:=omega) only[wp,qa,qb,qc]
  exact ⟨rfl,by rw[stU_0],by first | omega | (dsimp only;omega)⟩
 ·rintro q e g ⟨a,rfl,ha,e1,e3,e4,hg,hm,hnx⟩
  by_cases ha':a < X.evs.length
  ·have ha1:(a:Int) < X.evs.length:=by omega
   have hwa:=succ_wrap (k:=a) (by omega)
   simp (disch:=omega) only[wp,qa,qb,qc,gl,ml,e1,e3,e4,hg,hm,ha1,hwa]
   refine W_loop (fun q e g => ∃ b:Nat,q = X.evs.length - b∧a < b∧b≤X.evs.length∧e 1 = .mp 0 0∧e 3 = .mp 5 0∧e 4 = .i .i64 a∧e 5 = .i .i64 b∧g.hp 0 = some (.cells (grC X) false)∧g.hp 5 = some (.cells (matC X.evs.length (stU (poV X) X.evs.length a b)) false)∧5 < g.nx) (X.evs.length - (a + 1)) ?_ ?_
   ·refine ⟨a + 1,rfl,by omega,by omega,?_⟩
    simp (disch:=omega) only[wp,qa,qb,qc,e1,e3,e4]
    exact ⟨hg,hm,by first | omega | (dsimp only;omega)⟩
   ·rintro q e g ⟨b,rfl,hab,hb,e1,e3,e4,e5,hg,hm,hnx⟩
    by_cases hb':b < X.evs.length
    ·have hb1:(b:Int) < X.evs.length:=by omega
     have hwb:=succ_wrap (k:=b) (by omega)
     have tA:=ev_th_at ha'
     have tB:=ev_th_at hb'
     have dA:(List.drop (a * 6) (evsC X.evs)).length = X.evs.length * 6 - a * 6:=by rw[List.length_drop,evsC_len]
     have dB:(List.drop (b * 6) (evsC X.evs)).length = X.evs.length * 6 - b * 6:=by rw[List.length_drop,evsC_len]
     have hv:poV X a b = ((thI X a == 0 && decide (0 < thI X b)) || (decide (0 < thI X a) && thI X a == thI X b)):=rfl
     have hs:=stU_succ (φ:=poV X) (n:=X.evs.length) hab
     have hset:=fun x => matC_set (n:=X.evs.length) (M:=stU (poV X) X.evs.length a b) (a:=a) (b:=b) (x:=x) (by omega)
     unfold thI at hv
     generalize (X.evs.getD a ev0).th = ta at tA hv
     generalize (X.evs.getD b ev0).th = tb at tB hv
     generalize poV X a b = v at hs hv
     have fin:∀ x,x = v→X.evs.length - (b + 1) < X.evs.length - b∧upd2 (stU (poV X) X.evs.length a b) a b x = stU (poV X) X.evs.length a (b + 1):=fun x hx => ⟨by omega,by rw[hx,hs]⟩
     cases c1:(ta == 0)
     case true =>
      by_cases c2:0 < tb
      case pos =>
       simp (disch:=omega) only[wp,qa,qb,qc,gl,ml,e1,e3,e4,e5,hg,hm,hb1,tA,tB,dA,dB,c1,c2,hset,hwb]
       obtain ⟨f1,f2⟩:=fin true (by rw[hv,c1,decide_eq_true c2];rfl)
       exact ⟨_,f1,b + 1,rfl,by omega,by omega,rfl,by rw[f2],by first | omega | (dsimp only;omega)⟩
      have c3:¬ 0 < ta:=by have:ta = 0:=by simpa using c1
                           omega
      simp (disch:=omega) only[wp,qa,qb,qc,gl,ml,e1,e3,e4,e5,hg,hm,hb1,tA,tB,dA,dB,c1,c2,c3,hset,hwb]
      obtain ⟨f1,f2⟩:=fin false (by rw[hv,c1,decide_eq_false c2,decide_eq_false c3];rfl)
      exact ⟨_,f1,b + 1,rfl,by omega,by omega,rfl,by rw[f2],by first | omega | (dsimp only;omega)⟩
     by_cases c3:0 < ta
     case neg =>
      simp (disch:=omega) only[wp,qa,qb,qc,gl,ml,e1,e3,e4,e5,hg,hm,hb1,tA,tB,dA,dB,c1,c3,hset,hwb]
      obtain ⟨f1,f2⟩:=fin false (by rw[hv,c1,decide_eq_false c3];rfl)
      exact ⟨_,f1,b + 1,rfl,by omega,by omega,rfl,by rw[f2],by first | omega | (dsimp only;omega)⟩
     simp (disch:=omega) only[wp,qa,qb,qc,gl,ml,e1,e3,e4,e5,hg,hm,hb1,tA,tB,dA,dB,c1,c3,hset,hwb]
     obtain ⟨f1,f2⟩:=fin (ta == tb) (by rw[hv,c1,decide_eq_true c3];simp)
     exact ⟨_,f1,b + 1,rfl,by omega,by omega,rfl,by rw[f2],by first | omega | (dsimp only;omega)⟩
    ·obtain rfl:b = X.evs.length:=by omega
     have hb1:¬ ((X.evs.length:Int) < X.evs.length):=by omega
     simp (disch:=omega) only[wp,qa,qb,qc,gl,ml,e1,e3,e4,e5,hg,hm,hb1,hwa]
     exact ⟨X.evs.length - (a + 1),by omega,a + 1,rfl,by omega,rfl,by rw[stU_row],by first | omega | (dsimp only;omega)⟩
  ·obtain rfl:a = X.evs.length:=by omega
   have ha1:¬ ((X.evs.length:Int) < X.evs.length):=by omega
   simp (disch:=omega) only[wp,qa,qb,qc,gl,ml,e1,e3,e4,hg,hm,ha1]
   exact ⟨_,rfl,hm⟩
def mpoM (X:Gr):Mx:=stU (poV X) X.evs.length X.evs.length (X.evs.length + 1)
theorem sp_mPo (h84:F 84 = some A_xref06_Po) (h27:F 27 = some A_xref01_New) {X:Gr} (hn:X.evs.length≤40):pureS F 84 [.agg (grC X)] = some (.ptr (matC X.evs.length (mpoM X))):=pure_of_thaw h84 (matC_flat _ _) (po_W h27 hn)
theorem thaw84 (h84:F 84 = some A_xref06_Po) (h27:F 27 = some A_xref01_New) {X:Gr} (hn:X.evs.length≤40) (al:Nat→Bool) (id:Nat) (g:G):vThaw F al id (.fn 84 [] []) [.agg (grC X)] g = some (.mp id 0,⟨upd g.hp id (some (.cells (matC X.evs.length (mpoM X)) false)),g.nx⟩):=
 vThaw_S (bs:=[.agg (grC X)]) (by simp only[frzL_cons,frz_gr,frzL_nil,consO_ok]) (thaw_of h84 (matC_flat _ _) (po_W h27 hn)) (by simp only[List.flatMap_cons,List.flatMap_nil,vis_gr,List.append_nil])
end Go.Ab
end
section
set_option linter.unusedVariables false
set_option linter.unusedSimpArgs false
namespace Go.Ab
variable {F:Funs}
def stK (M:Mx) (φ:Nat→Nat→Bool) (n a b:Nat):Mx:=fun i j => if (i < a∧j < n)∨(i = a∧j < b) then M i j && φ i j else M i j
theorem stK_succ (M φ n a b):upd2 (stK M φ n a b) a b (M a b && φ a b) = stK M φ n a (b + 1):=by
 funext i j
 unfold upd2 stK
 by_cases h1:i = a∧j = b
 ·obtain ⟨rfl,rfl⟩:=h1
  rw[if_pos ⟨rfl,rfl⟩,if_pos (by omega)]
 ·rw[if_neg h1]
  by_cases h2:(i < a∧j < n)∨(i = a∧j < b)
  ·rw[if_pos h2,if_pos (by omega)]
  ·rw[if_neg h2,if_neg (by omega)]
theorem stK_row (M φ n a):stK M φ n a n = stK M φ n (a + 1) 0:=by
 funext i j
 unfold stK
 by_cases h2:(i < a∧j < n)∨(i = a∧j < n)
 ·rw[if_pos h2,if_pos (by omega)]
 ·rw[if_neg h2,if_neg (by omega)]
theorem stK_0 (M φ n):stK M φ n 0 0 = M:=by funext i j;unfold stK;rw[if_neg (by omega)]
theorem stK_at (M φ n a b):stK M φ n a b a b = M a b:=by unfold stK;rw[if_neg (by omega)]
def locV (X:Gr) (i j:Nat):Bool:=(X.evs.getD i ev0).kd != 3 && ((X.evs.getD j ev0).kd != 3 && (X.evs.getD i ev0).lc == (X.evs.getD j ev0).lc)
def locM (X:Gr):Mx:=stK (mpoM X) (locV X) X.evs.length X.evs.length 0
theorem sp_mLoc (h73:F 73 = some A_xref09_Loc) (h84:F 84 = some A_xref06_Po) (h27:F 27 = some A_xref01_New) {X:Gr} (hn:X.evs.length≤40):pureS F 73 [.agg (grC X)] = some (.ptr (matC X.evs.length (locM X))):=by
 refine pure_of_thaw h73 (matC_flat _ _) ?_
 have s6:∀ b1 b2 b3 b4 b5 b6 c1 c2 c3 c4 c5 c6:AV,splice [b1,b2,b3,b4,b5,b6] 0 [c1,c2,c3,c4,c5,c6] = [c1,c2,c3,c4,c5,c6]:=fun _ _ _ _ _ _ _ _ _ _ _ _ => rfl
 simp (disch:=omega) only[A_xref09_Loc,wp,qa,qb,qc,gl,ml,thaw84 h84 h27 hn]
 generalize hM0:mpoM X = M0
 have hloc:locM X = stK M0 (locV X) X.evs.length X.evs.length 0:=by unfold locM;rw[hM0]
 refine W_loop (fun q e g => ∃ a:Nat,q = X.evs.length - a∧a≤X.evs.length∧e 1 = .mp 0 0∧e 3 = .mp 3 0∧e 4 = .i .i64 a∧g.hp 0 = some (.cells (grC X) false)∧g.hp 3 = some (.cells (matC X.evs.length (stK M0 (locV X) X.evs.length a 0)) false)∧3 < g.nx) X.evs.length ?_ ?_
 ·refine ⟨0,rfl,Nat.zero_le _,?_⟩
  simp (disch:=omega) only[wp,qa,qb,qc]
  exact ⟨rfl,by rw[stK_0],by first | omega | (dsimp only;omega)⟩
 ·rintro q e g ⟨a,rfl,ha,e1,e3,e4,hg,hm,hnx⟩
  by_cases ha':a < X.evs.length
  ·have ha1:(a:Int) < X.evs.length:=by omega
   have hwa:=succ_wrap (k:=a) (by omega)
   simp (disch:=omega) only[wp,qa,qb,qc,gl,ml,e1,e3,e4,hg,hm,ha1]
   refine W_loop (fun q e g => ∃ b:Nat,q = X.evs.length - b∧b≤X.evs.length∧e 1 = .mp 0 0∧e 3 = .mp 3 0∧e 4 = .i .i64 a∧e 5 = .i .i64 b∧g.hp 0 = some (.cells (grC X) false)∧g.hp 3 = some (.cells (matC X.evs.length (stK M0 (locV X) X.evs.length a b)) false)∧3 < g.nx) X.evs.length ?_ ?_
   ·refine ⟨0,rfl,Nat.zero_le _,?_⟩
    simp (disch:=omega) only[wp,qa,qb,qc,e1,e3,e4]
    exact ⟨rfl,hg,hm,by first | omega | (dsimp only;omega)⟩
   ·rintro q e g ⟨b,rfl,hb,e1,e3,e4,e5,hg,hm,hnx⟩
    by_cases hb':b < X.evs.length
    ·have hb1:(b:Int) < X.evs.length:=by omega
     have hwb:=succ_wrap (k:=b) (by omega)
     have pa:=ev_part ha'
     have pb:=ev_part hb'
     have hv:locV X a b = ((X.evs.getD a ev0).kd != 3 && ((X.evs.getD b ev0).kd != 3 && (X.evs.getD a ev0).lc == (X.evs.getD b ev0).lc)):=rfl
     have hs:=stK_succ M0 (locV X) X.evs.length a b
     have hat:=stK_at M0 (locV X) X.evs.length a b
     have hset:=fun x => matC_set (n:=X.evs.length) (M:=stK M0 (locV X) X.evs.length a b) (a:=a) (b:=b) (x:=x) (by omega)
     generalize X.evs.getD a ev0 = u at pa hv
     generalize X.evs.getD b ev0 = v at pb hv
     obtain ⟨th,kd,md,lc,vl,ex⟩:=u
     obtain ⟨th',kd',md',lc',vl',ex'⟩:=v
     simp only at hv
     generalize locV X a b = z at hs hv
     have fin:∀ x,x = (M0 a b && z)→X.evs.length - (b + 1) < X.evs.length - b∧upd2 (stK M0 (locV X) X.evs.length a b) a b x = stK M0 (locV X) X.evs.length a (b + 1):=fun x hx => ⟨by omega,by rw[hx,hs]⟩
     cases c0:M0 a b
     case false =>
      rw[c0] at hat
      simp (disch:=omega) only[wp,qa,qb,qc,gl,ml,e1,e3,e4,e5,hg,hm,ha1,hb1,pa,pb,s6,hat,c0,hset,hwb]
      obtain ⟨f1,f2⟩:=fin false (by rw[c0];rfl)
      exact ⟨_,f1,b + 1,rfl,by omega,rfl,by rw[f2],by first | omega | (dsimp only;omega)⟩
     rw[c0] at hat
     cases c1:(kd != 3)
     case false =>
      simp (disch:=omega) only[wp,qa,qb,qc,gl,ml,e1,e3,e4,e5,hg,hm,ha1,hb1,pa,pb,s6,hat,c0,c1,hset,hwb]
      obtain ⟨f1,f2⟩:=fin false (by rw[c0,hv,c1];rfl)
      exact ⟨_,f1,b + 1,rfl,by omega,rfl,by rw[f2],by first | omega | (dsimp only;omega)⟩
     cases c2:(kd' != 3)
     case false =>
      simp (disch:=omega) only[wp,qa,qb,qc,gl,ml,e1,e3,e4,e5,hg,hm,ha1,hb1,pa,pb,s6,hat,c0,c1,c2,hset,hwb]
      obtain ⟨f1,f2⟩:=fin false (by rw[c0,hv,c1,c2];rfl)
      exact ⟨_,f1,b + 1,rfl,by omega,rfl,by rw[f2],by first | omega | (dsimp only;omega)⟩
     simp (disch:=omega) only[wp,qa,qb,qc,gl,ml,e1,e3,e4,e5,hg,hm,ha1,hb1,pa,pb,s6,hat,c0,c1,c2,hset,hwb]
     obtain ⟨f1,f2⟩:=fin (lc == lc') (by rw[c0,hv,c1,c2];simp)
     exact ⟨_,f1,b + 1,rfl,by omega,rfl,by rw[f2],by first | omega | (dsimp only;omega)⟩
    ·obtain rfl:b = X.evs.length:=by omega
     have hb1:¬ ((X.evs.length:Int) < X.evs.length):=by omega
     simp (disch:=omega) only[wp,qa,qb,qc,gl,ml,e1,e3,e4,e5,hg,hm,hb1,hwa]
     exact ⟨X.evs.length - (a + 1),by omega,a + 1,rfl,by omega,rfl,by rw[stK_row],by first | omega | (dsimp only;omega)⟩
  ·obtain rfl:a = X.evs.length:=by omega
   have ha1:¬ ((X.evs.length:Int) < X.evs.length):=by omega
   simp (disch:=omega) only[wp,qa,qb,qc,gl,ml,e1,e3,e4,hg,hm,ha1,hloc]
   exact ⟨_,rfl,hm⟩
def thV (X:Gr) (one:Bool):Mx:=fun i j => (thI X i == thI X j) == one
def prtM (X:Gr) (one:Bool) (A:Mx):Mx:=opM (fun x y => x && y) A (thV X one) X.evs.length
theorem sp_mpart (h85:F 85 = some A_xref09_part) (h27:F 27 = some A_xref01_New) {X:Gr} (hn:X.evs.length≤40) (A:Mx) (one:Bool):pureS F 85 [.agg (grC X),.ptr (matC X.evs.length A),.b one] = some (.ptr (matC X.evs.length (prtM X one A))):=by
 refine pure_of_thaw h85 (matC_flat _ _) ?_
 have fin0:prtM X one A = stM (fun x y => x && y) A (thV X one) X.evs.length X.evs.length 0:=rfl
 simp (disch:=omega) only[A_xref09_part,wp,qa,qb,qc,gl,ml,thaw27 h27]
 generalize hB:thV X one = B at fin0
 refine W_loop (fun q e g => ∃ a:Nat,q = X.evs.length - a∧a≤X.evs.length∧e 1 = .ptr (matC X.evs.length A)∧e 2 = .b one∧e 3 = .mp 0 0∧e 7 = .mp 6 0∧e 8 = .i .i64 a∧g.hp 0 = some (.cells (grC X) false)∧g.hp 6 = some (.cells (matC X.evs.length (stM (fun x y => x && y) A B X.evs.length a 0)) false)∧6 < g.nx) X.evs.length ?_ ?_
 ·refine ⟨0,rfl,Nat.zero_le _,?_⟩
  simp (disch:=omega) only[wp,qa,qb,qc]
  exact ⟨rfl,by rw[stM_0],by first | omega | (dsimp only;omega)⟩
 ·rintro q e g ⟨a,rfl,ha,e1,e2,e3,e7,e8,hg,hm,hnx⟩
  by_cases ha':a < X.evs.length
  ·have ha1:(a:Int) < X.evs.length:=by omega
   have hwa:=succ_wrap (k:=a) (by omega)
   simp (disch:=omega) only[wp,qa,qb,qc,gl,ml,e1,e2,e3,e7,e8,hg,hm,ha1]
   refine W_loop (fun q e g => ∃ b:Nat,q = X.evs.length - b∧b≤X.evs.length∧e 1 = .ptr (matC X.evs.length A)∧e 2 = .b one∧e 3 = .mp 0 0∧e 7 = .mp 6 0∧e 8 = .i .i64 a∧e 9 = .i .i64 b∧g.hp 0 = some (.cells (grC X) false)∧g.hp 6 = some (.cells (matC X.evs.length (stM (fun x y => x && y) A B X.evs.length a b)) false)∧6 < g.nx) X.evs.length ?_ ?_
   ·refine ⟨0,rfl,Nat.zero_le _,?_⟩
    simp (disch:=omega) only[wp,qa,qb,qc,e1,e2,e3,e7,e8]
    exact ⟨rfl,hg,hm,by first | omega | (dsimp only;omega)⟩
   ·rintro q e g ⟨b,rfl,hb,e1,e2,e3,e7,e8,e9,hg,hm,hnx⟩
    by_cases hb':b < X.evs.length
    ·have hb1:(b:Int) < X.evs.length:=by omega
     have hwb:=succ_wrap (k:=b) (by omega)
     have tA:=ev_th_at ha'
     have tB:=ev_th_at hb'
     have dA:(List.drop (a * 6) (evsC X.evs)).length = X.evs.length * 6 - a * 6:=by rw[List.length_drop,evsC_len]
     have dB:(List.drop (b * 6) (evsC X.evs)).length = X.evs.length * 6 - b * 6:=by rw[List.length_drop,evsC_len]
     have hv:B a b = (((X.evs.getD a ev0).th == (X.evs.getD b ev0).th) == one):=by rw[←hB];rfl
     have hs:=stM_succ (fun x y => x && y) A B X.evs.length a b
     have hset:=fun x => matC_set (n:=X.evs.length) (M:=stM (fun x y => x && y) A B X.evs.length a b) (a:=a) (b:=b) (x:=x) (by omega)
     generalize (X.evs.getD a ev0).th = ta at tA hv
     generalize (X.evs.getD b ev0).th = tb at tB hv
     have fin:∀ x,x = (A a b && B a b)→X.evs.length - (b + 1) < X.evs.length - b∧upd2 (stM (fun x y => x && y) A B X.evs.length a b) a b x = stM (fun x y => x && y) A B X.evs.length a (b + 1):=fun x hx => ⟨by omega,by rw[hx];exact hs⟩
     cases c0:A a b
     case false =>
      simp (disch:=omega) only[wp,qa,qb,qc,gl,ml,e1,e2,e3,e7,e8,e9,hg,hm,ha1,hb1,tA,tB,dA,dB,c0,hset,hwb]
      obtain ⟨f1,f2⟩:=fin false (by rw[c0];rfl)
      exact ⟨_,f1,b + 1,rfl,by omega,rfl,by rw[f2],by first | omega | (dsimp only;omega)⟩
     simp (disch:=omega) only[wp,qa,qb,qc,gl,ml,e1,e2,e3,e7,e8,e9,hg,hm,ha1,hb1,tA,tB,dA,dB,c0,hset,hwb]
     obtain ⟨f1,f2⟩:=fin ((ta == tb) == one) (by rw[c0,hv];rfl)
     exact ⟨_,f1,b + 1,rfl,by omega,rfl,by rw[f2],by first | omega | (dsimp only;omega)⟩
    ·obtain rfl:b = X.evs.length:=by omega
     have hb1:¬ ((X.evs.length:Int) < X.evs.length):=by omega
     simp (disch:=omega) only[wp,qa,qb,qc,gl,ml,e1,e2,e3,e7,e8,e9,hg,hm,hb1,hwa]
     exact ⟨X.evs.length - (a + 1),by omega,a + 1,rfl,by omega,rfl,by rw[stM_row],by first | omega | (dsimp only;omega)⟩
  ·obtain rfl:a = X.evs.length:=by omega
   have ha1:¬ ((X.evs.length:Int) < X.evs.length):=by omega
   simp (disch:=omega) only[wp,qa,qb,qc,gl,ml,e1,e2,e3,e7,e8,hg,hm,ha1,fin0]
   exact ⟨_,rfl,hm⟩
theorem sp_mInner (h74:F 74 = some A_xref09_Inner) (h85:F 85 = some A_xref09_part) (h27:F 27 = some A_xref01_New) {X:Gr} (hn:X.evs.length≤40) (A:Mx):pureS F 74 [.agg (grC X),.ptr (matC X.evs.length A)] = some (.ptr (matC X.evs.length (prtM X true A))):=by
 refine pure_of h74 ?_
 simp (disch:=omega) only[A_xref09_Inner,wp,qa,qb,qc,gl,sp_mpart h85 h27 hn]
theorem sp_mOuter (h75:F 75 = some A_xref09_Outer) (h85:F 85 = some A_xref09_part) (h27:F 27 = some A_xref01_New) {X:Gr} (hn:X.evs.length≤40) (A:Mx):pureS F 75 [.agg (grC X),.ptr (matC X.evs.length A)] = some (.ptr (matC X.evs.length (prtM X false A))):=by
 refine pure_of h75 ?_
 simp (disch:=omega) only[A_xref09_Outer,wp,qa,qb,qc,gl,sp_mpart h85 h27 hn]
end Go.Ab
end
section
set_option linter.unusedVariables false
set_option linter.unusedSimpArgs false
namespace Go.Ab
variable {F:Funs}
theorem GraphOk.nOf {X:Gr} (h:GraphOk X):nOf X = X.evs.length:=by
 have:=h.n40
 unfold Go.Ab.nOf clamp;omega
theorem hb_newM {n:Nat} (hn:n≤40) (L:List (Int × Int)) {a b:Nat} (ha:a < n) (hb':b < n):hb (newR n L) a b = anyM L a b:=by
 rw[hb_new hn,decide_eq_true ha,decide_eq_true hb',Bool.true_and,Bool.true_and];rfl
theorem sameL {n:Nat} (hn:n≤40) {L L':List (Int × Int)} (h:∀ a b:Nat,a < n→b < n→(((a:Int),(b:Int))∈L↔((a:Int),(b:Int))∈L')) {a b:Nat} (ha:a < n) (hb':b < n):anyM L a b = hb (newR n L') a b:=by
 rw[hb_newM hn _ ha hb',Bool.eq_iff_iff,anyM_mem,anyM_mem]
 exact h a b ha hb'
theorem aft_spec (w:Int) (c:List Int):∀ k,k≤c.length→(∀ b,b∈(aft w (c.take k)).1↔∃ i m,i < m∧m < k∧c.getD i 0 = w∧c.getD m 0 = b)∧((aft w (c.take k)).2 = true↔∃ i,i < k∧c.getD i 0 = w):=by
 intro k
 induction k with
 | zero => intro _;constructor
           ·intro b;simp[aft]
           ·simp[aft]
 | succ k ih =>
   intro hk
   obtain ⟨h1,h2⟩:=ih (by omega)
   rw[aft_take (by omega)]
   unfold aftS
   constructor
   ·intro b
    simp only
    cases hm:(aft w (c.take k)).2 with
    | true =>
      obtain ⟨i0,hi0,hw⟩:=h2.1 hm
      rw[if_pos rfl,List.mem_append,h1 b,List.mem_singleton]
      constructor
      ·rintro (⟨i,m,him,hmk,ha,hb'⟩ | rfl)
       ·exact ⟨i,m,him,by omega,ha,hb'⟩
       ·exact ⟨i0,k,hi0,by omega,hw,rfl⟩
      ·rintro ⟨i,m,him,hmk,ha,hb'⟩
       by_cases hmk':m = k
       ·right;subst hmk';exact hb'.symm
       ·left;exact ⟨i,m,him,by omega,ha,hb'⟩
    | false =>
      rw[if_neg (by simp),h1 b]
      constructor
      ·rintro ⟨i,m,him,hmk,ha,hb'⟩;exact ⟨i,m,him,by omega,ha,hb'⟩
      ·rintro ⟨i,m,him,hmk,ha,hb'⟩
       by_cases hmk':m = k
       ·have:=h2.2 ⟨i,by omega,ha⟩
        rw[hm] at this;cases this
       ·exact ⟨i,m,him,by omega,ha,hb'⟩
   ·simp only[Bool.or_eq_true,beq_iff_eq,h2]
    constructor
    ·rintro (⟨i,hi,hw⟩ | hw)
     ·exact ⟨i,by omega,hw⟩
     ·exact ⟨k,by omega,hw⟩
    ·rintro ⟨i,hi,hw⟩
     by_cases hik:i = k
     ·right;subst hik;exact hw
     ·left;exact ⟨i,by omega,hw⟩
theorem mem_aft {w:Int} {c:List Int} {b:Int}:b∈(aft w c).1↔∃ i m,i < m∧m < c.length∧c.getD i 0 = w∧c.getD m 0 = b:=by
 have:=(aft_spec w c c.length (Nat.le_refl _)).1 b
 rwa [List.take_length] at this
theorem mem_beh {a w x y:Int} {co:List (List Int)}:(x,y)∈behL a w co↔x = a∧∃ j i m,j < co.length∧i < m∧m < (co.getD j []).length∧(co.getD j []).getD i 0 = w∧(co.getD j []).getD m 0 = y:=by
 unfold behL
 simp only[List.mem_flatMap,List.mem_map,Prod.mk.injEq]
 constructor
 ·rintro ⟨c,hc,z,hz,rfl,rfl⟩
  obtain ⟨j,hj,rfl⟩:=List.getElem_of_mem hc
  obtain ⟨i,m,h1,h2,h3,h4⟩:=mem_aft.1 hz
  have e:co.getD j [] = co[j]:=by rw[List.getD_eq_getElem?_getD,List.getElem?_eq_getElem hj];rfl
  exact ⟨rfl,j,i,m,hj,h1,by rw[e];exact h2,by rw[e];exact h3,by rw[e];exact h4⟩
 ·rintro ⟨rfl,j,i,m,hj,h1,h2,h3,h4⟩
  have e:co.getD j [] = co[j]:=by rw[List.getD_eq_getElem?_getD,List.getElem?_eq_getElem hj];rfl
  rw[e] at h2 h3 h4
  exact ⟨co[j],List.getElem_mem hj,y,mem_aft.2 ⟨i,m,h1,h2,h3,h4⟩,rfl,rfl⟩
theorem mem_coX {X:Gr} {x y:Int}:(x,y)∈coX X X.co.length↔∃ j i m,j < X.co.length∧i < m∧m < (X.co.getD j []).length∧(X.co.getD j []).getD i 0 = x∧(X.co.getD j []).getD m 0 = y:=by
 unfold coX coJ coI
 simp only[List.mem_flatMap,List.mem_range]
 constructor
 ·rintro ⟨j,hj,i,hi,m,hm,h⟩
  by_cases him:i < m
  ·rw[if_pos him,List.mem_singleton,Prod.mk.injEq] at h
   exact ⟨j,i,m,hj,him,hm,h.1.symm,h.2.symm⟩
  ·rw[if_neg him] at h;cases h
 ·rintro ⟨j,i,m,hj,him,hm,h1,h2⟩
  exact ⟨j,hj,i,by omega,m,hm,by rw[if_pos him,h1,h2];exact List.mem_singleton.2 rfl⟩
section
variable {X:Gr} (h:GraphOk X)
include h
theorem GraphOk.rfr (i:Nat) (hi:i < X.evs.length):(0≤X.rf.getD i 0↔(X.evs.getD i ev0).kd = 1)∧X.rf.getD i 0 < X.evs.length:=by
 obtain ⟨h1,h2⟩:=h.rf i hi
 by_cases hk:(X.evs.getD i ev0).kd = 1
 ·obtain ⟨h3,h4,_⟩:=h2 hk
  exact ⟨⟨fun _ => hk,fun _ => h3⟩,h4⟩
 ·have:=h1 hk
  exact ⟨⟨fun h => by omega,fun h => absurd h hk⟩,by omega⟩
theorem GraphOk.cor (j:Nat) (hj:j < X.co.length) (i:Nat) (hi:i < (X.co.getD j []).length):0≤(X.co.getD j []).getD i 0∧(X.co.getD j []).getD i 0 < X.evs.length∧(X.evs.getD ((X.co.getD j []).getD i 0).toNat ev0).kd = 2:=by
 obtain ⟨h1,h2,h3,_⟩:=(h.co j hj).wr i hi
 exact ⟨h1,h2,h3⟩
theorem mem_rfL {x y:Int}:(x,y)∈rfL X X.rf.length↔∃ i:Nat,i < X.evs.length∧(X.evs.getD i ev0).kd = 1∧x = X.rf.getD i 0∧y = i:=by
 have hl:=h.rfl
 unfold rfL
 simp only[List.mem_flatMap,List.mem_range]
 constructor
 ·rintro ⟨i,hi,hh⟩
  by_cases h0:0≤X.rf.getD i 0
  ·rw[if_pos h0,List.mem_singleton,Prod.mk.injEq] at hh
   exact ⟨i,by omega,(h.rfr i (by omega)).1.1 h0,hh.1,hh.2⟩
  ·rw[if_neg h0] at hh;cases hh
 ·rintro ⟨i,hi,hk,rfl,rfl⟩
  exact ⟨i,by omega,by rw[if_pos ((h.rfr i hi).1.2 hk)];exact List.mem_singleton.2 rfl⟩
theorem mem_rfE {x y:Int}:(x,y)∈pairsE rfS X X.evs.length↔∃ i:Nat,i < X.evs.length∧(X.evs.getD i ev0).kd = 1∧x = X.rf.getD i 0∧y = i:=by
 have hl:=h.rfl
 unfold pairsE rfS
 simp only[List.mem_flatMap,List.mem_range]
 constructor
 ·rintro ⟨i,hi,hh⟩
  by_cases hk:(X.evs.getD i ev0).kd = 1
  ·rw[if_pos hk,List.mem_singleton,Prod.mk.injEq] at hh
   rw[wOf,if_pos (by omega)] at hh
   exact ⟨i,hi,hk,hh.1,hh.2⟩
  ·rw[if_neg hk] at hh;cases hh
 ·rintro ⟨i,hi,hk,rfl,rfl⟩
  refine ⟨i,hi,?_⟩
  rw[if_pos hk,wOf,if_pos (by omega)];exact List.mem_singleton.2 rfl
theorem mem_coE {x y:Int}:(x,y)∈pairsE (coS X.co) X X.evs.length↔(x,y)∈coX X X.co.length:=by
 rw[mem_coX]
 unfold pairsE coS
 simp only[List.mem_flatMap,List.mem_range]
 constructor
 ·rintro ⟨i,hi,hh⟩
  by_cases hk:(X.evs.getD i ev0).kd = 2
  ·rw[if_pos hk] at hh
   obtain ⟨rfl,j,a,m,h1,h2,h3,h4,h5⟩:=mem_beh.1 hh
   exact ⟨j,a,m,h1,h2,h3,h4,h5⟩
  ·rw[if_neg hk] at hh;cases hh
 ·rintro ⟨j,a,m,h1,h2,h3,h4,h5⟩
  obtain ⟨g1,g2,g3⟩:=h.cor j h1 a (by omega)
  rw[h4] at g1 g2 g3
  refine ⟨x.toNat,by omega,?_⟩
  rw[if_pos g3]
  exact mem_beh.2 ⟨by omega,j,a,m,h1,h2,h3,by omega,h5⟩
theorem mem_frE {x y:Int}:(x,y)∈pairsE (frS X.co) X X.evs.length↔∃ w,(w,x)∈rfL X X.rf.length∧(w,y)∈coX X X.co.length:=by
 have hl:=h.rfl
 unfold pairsE frS
 simp only[List.mem_flatMap,List.mem_range,mem_rfL h]
 constructor
 ·rintro ⟨i,hi,hh⟩
  by_cases hk:(X.evs.getD i ev0).kd = 1
  ·rw[if_pos hk] at hh
   obtain ⟨rfl,j,a,m,h1,h2,h3,h4,h5⟩:=mem_beh.1 hh
   rw[wOf,if_pos (by omega)] at h4
   exact ⟨X.rf.getD i 0,⟨i,hi,hk,rfl,rfl⟩,mem_coX.2 ⟨j,a,m,h1,h2,h3,h4,h5⟩⟩
  ·rw[if_neg hk] at hh;cases hh
 ·rintro ⟨w,⟨i,hi,hk,rfl,rfl⟩,hc⟩
  obtain ⟨j,a,m,h1,h2,h3,h4,h5⟩:=mem_coX.1 hc
  refine ⟨i,hi,?_⟩
  rw[if_pos hk,wOf,if_pos (by omega)]
  exact mem_beh.2 ⟨rfl,j,a,m,h1,h2,h3,h4,h5⟩
theorem rf_get {a b:Nat} (ha:a < X.evs.length) (hb':b < X.evs.length):anyM (rfL X X.rf.length) a b = hb (relE rfS X) a b:=by
 unfold relE;rw[h.nOf]
 exact sameL h.n40 (fun a b _ _ => by rw[mem_rfL h,mem_rfE h]) ha hb'
theorem co_get {a b:Nat} (ha:a < X.evs.length) (hb':b < X.evs.length):anyM (coX X X.co.length) a b = hb (relE (coS X.co) X) a b:=by
 unfold relE;rw[h.nOf]
 exact sameL h.n40 (fun a b _ _ => (mem_coE h).symm) ha hb'
theorem fr_get {a b:Nat} (ha:a < X.evs.length) (hb':b < X.evs.length):frM X.evs.length (anyM (rfL X X.rf.length)) (anyM (coX X X.co.length)) a b = hb (relE (frS X.co) X) a b:=by
 unfold relE;rw[h.nOf,hb_newM h.n40 _ ha hb',Bool.eq_iff_iff,anyM_mem,mem_frE h]
 unfold frM
 rw[thM_get _ _ _ _ _ _ hb',decide_eq_true ha,Bool.true_and,List.any_eq_true]
 constructor
 ·rintro ⟨c,hc,hh⟩
  rw[mback_get _ _ _ _ ha (List.mem_range.1 hc),Bool.and_eq_true,anyM_mem,anyM_mem] at hh
  exact ⟨c,hh.1,hh.2⟩
 ·rintro ⟨w,h1,h2⟩
  obtain ⟨i,hi,hk,e1,e2⟩:=(mem_rfL h).1 h1
  have h3:=(h.rfr i hi).1.2 hk
  have h4:=(h.rfr i hi).2
  have hw:((w.toNat:Nat):Int) = w:=by omega
  refine ⟨w.toNat,List.mem_range.2 (by omega),?_⟩
  rw[mback_get _ _ _ _ ha (by omega),Bool.and_eq_true,anyM_mem,anyM_mem,hw]
  exact ⟨h1,h2⟩
end
end Go.Ab
end
section
set_option linter.unusedVariables false
set_option linter.unusedSimpArgs false
namespace Go.Ab
variable {F:Funs}
theorem opM_out (φ:Bool→Bool→Bool) (A B:Mx) (N a b:Nat) (h:¬ (a < N∧b < N)):opM φ A B N a b = false:=by
 unfold opM stM;rw[if_neg (by omega)]
theorem partR_get {X:Gr} {so:Ev→Ev→Bool} {n:Nat} {R:Rw} (hN:nOf X = X.evs.length) (hR:Wf n R) (hn:n = X.evs.length) {a b:Nat} (ha:a < X.evs.length) (hb':b < X.evs.length):hb (partR so X n R) a b = (hb R a b && so (X.evs.getD a ev0) (X.evs.getD b ev0)):=by
 have h40:=nOf_le X
 unfold partR
 rw[hN] at h40 ⊢
 rw[hb_newM h40 _ ha hb',Bool.eq_iff_iff,anyM_mem,List.mem_filter,Bool.and_eq_true]
 have hok:okP so X ((a:Int),(b:Int)) = so (X.evs.getD a ev0) (X.evs.getD b ev0):=by
  unfold okP
  have h1:((a:Nat):Int) < X.evs.length:=by omega
  have h2:((b:Nat):Int) < X.evs.length:=by omega
  simp only[h1,h2,decide_true,Bool.true_and,Int.toNat_natCast]
 rw[hok]
 constructor
 ·rintro ⟨hp,hs⟩
  obtain ⟨x,y,he,hh⟩:=mem_pairsR.1 hp
  injection he with e1 e2
  have e1:a = x:=by omega
  have e2:b = y:=by omega
  subst e1 e2
  rw[hN_wf hR] at hh
  exact ⟨hh,hs⟩
 ·rintro ⟨hh,hs⟩
  exact ⟨mem_pairsR.2 ⟨a,b,rfl,by rw[hN_wf hR];exact hh⟩,hs⟩
section
variable {X:Gr} (h:GraphOk X)
include h
theorem wf_E (stp):Wf X.evs.length (relE stp X):=by unfold relE;rw[h.nOf];exact wf_new h.n40 _
theorem eco_get {a b:Nat} (ha:a < X.evs.length) (hb':b < X.evs.length):plM X.evs.length (comM X.evs.length (anyM (rfL X X.rf.length)) (anyM (coX X X.co.length))) X.evs.length a b = hb (ecoR X) a b:=by
 have w:Wf X.evs.length (orR (orR (relE rfS X) (relE (coS X.co) X)) (relE (frS X.co) X)):=wf_or (wf_or (wf_E h _) (wf_E h _)) (wf_E h _)
 have e:Eqv (comM X.evs.length (anyM (rfL X X.rf.length)) (anyM (coX X X.co.length))) (orR (orR (relE rfS X) (relE (coS X.co) X)) (relE (frS X.co) X)):=by
  intro a b
  by_cases hab:a < X.evs.length∧b < X.evs.length
  ·unfold comM
   rw[opM_get _ _ _ _ _ _ hab.1 hab.2,opM_get _ _ _ _ _ _ hab.1 hab.2,hb_or,hb_or,rf_get h hab.1 hab.2,co_get h hab.1 hab.2,fr_get h hab.1 hab.2]
  ·unfold comM
   rw[opM_out _ _ _ _ _ _ hab]
   symm
   rw[Bool.eq_false_iff]
   intro hh
   exact hab (w a b hh)
 unfold ecoR
 rw[h.nOf]
 exact plM_get e w _ (Nat.le_refl _) a b ha hb'
theorem th_ge (i:Nat) (hi:i < X.evs.length):(((i:Int) < X.locs)→thI X i = 0)∧(¬ ((i:Int) < X.locs)→1≤thI X i):=by
 obtain ⟨h1,h2⟩:=h.ev i hi
 exact ⟨fun hl => (h1 hl).1,fun hl => (h2 hl).1⟩
theorem po_get {a b:Nat} (ha:a < X.evs.length) (hb':b < X.evs.length):mpoM X a b = hb (poR X) a b:=by
 unfold poR;rw[h.nOf,hb_newM h.n40 _ ha hb',Bool.eq_iff_iff,anyM_mem]
 have ga:=th_ge h a ha
 have gb:=th_ge h b hb'
 have hmem:((a:Int),(b:Int))∈poK X X.evs.length↔poB a b (X.evs.getD a ev0) (X.evs.getD b ev0) = true:=by
  simp only[poK,poRow,List.mem_flatMap,List.mem_map,List.mem_filter,List.mem_range]
  constructor
  ·rintro ⟨x,hx,y,⟨hy,hp⟩,he⟩
   injection he with e1 e2
   have e1:x = a:=by omega
   have e2:y = b:=by omega
   subst e1 e2
   exact hp
  ·intro hp;exact ⟨a,ha,b,⟨hb',hp⟩,rfl⟩
 rw[hmem]
 unfold mpoM stU poV poB
 unfold thI at *
 generalize (X.evs.getD a ev0).th = ta at *
 generalize (X.evs.getD b ev0).th = tb at *
 by_cases hab:a < b
 ·rw[if_pos (.inl ⟨ha,hab,hb'⟩)]
  simp only[Bool.or_eq_true,Bool.and_eq_true,beq_iff_eq,decide_eq_true_eq,bne_iff_ne,ne_eq]
  by_cases l1:(a:Int) < X.locs<;>by_cases l2:(b:Int) < X.locs
  ·have:=ga.1 l1;have:=gb.1 l2;omega
  ·have:=ga.1 l1;have:=gb.2 l2;omega
  ·omega
  ·have:=ga.2 l1;have:=gb.2 l2;omega
 ·rw[if_neg (by omega)]
  simp only[Bool.or_eq_true,Bool.and_eq_true,beq_iff_eq,decide_eq_true_eq,bne_iff_ne,ne_eq]
  by_cases l1:(a:Int) < X.locs<;>by_cases l2:(b:Int) < X.locs
  ·have:=ga.1 l1;have:=gb.1 l2;simp;omega
  ·omega
  ·have:=ga.2 l1;have:=gb.1 l2;simp;omega
  ·have:=ga.2 l1;have:=gb.2 l2;simp;omega
theorem wf_po:Wf X.evs.length (poR X):=by unfold poR;rw[h.nOf];exact wf_new h.n40 _
theorem loc_get {a b:Nat} (ha:a < X.evs.length) (hb':b < X.evs.length):locM X a b = hb (partR locP X X.evs.length (poR X)) a b:=by
 rw[partR_get h.nOf (wf_po h) rfl ha hb',←po_get h ha hb']
 unfold locM stK
 rw[if_pos (.inl ⟨ha,hb'⟩)]
 congr 1
 unfold locV locP
 rw[Bool.and_assoc]
end
theorem pairsR_len40 {n:Nat} (hn:n≤40) (R:Rw):(pairsR n R).length < 9000000000000000000:=by
 have:=pairsR_len hn R;omega
theorem sp_sameG {f:Nat} (hf:F f = some A_xlaw09_same) (h55:F 55 = some A_xref01_SamePairs) (h56:F 56 = some A_xref01_R_Pairs) (pr:Pk_rel F) {n:Nat} (hn:n≤40) {M:Mx} {R:Rw} (hM:∀ a b,a < n→b < n→M a b = hb R a b):pureS F f [.ptr (relC n R),.ptr (matC n M)] = some (.b true):=by
 refine pure_of hf ?_
 have h1:=sp_mpairs h56 hn M R (same_of hM)
 have h2:=sp_samePairs h55 (pairsR n R) (pairsR_len40 hn R) .non .non
 simp (disch:=omega) only[A_xlaw09_same,wp,qa,qb,qc,gl,rl,ml,sp_len pr,sp_pairs pr hn,h1,h2]
end Go.Ab
end
section
set_option linter.unusedVariables false
set_option linter.unusedSimpArgs false
namespace Go.Ab
variable {F:Funs}
def setL (X:Gr) (p:Ev→Bool) (k:Nat):List (Int × Int):=(List.range k).flatMap fun (i:Nat) => if p (X.evs.getD i ev0) then [((i:Int),(i:Int))] else []
theorem setL_succ (X p k):setL X p (k + 1) = setL X p k ++ (if p (X.evs.getD k ev0) then [((k:Int),(k:Int))] else []):=by simp[setL,List.range_succ]
theorem setL_len (X p k):(setL X p k).length≤k:=by
 induction k with
 | zero => simp[setL]
 | succ k ih => rw[setL_succ,List.length_append];split<;>simp<;>omega
theorem mem_setL {X:Gr} {p:Ev→Bool} {k a b:Nat}:((a:Int),(b:Int))∈setL X p k↔a = b∧a < k∧p (X.evs.getD a ev0) = true:=by
 unfold setL
 simp only[List.mem_flatMap,List.mem_range]
 constructor
 ·rintro ⟨i,hi,h⟩
  by_cases hp:p (X.evs.getD i ev0) = true
  ·rw[if_pos hp,List.mem_singleton,Prod.mk.injEq] at h
   have e1:a = i:=by omega
   have e2:b = i:=by omega
   subst e1 e2
   exact ⟨rfl,hi,hp⟩
  ·rw[if_neg hp] at h;cases h
 ·rintro ⟨rfl,hk,hp⟩
  exact ⟨a,hk,by rw[if_pos hp];exact List.mem_singleton.2 rfl⟩
def setR (X:Gr) (p:Ev→Bool):Rw:=newR (nOf X) (setL X p X.evs.length)
def kindK (X:Gr) (q:Ev→Bool) (k:Nat):Mx:=fun a b => decide (a = b) && (decide (a < k) && q (X.evs.getD a ev0))
theorem kindK_succ (X q k):upd2 (kindK X q k) k k (q (X.evs.getD k ev0)) = kindK X q (k + 1):=by
 funext i j
 unfold upd2 kindK
 by_cases h:i = k∧j = k
 ·obtain ⟨rfl,rfl⟩:=h
  rw[if_pos ⟨rfl,rfl⟩];simp
 ·rw[if_neg h]
  by_cases hij:i = j
  ·have:decide (i < k) = decide (i < k + 1):=by rw[decide_eq_decide];omega
   rw[this]
  ·rw[decide_eq_false hij];rfl
theorem kindK_0 (X q):kindK X q 0 = fun _ _ => false:=by funext i j;simp[kindK]
section
variable {X:Gr} (h:GraphOk X)
include h
theorem EqN.set {p q:Ev→Bool} (hq:∀ i,i < X.evs.length→p (X.evs.getD i ev0) = q (X.evs.getD i ev0)):EqN X.evs.length (kindK X q X.evs.length) (setR X p):=by
 unfold setR
 rw[h.nOf]
 refine ⟨wf_new h.n40 _,fun a b ha hb' => ?_⟩
 rw[hb_newM h.n40 _ ha hb',Bool.eq_iff_iff,anyM_mem,mem_setL]
 unfold kindK
 simp only[Bool.and_eq_true,decide_eq_true_eq,hq a ha]
theorem ev_kinds (i:Nat) (hi:i < X.evs.length):((X.evs.getD i ev0).kd = 1∧((X.evs.getD i ev0).md = 0∨(X.evs.getD i ev0).md = 1))∨((X.evs.getD i ev0).kd = 2∧((X.evs.getD i ev0).md = 0∨(X.evs.getD i ev0).md = 2))∨((X.evs.getD i ev0).kd = 3∧1≤(X.evs.getD i ev0).md∧(X.evs.getD i ev0).md≤4):=by
 obtain ⟨h1,h2⟩:=h.ev i hi
 by_cases hl:(i:Int) < X.locs
 ·obtain ⟨_,h3,h4,_⟩:=h1 hl
  exact .inr (.inl ⟨h3,.inl h4⟩)
 ·obtain ⟨_,_,_,h3⟩:=h2 hl
  rcases h3 with ⟨h4,_,_,h5⟩ | ⟨h4,_,_,h5⟩ | ⟨h4,h5,h6,_⟩
  ·exact .inl ⟨h4,h5⟩
  ·exact .inr (.inl ⟨h4,h5⟩)
  ·exact .inr (.inr ⟨h4,h5,h6⟩)
theorem eq_rf:EqN X.evs.length (anyM (rfL X X.rf.length)) (relE rfS X):=⟨wf_E h _,fun _ _ ha hb' => rf_get h ha hb'⟩
theorem eq_co:EqN X.evs.length (anyM (coX X X.co.length)) (relE (coS X.co) X):=⟨wf_E h _,fun _ _ ha hb' => co_get h ha hb'⟩
theorem eq_po:EqN X.evs.length (mpoM X) (poR X):=⟨wf_po h,fun _ _ ha hb' => po_get h ha hb'⟩
theorem eq_eco:EqN X.evs.length (plM X.evs.length (comM X.evs.length (anyM (rfL X X.rf.length)) (anyM (coX X X.co.length))) X.evs.length) (ecoR X):=
 ⟨by unfold ecoR;rw[h.nOf];exact wf_plus (wf_or (wf_or (wf_E h _) (wf_E h _)) (wf_E h _)),fun _ _ ha hb' => eco_get h ha hb'⟩
theorem wf_part (so:Ev→Ev→Bool) (n:Nat) (R:Rw):Wf X.evs.length (partR so X n R):=by unfold partR;rw[h.nOf];exact wf_new h.n40 _
theorem eq_loc:EqN X.evs.length (locM X) (partR locP X X.evs.length (poR X)):=⟨wf_part h _ _ _,fun _ _ ha hb' => loc_get h ha hb'⟩
theorem eq_inner {A:Mx} {R:Rw} (k:EqN X.evs.length A R):EqN X.evs.length (prtM X true A) (partR inner X X.evs.length R):=
 ⟨wf_part h _ _ _,fun a b ha hb' => by
  rw[partR_get h.nOf k.1 rfl ha hb']
  unfold prtM
  rw[opM_get _ _ _ _ _ _ ha hb',k.2 a b ha hb']
  unfold thV thI inner
  cases ((X.evs.getD a ev0).th == (X.evs.getD b ev0).th)<;>rfl⟩
theorem eq_outer {A:Mx} {R:Rw} (k:EqN X.evs.length A R):EqN X.evs.length (prtM X false A) (partR outer X X.evs.length R):=
 ⟨wf_part h _ _ _,fun a b ha hb' => by
  rw[partR_get h.nOf k.1 rfl ha hb']
  unfold prtM
  rw[opM_get _ _ _ _ _ _ ha hb',k.2 a b ha hb']
  unfold thV thI outer bne
  cases ((X.evs.getD a ev0).th == (X.evs.getD b ev0).th)<;>rfl⟩
end
end Go.Ab
end
section
set_option linter.unusedVariables false
set_option linter.unusedSimpArgs false
namespace Go.Ab
variable {F:Funs}
theorem o_boxI {c:CS} {al:Nat→Bool} {lo id:Nat} {e:Env} {g:G} (x):opE c al lo id (.boxI x) e g = vBoxI (x.ev e) g:=rfl
noncomputable def bxiD (x:Bool) (cs:Option (List AV)) (g:G):Option (AV × G):=if x then vMapL .ptr g cs else none
theorem vBoxI_S (v g):vBoxI v g = bxiD ((cellsOf v).all one) (frzL (fun _ => none) depth (cellsOf v)) g:=rfl
theorem bxiD_ok (cs g):bxiD true cs g = vMapL .ptr g cs:=rfl
theorem frzL_gr (hp) (X:Gr):frzL hp depth (grC X) = some (grC X):=by
 show frzL hp (8 + 1) _ = _
 simp only[grC,frzL,frz]
theorem sp_setE (h166:F 166 = some A_graph_Set) (h81:F 81 = some A_graph_Of) (pr:Pk_rel F) {X:Gr} (hX:X.evs.length≤1000) {fid:Nat} {caps:List AV} {p:Ev→Bool} (hp:∀ e,pureS F fid (.agg (evC e) :: caps) = some (.b (p e)))
  (hc:∀ hp,frzL hp depth caps = some caps) (hv:∀ hp,caps.flatMap (vis hp depth) = []):pureS F 166 [.agg (grC X),.fn fid [] caps] = some (.ptr (relC (nOf X) (setR X p))):=by
 refine pure_of h166 ?_
 simp (disch:=omega) only[A_graph_Set,wp,qa,qb,qc,gl]
 refine W_loop (fun q e g => ∃ k t,q = X.evs.length - k∧k≤X.evs.length∧e 2 = .mp 0 0∧e 5 = .sl (pairsC (setL X p k)) (setL X p k).length t∧e 6 = .mp 5 0∧e 12 = .sl (evsC X.evs) X.evs.length .non∧e 13 = .i .i64 X.evs.length∧e 14 = .i .i64 k∧Live g 2 t∧g.hp 0 = some (.cells (grC X) false)∧g.hp 5 = some (.cells [.fn fid [] caps] false)∧5 < g.nx) X.evs.length ?_ ?_
 ·refine ⟨0,.rig,rfl,Nat.zero_le _,?_⟩
  simp (disch:=omega) only[wp,qa,qb,qc]
  exact ⟨by rfl,rfl,.inl rfl,by first | omega | (dsimp only;omega)⟩
 ·rintro q e g ⟨k,t,rfl,hk,e2,e5,e6,e12,e13,e14,L,hg,hf,hnx⟩
  by_cases hk':k < X.evs.length
  ·have hk1:(k:Int) < X.evs.length:=by omega
   have hwk:=succ_wrap (k:=k) (by omega)
   have hev:=ev_part hk'
   have hs:=setL_succ X p k
   have hl:=setL_len X p k
   generalize X.evs.getD k ev0 = ev at hev hs
   have hpe:=hp ev
   generalize setL X p k = B at e5 hs hl
   cases hb:p ev with
   | true =>
     rw[hb] at hpe
     rw[hb,if_pos rfl] at hs
     rcases L with rfl | ⟨τ,rfl,hτ,hlt⟩
     ·simp (disch:=omega) only[wp,qa,qb,qc,gl,e2,e5,e6,e12,e13,e14,hg,hf,hk1,hev,hc,hv,hpe,pairsC_len,hwk]
      refine ⟨X.evs.length - (k + 1),by omega,k + 1,?_⟩
      rw[hs,pairsC_app,pairsC_one,List.length_append]
      exact ⟨_,rfl,by omega,rfl,rfl,.inr ⟨_,rfl,upd_same _ _ _,by first | omega | (dsimp only;omega)⟩,by first | omega | (dsimp only;omega)⟩
     ·have n0:τ≠0:=fun h => by rw[h,hg] at hτ;cases hτ
      have n5:τ≠5:=fun h => by rw[h,hf] at hτ;cases hτ
      simp (disch:=omega) only[wp,qa,qb,qc,gl,e2,e5,e6,e12,e13,e14,hg,hf,hk1,hev,hc,hv,hpe,pairsC_len,hwk,hτ]
      refine ⟨X.evs.length - (k + 1),by omega,k + 1,?_⟩
      rw[hs,pairsC_app,pairsC_one,List.length_append]
      exact ⟨_,rfl,by omega,rfl,rfl,.inr ⟨_,rfl,upd_same _ _ _,by first | omega | (dsimp only;omega)⟩,by first | omega | (dsimp only;omega)⟩
   | false =>
     rw[hb] at hpe
     rw[hb,if_neg (by simp),List.append_nil] at hs
     simp (disch:=omega) only[wp,qa,qb,qc,gl,e2,e5,e6,e12,e13,e14,hg,hf,hk1,hev,hc,hv,hpe,hwk]
     refine ⟨X.evs.length - (k + 1),by omega,k + 1,t,rfl,by omega,by rw[hs],rfl,?_,by first | omega | (dsimp only;omega)⟩
     rcases L with rfl | ⟨τ,rfl,hτ,hlt⟩
     ·exact .inl rfl
     ·exact .inr ⟨τ,rfl,by simp (disch:=omega) only[upd_ne];exact hτ,by first | omega | (dsimp only;omega)⟩
  ·obtain rfl:k = X.evs.length:=by omega
   have hk1:¬ ((X.evs.length:Int) < X.evs.length):=by omega
   have hl:=setL_len X p X.evs.length
   have hof:=sp_of h81 pr X (setL X p X.evs.length) .non (by omega)
   simp (disch:=omega) only[wp,qa,qb,qc,gl,e2,e5,e6,e12,e13,e14,hg,hf,hk1,hof]
   rfl
def setP (k:Int) (ms:List Int) (e:Ev):Bool:=e.kd == k && (decide (ms = []) || ms.any fun m => e.md == m)
theorem sp_set1 (h229:F 229 = some A_sync_set_1) (k:Int) (ms:List Int) (hm:ms.length≤1000) (ev:Ev):pureS F 229 [.agg (evC ev),.ptr [.sl (intsC ms) ms.length .non],.ptr [.i .i64 k]] = some (.b (setP k ms ev)):=by
 refine pure_of h229 ?_
 have h0:((ms.length:Int) == 0) = decide (ms = []):=by
  cases ms with
  | nil => rfl
  | cons a l => simp;omega
 simp (disch:=omega) only[A_sync_set_1,wp,qa,qb,qc,gl,h0]
 refine W_loop (fun q e g => ∃ j,q = ms.length - j∧j≤ms.length∧e 2 = .ptr [.i .i64 k]∧e 3 = .mp 0 0∧e 5 = .b (decide (ms = []) || (ms.take j).any fun m => ev.md == m)∧e 11 = .sl (intsC ms) ms.length .non∧e 12 = .i .i64 ms.length∧e 13 = .i .i64 j∧g.hp 0 = some (.cells (evC ev) false)∧0 < g.nx) ms.length ?_ ?_
 ·refine ⟨0,rfl,Nat.zero_le _,?_⟩
  simp (disch:=omega) only[wp,qa,qb,qc]
  exact ⟨by simp,rfl,by first | omega | (dsimp only;omega)⟩
 ·rintro q e g ⟨j,rfl,hj,e2,e3,e5,e11,e12,e13,hg,hnx⟩
  by_cases hj':j < ms.length
  ·have hj1:(j:Int) < ms.length:=by omega
   have hwj:=succ_wrap (k:=j) (by omega)
   have hip:=ints_part hj'
   have hs:(ms.take (j + 1)).any (fun m => ev.md == m) = ((ms.take j).any (fun m => ev.md == m) || ev.md == ms.getD j 0):=by
    rw[List.take_add_one,List.getElem?_eq_getElem hj',List.any_append,List.getD_eq_getElem?_getD,List.getElem?_eq_getElem hj']
    simp
   generalize ms.getD j 0 = m at hip hs
   cases hb:(decide (ms = []) || (ms.take j).any fun m => ev.md == m) with
   | true =>
     rw[hb] at e5
     simp (disch:=omega) only[wp,qa,qb,qc,gl,e2,e3,e5,e11,e12,e13,hg,hj1,hip,hwj]
     exact ⟨ms.length - (j + 1),by omega,j + 1,rfl,by omega,by rw[hs,←Bool.or_assoc,hb];rfl,rfl,by first | omega | (dsimp only;omega)⟩
   | false =>
     rw[hb] at e5
     simp (disch:=omega) only[wp,qa,qb,qc,gl,e2,e3,e5,e11,e12,e13,hg,hj1,hip,hwj]
     exact ⟨ms.length - (j + 1),by omega,j + 1,rfl,by omega,by rw[hs,←Bool.or_assoc,hb];rfl,rfl,by first | omega | (dsimp only;omega)⟩
  ·obtain rfl:j = ms.length:=by omega
   have hj1:¬ ((ms.length:Int) < ms.length):=by omega
   rw[List.take_length] at e5
   unfold setP
   cases hk:(ev.kd == k) with
   | true => simp (disch:=omega) only[wp,qa,qb,qc,gl,e2,e3,e5,e11,e12,e13,hg,hj1,hk]
   | false => simp (disch:=omega) only[wp,qa,qb,qc,gl,e2,e3,e5,e11,e12,e13,hg,hj1,hk]
theorem sp_setS (h178:F 178 = some A_sync_set) (h229:F 229 = some A_sync_set_1) (h166:F 166 = some A_graph_Set) (h81:F 81 = some A_graph_Of) (pr:Pk_rel F) {X:Gr} (hX:X.evs.length≤1000) (k:Int) (ms:List Int) (hm:ms.length≤1000) (t:Tok):pureS F 178 [.agg (grC X),.i .i64 k,.sl (intsC ms) ms.length t] = some (.ptr (relC (nOf X) (setR X (setP k ms)))):=by
 refine pure_of h178 ?_
 have hc:∀ hp,frzL hp depth [.ptr [.sl (intsC ms) ms.length .non],.ptr [.i .i64 k]] = some [.ptr [.sl (intsC ms) ms.length .non],.ptr [.i .i64 k]]:=fun hp => by simp only[frzL_cons,frzL_nil,frz_d_ptr,consO_ok]
 have hv:∀ hp,[AV.ptr [.sl (intsC ms) ms.length .non],.ptr [.i .i64 k]].flatMap (vis hp depth) = []:=fun hp => by simp only[List.flatMap_cons,List.flatMap_nil,vis_ptr,List.append_nil]
 have hset:=sp_setE h166 h81 pr hX (fid:=229) (p:=setP k ms) (fun e => sp_set1 h229 k ms hm e) hc hv
 have hfn:∀ hp,frz hp depth (.fn 229 [] [.ptr [.sl (intsC ms) ms.length .non],.ptr [.i .i64 k]]) = some (.fn 229 [] [.ptr [.sl (intsC ms) ms.length .non],.ptr [.i .i64 k]]):=fun hp => by
  show frz hp (8 + 1) _ = _
  simp only[frz,frzL]
 have hvn:∀ hp,vis hp depth (.fn 229 [] [.ptr [.sl (intsC ms) ms.length .non],.ptr [.i .i64 k]]) = []:=fun hp => by
  show vis hp (8 + 1) _ = _
  simp only[vis,List.flatMap_cons,List.flatMap_nil,List.append_nil]
 simp (disch:=omega) only[A_sync_set,wp,qa,qb,qc,gl,o_boxI,vBoxI_S,bxiD_ok,frzL_gr,vMapL_some,hfn,hvn,hset]
def relsC (n:Nat) (l:List Rw):List AV:=l.map fun R => .ptr (relC n R)
def thenL (n:Nat) (R:Rw) (l:List Rw):Rw:=l.foldl (fun R S => thenR n R S) R
theorem rels_part {n:Nat} {l:List Rw} {k:Nat} (h:k < l.length):part ((relsC n l).drop (k * 1)) 0 none = some (.ptr (relC n (l.getD k fun _ => 0))):=by
 simp only[part,relsC,List.getElem?_drop,Nat.mul_one,Nat.add_zero,List.getElem?_map,List.getElem?_eq_getElem h,Option.map_some,List.getD_eq_getElem?_getD,Option.getD_some]
theorem sp_thenS (h177:F 177 = some A_sync_then) (pr:Pk_rel F) {n:Nat} (hn:n≤40) (R:Rw) (l:List Rw) (hl:l.length≤1000) (t:Tok):pureS F 177 [.ptr (relC n R),.sl (relsC n l) l.length t] = some (.ptr (relC n (thenL n R l))):=by
 refine pure_of h177 ?_
 simp (disch:=omega) only[A_sync_then,wp,qa,qb,qc,gl]
 refine W_loop (fun q e g => ∃ k,q = l.length - k∧k≤l.length∧e 0 = .ptr (relC n (thenL n R (l.take k)))∧e 7 = .sl (relsC n l) l.length t∧e 8 = .i .i64 l.length∧e 9 = .i .i64 k) l.length ?_ ?_
 ·refine ⟨0,rfl,Nat.zero_le _,?_⟩
  simp (disch:=omega) only[wp,qa,qb,qc]
  exact ⟨by rfl,rfl⟩
 ·rintro q e g ⟨k,rfl,hk,e0,e7,e8,e9⟩
  by_cases hk':k < l.length
  ·have hk1:(k:Int) < l.length:=by omega
   have hwk:=succ_wrap (k:=k) (by omega)
   have hp:=rels_part (n:=n) hk'
   have hs:thenL n R (l.take (k + 1)) = thenR n (thenL n R (l.take k)) (l.getD k fun _ => 0):=by
    unfold thenL
    rw[List.take_add_one,List.foldl_append,List.getElem?_eq_getElem hk',List.getD_eq_getElem?_getD,List.getElem?_eq_getElem hk']
    rfl
   generalize thenL n R (l.take k) = A at e0 hs
   generalize (l.getD k fun _ => 0) = B at hp hs
   simp (disch:=omega) only[wp,qa,qb,qc,gl,e0,e7,e8,e9,hk1,hp,sp_then pr hn hn,Nat.max_self,hwk]
   exact ⟨l.length - (k + 1),by omega,k + 1,rfl,by omega,by rw[hs],rfl⟩
  ·obtain rfl:k = l.length:=by omega
   have hk1:¬ ((l.length:Int) < l.length):=by omega
   rw[List.take_length] at e0
   simp (disch:=omega) only[wp,qa,qb,qc,gl,e0,e7,e8,e9,hk1]
end Go.Ab
end
section
set_option linter.unusedVariables false
set_option linter.unusedSimpArgs false
namespace Go.Ab
variable {F:Funs}
theorem sp_then1 (h177:F 177 = some A_sync_then) (pr:Pk_rel F) {n:Nat} (hn:n≤40) (R S:Rw):pureS F 177 [.ptr (relC n R),.sl [.ptr (relC n S)] 1 .non] = some (.ptr (relC n (thenR n R S))):=sp_thenS h177 pr hn R [S] (by simp) .non
theorem sp_then2 (h177:F 177 = some A_sync_then) (pr:Pk_rel F) {n:Nat} (hn:n≤40) (R S T:Rw):pureS F 177 [.ptr (relC n R),.sl [.ptr (relC n S),.ptr (relC n T)] 2 .non] = some (.ptr (relC n (thenR n (thenR n R S) T))):=sp_thenS h177 pr hn R [S,T] (by simp) .non
section
variable (X:Gr)
def locR:Rw:=partR locP X (nOf X) (poR X)
def rfR:Rw:=relE rfS X
def RsP:Rw:=orR (thenR (nOf X) (thenR (nOf X) (setR X (setP 2 [])) (locR X)) (setR X (setP 2 []))) (thenR (nOf X) (setR X (setP 2 [])) (maybeK (nOf X) (plusR (nOf X) (thenR (nOf X) (thenR (nOf X) (maybeK (nOf X) (locR X)) (rfR X)) (newR (nOf X) X.rmw)))))
def ReleaseP:Rw:=thenR (nOf X) (orR (setR X (setP 2 [2])) (thenR (nOf X) (setR X (setP 3 [2,3,4])) (poR X))) (RsP X)
def SwP:Rw:=thenR (nOf X) (thenR (nOf X) (ReleaseP X) (orR (partR inner X (nOf X) (rfR X)) (thenR (nOf X) (maybeK (nOf X) (locR X)) (partR outer X (nOf X) (rfR X))))) (orR (setR X (setP 1 [1])) (thenR (nOf X) (poR X) (setR X (setP 3 [1,3,4]))))
def HbP:Rw:=plusR (nOf X) (orR (poR X) (SwP X))
end
structure SyncF (F:Funs):Prop where
 ps:Pk_sync F
 pe:Pk_eco F
 pr:Pk_rel F
 po:F 60 = some A_graph_Po
 gof:F 81 = some A_graph_Of
 set:F 166 = some A_graph_Set
section
variable (S:SyncF F) {X:Gr} (hX:Few X)
include S hX
theorem sp_setX (k:Int) (ms:List Int) (hm:ms.length≤1000) (t:Tok):pureS F 178 [.agg (grC X),.i .i64 k,.sl (intsC ms) ms.length t] = some (.ptr (relC (nOf X) (setR X (setP k ms)))):=
 sp_setS S.ps.sync_set S.ps.sync_set_1 S.set S.gof S.pr (by have:=hX.1;omega) k ms hm t
theorem sp_set0 (k:Int):pureS F 178 [.agg (grC X),.i .i64 k,.sl [] 0 .non] = some (.ptr (relC (nOf X) (setR X (setP k [])))):=sp_setX S hX k [] (by simp) .non
theorem sp_setA (k a:Int):pureS F 178 [.agg (grC X),.i .i64 k,.sl [.i .i64 a] 1 .non] = some (.ptr (relC (nOf X) (setR X (setP k [a])))):=sp_setX S hX k [a] (by simp) .non
theorem sp_setB (k a b c:Int):pureS F 178 [.agg (grC X),.i .i64 k,.sl [.i .i64 a,.i .i64 b,.i .i64 c] 3 .non] = some (.ptr (relC (nOf X) (setR X (setP k [a,b,c])))):=sp_setX S hX k [a,b,c] (by simp) .non
theorem sp_locX:pureS F 41 [.agg (grC X)] = some (.ptr (relC (nOf X) (locR X))):=sp_Loc S.pe S.po S.gof S.pr (by have:=hX.1;omega)
theorem sp_poX:pureS F 60 [.agg (grC X)] = some (.ptr (relC (nOf X) (poR X))):=sp_Po S.po S.gof S.pr (by have:=hX.1;omega)
theorem sp_rfX:pureS F 48 [.agg (grC X)] = some (.ptr (relC (nOf X) (rfR X))):=sp_Rf S.pe S.gof S.pr hX
omit hX in
theorem sp_ofX (l:List (Int × Int)) (hl:l.length≤1000) (t:Tok):pureS F 81 [.agg (grC X),.sl (pairsC l) l.length t] = some (.ptr (relC (nOf X) (newR (nOf X) l))):=sp_of S.gof S.pr X l t (by omega)
theorem sp_Rs (hr:X.rmw.length≤1000):pureS F 179 [.agg (grC X)] = some (.ptr (relC (nOf X) (RsP X))):=by
 refine pure_of S.ps.sync_Rs ?_
 have hn:=nOf_le X
 simp (disch:=omega) only[A_sync_Rs,wp,qa,qb,qc,gl,sp_set0 S hX,sp_locX S hX,sp_rfX S hX,sp_ofX S,sp_maybe S.pr hn,sp_then2 S.ps.sync_then S.pr hn,sp_then1 S.ps.sync_then S.pr hn,sp_plus S.pr hn,sp_or S.pr hn hn,Nat.max_self]
 rfl
theorem sp_Release (hr:X.rmw.length≤1000):pureS F 149 [.agg (grC X)] = some (.ptr (relC (nOf X) (ReleaseP X))):=by
 refine pure_of S.ps.sync_Release ?_
 have hn:=nOf_le X
 simp (disch:=omega) only[A_sync_Release,wp,qa,qb,qc,gl,sp_setA S hX,sp_setB S hX,sp_poX S hX,sp_Rs S hX hr,sp_then2 S.ps.sync_then S.pr hn,sp_then1 S.ps.sync_then S.pr hn,sp_or S.pr hn hn,Nat.max_self]
 rfl
theorem sp_Sw (hr:X.rmw.length≤1000):pureS F 176 [.agg (grC X)] = some (.ptr (relC (nOf X) (SwP X))):=by
 refine pure_of S.ps.sync_Sw ?_
 have hn:=nOf_le X
 simp (disch:=omega) only[A_sync_Sw,wp,qa,qb,qc,gl,sp_setA S hX,sp_setB S hX,sp_poX S hX,sp_locX S hX,sp_rfX S hX,sp_Inner S.pe S.gof S.pr hn,sp_Outer S.pe S.gof S.pr hn,sp_Release S hX hr,sp_maybe S.pr hn,sp_then2 S.ps.sync_then S.pr hn,sp_then1 S.ps.sync_then S.pr hn,sp_or S.pr hn hn,Nat.max_self]
 rfl
theorem sp_Hb (hr:X.rmw.length≤1000):pureS F 148 [.agg (grC X)] = some (.ptr (relC (nOf X) (HbP X))):=by
 refine pure_of S.ps.sync_Hb ?_
 have hn:=nOf_le X
 simp (disch:=omega) only[A_sync_Hb,wp,qa,qb,qc,gl,sp_poX S hX,sp_Sw S hX hr,sp_or S.pr hn hn,sp_plus S.pr hn,Nat.max_self]
 rfl
end
end Go.Ab
end
section
set_option linter.unusedVariables false
set_option linter.unusedSimpArgs false
namespace Go.Ab
structure Q4 where
 ii:Rw
 ic:Rw
 ci:Rw
 cc:Rw
inductive Pp (q:Q4):Nat→Nat→Nat→Prop
 | b0 {a b}:hb q.ii a b = true→Pp q 0 a b
 | b1 {a b}:hb q.ic a b = true→Pp q 1 a b
 | b2 {a b}:hb q.ci a b = true→Pp q 2 a b
 | b3 {a b}:hb q.cc a b = true→Pp q 3 a b
 | r1 {a b}:Pp q 2 a b→Pp q 0 a b
 | r2 {a c b}:Pp q 1 a c→Pp q 2 c b→Pp q 0 a b
 | r3 {a c b}:Pp q 0 a c→Pp q 0 c b→Pp q 0 a b
 | r4 {a b}:Pp q 0 a b→Pp q 1 a b
 | r5 {a b}:Pp q 3 a b→Pp q 1 a b
 | r6 {a c b}:Pp q 1 a c→Pp q 3 c b→Pp q 1 a b
 | r7 {a c b}:Pp q 0 a c→Pp q 1 c b→Pp q 1 a b
 | r8 {a c b}:Pp q 2 a c→Pp q 0 c b→Pp q 2 a b
 | r9 {a c b}:Pp q 3 a c→Pp q 2 c b→Pp q 2 a b
 | r10 {a b}:Pp q 2 a b→Pp q 3 a b
 | r11 {a c b}:Pp q 2 a c→Pp q 1 c b→Pp q 3 a b
 | r12 {a c b}:Pp q 3 a c→Pp q 3 c b→Pp q 3 a b
structure WfQ (n:Nat) (q:Q4):Prop where
 ii:Wf n q.ii
 ic:Wf n q.ic
 ci:Wf n q.ci
 cc:Wf n q.cc
structure LeQ (q p:Q4):Prop where
 ii:∀ a b,hb q.ii a b = true→hb p.ii a b = true
 ic:∀ a b,hb q.ic a b = true→hb p.ic a b = true
 ci:∀ a b,hb q.ci a b = true→hb p.ci a b = true
 cc:∀ a b,hb q.cc a b = true→hb p.cc a b = true
theorem LeQ.refl (q:Q4):LeQ q q:=⟨fun _ _ h => h,fun _ _ h => h,fun _ _ h => h,fun _ _ h => h⟩
theorem LeQ.trans {p q r:Q4} (h:LeQ p q) (k:LeQ q r):LeQ p r:=⟨fun a b x => k.ii a b (h.ii a b x),fun a b x => k.ic a b (h.ic a b x),fun a b x => k.ci a b (h.ci a b x),fun a b x => k.cc a b (h.cc a b x)⟩
structure InP (q0 q:Q4):Prop where
 ii:∀ a b,hb q.ii a b = true→Pp q0 0 a b
 ic:∀ a b,hb q.ic a b = true→Pp q0 1 a b
 ci:∀ a b,hb q.ci a b = true→Pp q0 2 a b
 cc:∀ a b,hb q.cc a b = true→Pp q0 3 a b
theorem InP.base (q:Q4):InP q q:=⟨fun _ _ h => .b0 h,fun _ _ h => .b1 h,fun _ _ h => .b2 h,fun _ _ h => .b3 h⟩
section
variable {n:Nat} {q:Q4} (w:WfQ n q)
include w
end
end Go.Ab
end
section
namespace Go.Ab
def A_ppo_Ppo:AFun:={ res:=[.t 2],body:=(.seq (.reg false [qo 1 (.box (.t 0)),qo 2 (.mv (.c (.nilp)))])
 (.seq (.reg false [qo 10 (.ld (some 8) (.t 1)),qo 11 (.call .pure (.c (.fn 165 [] [])) [.t 10]),qm 9 11,qo 12 (.ext 0 (.t 9)),qo 13 (.ext 1 (.t 9)),qo 14 (.ext 2 (.t 9)),qo 15 (.ext 3 (.t 9)),qm 3 12,qm 4 13,qm 5 14,qm 6 15])
 (.seq (.reg true [qo 16 (.ld (some 8) (.t 1)),qo 17 (.call .pure (.c (.fn 166 [] [])) [.t 16,.c (.fn 167 [] [])]),qo 18 (.ld (some 8) (.t 1)),qo 19 (.call .pure (.c (.fn 166 [] [])) [.t 18,.c (.fn 168 [] [])]),qm 7 17,qm 8 19])
 (.seq (.reg false [qm 20 7,qm 21 3,qo 22 (.call .pure (.c (.fn 23 [] [])) [.t 20,.t 21]),qm 23 7,qo 24 (.call .pure (.c (.fn 23 [] [])) [.t 22,.t 23]),qm 25 7,qm 26 4,qo 27 (.call .pure (.c (.fn 23 [] [])) [.t 25,.t 26]),qm 28 8,qo 29 (.call .pure (.c (.fn 23 [] [])) [.t 27,.t 28]),qo 30 (.call .pure (.c (.fn 24 [] [])) [.t 24,.t 29]),qm 2 30])
 .ret)))) }
def A_ppo_Rdw:AFun:={ res:=[.t 2],body:=(.seq (.reg false [qo 1 (.box (.t 0)),qo 2 (.mv (.c (.nilp)))])
 (.seq (.reg true [qo 3 (.ld (some 8) (.t 1)),qo 4 (.ld (some 8) (.t 1)),qo 5 (.call .pure (.c (.fn 50 [] [])) [.t 4]),qo 6 (.call .pure (.c (.fn 170 [] [])) [.t 3,.t 5]),qm 2 6])
 .ret)) }
def A_ppo_Detour:AFun:={ res:=[.t 2],body:=(.seq (.reg false [qo 1 (.box (.t 0)),qo 2 (.mv (.c (.nilp)))])
 (.seq (.reg true [qo 3 (.ld (some 8) (.t 1)),qo 4 (.ld (some 8) (.t 1)),qo 5 (.call .pure (.c (.fn 49 [] [])) [.t 4]),qo 6 (.call .pure (.c (.fn 170 [] [])) [.t 3,.t 5]),qm 2 6])
 .ret)) }
def A_ppo_Parts:AFun:={ res:=[.t 2,.t 3,.t 4,.t 5],body:=(.seq (.reg false [qo 1 (.box (.t 0)),qo 2 (.mv (.c (.nilp))),qo 3 (.mv (.c (.nilp))),qo 4 (.mv (.c (.nilp))),qo 5 (.mv (.c (.nilp)))])
 (.scp (.seq (.reg false [qo 14 (.ld (some 8) (.t 1)),qo 15 (.call .pure (.c (.fn 166 [] [])) [.t 14,.c (.fn 219 [] [])]),qm 6 15])
 (.seq (.reg true [qo 16 (.ld (some 8) (.t 1)),qo 17 (.fa 5 (.t 1)),qo 18 (.ld none (.t 17)),qo 19 (.call .pure (.c (.fn 81 [] [])) [.t 16,.t 18]),qo 20 (.ld (some 8) (.t 1)),qo 21 (.fa 6 (.t 1)),qo 22 (.ld none (.t 21)),qo 23 (.call .pure (.c (.fn 81 [] [])) [.t 20,.t 22]),qm 24 6,qo 25 (.call .pure (.c (.fn 23 [] [])) [.t 23,.t 24]),qo 26 (.ld (some 8) (.t 1)),qo 27 (.fa 7 (.t 1)),qo 28 (.ld none (.t 27)),qo 29 (.call .pure (.c (.fn 81 [] [])) [.t 26,.t 28]),qm 30 6,qo 31 (.call .pure (.c (.fn 23 [] [])) [.t 29,.t 30]),qm 7 19,qm 8 25,qm 9 31])
 (.seq (.reg true [qm 32 7,qo 33 (.ld (some 8) (.t 1)),qo 34 (.call .pure (.c (.fn 145 [] [])) [.t 33]),qo 35 (.ld (some 8) (.t 1)),qo 36 (.ld (some 8) (.t 1)),qo 37 (.call .pure (.c (.fn 48 [] [])) [.t 36]),qo 38 (.call .pure (.c (.fn 39 [] [])) [.t 35,.t 37]),qo 39 (.bsl true 2 ([.nilp,.nilp]) [(0,1,.t 34),(1,1,.t 38)]),qo 40 (.call .pure (.c (.fn 220 [] [])) [.t 32,.t 39]),qm 2 40])
 (.seq (.reg false [qo 41 (.fa 1 (.t 1)),qo 42 (.ld none (.t 41)),qo 43 (.len (.t 42)),qo 44 (.call .pure (.c (.fn 11 [] [])) [.t 43,.c (.sl [] 0 .rig)]),qm 3 44])
 (.seq (.reg false [qm 45 9,qo 46 (.ld (some 8) (.t 1)),qo 47 (.call .pure (.c (.fn 146 [] [])) [.t 46]),qo 48 (.bsl true 1 ([.nilp]) [(0,1,.t 47)]),qo 49 (.call .pure (.c (.fn 220 [] [])) [.t 45,.t 48]),qm 4 49])
 (.seq (.reg false [qm 50 7,qo 51 (.ld (some 8) (.t 1)),qo 52 (.call .pure (.c (.fn 221 [] [])) [.t 51]),qm 53 8,qo 54 (.bsl true 2 ([.nilp,.nilp]) [(0,1,.t 52),(1,1,.t 53)]),qo 55 (.call .pure (.c (.fn 220 [] [])) [.t 50,.t 54]),qm 5 55])
 (.seq .lab
 (.seq (.blk 0 (.loop (.blk 1 (.seq (.reg false [qm 56 2,qm 57 4,qm 58 3,qm 59 4,qo 60 (.call .pure (.c (.fn 23 [] [])) [.t 58,.t 59]),qm 61 2,qm 62 2,qo 63 (.call .pure (.c (.fn 23 [] [])) [.t 61,.t 62]),qo 64 (.bsl true 3 ([.nilp,.nilp,.nilp]) [(0,1,.t 57),(1,1,.t 60),(2,1,.t 63)]),qo 65 (.call .pure (.c (.fn 220 [] [])) [.t 56,.t 64]),qm 10 65])
 (.seq (.reg false [qm 66 3,qm 67 2,qm 68 5,qm 69 3,qm 70 5,qo 71 (.call .pure (.c (.fn 23 [] [])) [.t 69,.t 70]),qm 72 2,qm 73 3,qo 74 (.call .pure (.c (.fn 23 [] [])) [.t 72,.t 73]),qo 75 (.bsl true 4 (List.replicate 4 (.nilp)) [(0,1,.t 67),(1,1,.t 68),(2,1,.t 71),(3,1,.t 74)]),qo 76 (.call .pure (.c (.fn 220 [] [])) [.t 66,.t 75]),qm 11 76])
 (.seq (.reg false [qm 77 4,qm 78 4,qm 79 2,qo 80 (.call .pure (.c (.fn 23 [] [])) [.t 78,.t 79]),qm 81 5,qm 82 4,qo 83 (.call .pure (.c (.fn 23 [] [])) [.t 81,.t 82]),qo 84 (.bsl true 2 ([.nilp,.nilp]) [(0,1,.t 80),(1,1,.t 83)]),qo 85 (.call .pure (.c (.fn 220 [] [])) [.t 77,.t 84]),qm 12 85])
 (.seq (.reg false [qm 86 5,qm 87 4,qm 88 4,qm 89 3,qo 90 (.call .pure (.c (.fn 23 [] [])) [.t 88,.t 89]),qm 91 5,qm 92 5,qo 93 (.call .pure (.c (.fn 23 [] [])) [.t 91,.t 92]),qo 94 (.bsl true 3 ([.nilp,.nilp,.nilp]) [(0,1,.t 87),(1,1,.t 90),(2,1,.t 93)]),qo 95 (.call .pure (.c (.fn 220 [] [])) [.t 86,.t 94]),qm 13 95])
 (.seq (.seq (.reg false [qm 96 10,qm 97 2,qo 98 (.call .pure (.c (.fn 22 [] [])) [.t 96,.t 97]),qm 99 98,qg 100 (.mv (.t 11)) 99 true,qg 101 (.mv (.t 3)) 99 true,qg 102 (.call .pure (.c (.fn 22 [] [])) [.t 100,.t 101]) 99 true,qo 103 (.pick (.t 99) (.t 102) (.c (.b false))),qm 104 103,qg 105 (.mv (.t 12)) 104 true,qg 106 (.mv (.t 4)) 104 true,qg 107 (.call .pure (.c (.fn 22 [] [])) [.t 105,.t 106]) 104 true,qo 108 (.pick (.t 104) (.t 107) (.c (.b false))),qm 109 108,qg 110 (.mv (.t 13)) 109 true,qg 111 (.mv (.t 5)) 109 true,qg 112 (.call .pure (.c (.fn 22 [] [])) [.t 110,.t 111]) 109 true,qo 113 (.pick (.t 109) (.t 112) (.c (.b false)))])
 (.cond (.t 113) (.ext 0)
 .skip))
 (.reg false [qm 114 10,qm 115 11,qm 116 12,qm 117 13,qm 2 114,qm 3 115,qm 4 116,qm 5 117])))))))))
 (.seq (.reg false [qm 118 2,qm 119 3,qm 120 4,qm 121 5,qm 2 118,qm 3 119,qm 4 120,qm 5 121])
 .ret))))))))))) }
def A_ppo_isR:AFun:={ res:=[.t 2],body:=(.seq (.reg false [qo 1 (.box (.t 0)),qo 2 (.mv (.c (.b false)))])
 (.seq (.reg false [qo 3 (.fa 1 (.t 1)),qo 4 (.ld none (.t 3)),qo 5 (.bin .eql (.t 4) (.c (.i .i64 1))),qm 2 5])
 .ret)) }
def A_ppo_isW:AFun:={ res:=[.t 2],body:=(.seq (.reg false [qo 1 (.box (.t 0)),qo 2 (.mv (.c (.b false)))])
 (.seq (.reg false [qo 3 (.fa 1 (.t 1)),qo 4 (.ld none (.t 3)),qo 5 (.bin .eql (.t 4) (.c (.i .i64 2))),qm 2 5])
 .ret)) }
def A_ppo_by:AFun:={ res:=[.t 4],body:=(.seq (.reg false [qo 2 (.box (.t 0)),qo 4 (.mv (.c (.nilp)))])
 (.seq (.reg true [qo 5 (.ld (some 8) (.t 2)),qo 6 (.call .pure (.c (.fn 221 [] [])) [.t 5]),qo 7 (.ld (some 8) (.t 2)),qm 8 1,qo 9 (.call .pure (.c (.fn 40 [] [])) [.t 7,.t 8]),qo 10 (.ld (some 8) (.t 2)),qo 11 (.ld (some 8) (.t 2)),qo 12 (.call .pure (.c (.fn 48 [] [])) [.t 11]),qo 13 (.call .pure (.c (.fn 40 [] [])) [.t 10,.t 12]),qo 14 (.call .pure (.c (.fn 23 [] [])) [.t 9,.t 13]),qo 15 (.call .pure (.c (.fn 18 [] [])) [.t 6,.t 14]),qm 4 15])
 .ret)) }
def A_ppo_isM:AFun:={ res:=[.t 2],body:=(.seq (.reg false [qo 1 (.box (.t 0)),qo 2 (.mv (.c (.b false)))])
 (.seq (.reg false [qo 3 (.fa 1 (.t 1)),qo 4 (.ld none (.t 3)),qo 5 (.bin .eql (.t 4) (.c (.i .i64 1))),qm 6 5,qg 7 (.fa 1 (.t 1)) 6 false,qg 8 (.ld none (.t 7)) 6 false,qg 9 (.bin .eql (.t 8) (.c (.i .i64 2))) 6 false,qo 10 (.pick (.t 6) (.c (.b true)) (.t 9)),qm 2 10])
 .ret)) }
def A_ppo_or:AFun:={ res:=[.t 4],body:=(.seq (.reg false [qo 4 (.mv (.c (.nilp)))])
 (.seq (.seq (.reg false [qm 7 1,qo 8 (.len (.t 7)),qo 9 (.mv (.c (.i .i64 0)))])
 (.blk 0 (.loop (.seq (.reg false [qo 10 (.bin .lss (.t 9) (.t 8))])
 (.seq (.cond (.t 10) .skip
 (.ext 0))
 (.seq (.blk 1 (.seq (.reg false [qo 11 (.ia 1 (.t 7) (.t 9)),qo 12 (.ld none (.t 11)),qm 6 12])
 (.reg false [qm 13 0,qm 14 6,qo 15 (.call .pure (.c (.fn 24 [] [])) [.t 13,.t 14]),qm 0 15])))
 (.reg false [qo 16 (.bin .add (.t 9) (.c (.i .i64 1))),qm 9 16])))))))
 (.seq (.reg false [qm 17 0,qm 4 17])
 .ret))) }
def A_ppo_ploc:AFun:={ res:=[.t 2],body:=(.seq (.reg false [qo 1 (.box (.t 0)),qo 2 (.mv (.c (.nilp)))])
 (.seq (.reg false [qo 4 (.ld (some 8) (.t 1)),qo 5 (.call .pure (.c (.fn 166 [] [])) [.t 4,.c (.fn 246 [] [])]),qm 3 5])
 (.seq (.reg true [qm 6 3,qo 7 (.ld (some 8) (.t 1)),qo 8 (.ld (some 8) (.t 1)),qo 9 (.call .pure (.c (.fn 41 [] [])) [.t 8]),qo 10 (.call .pure (.c (.fn 39 [] [])) [.t 7,.t 9]),qo 11 (.call .pure (.c (.fn 23 [] [])) [.t 6,.t 10]),qm 2 11])
 .ret))) }
def A_ppo_ploc_1:AFun:={ res:=[.t 2],body:=(.seq (.reg false [qo 1 (.box (.t 0)),qo 2 (.mv (.c (.b false)))])
 (.seq (.reg false [qo 3 (.fa 0 (.t 1)),qo 4 (.ld none (.t 3)),qo 5 (.bin .neq (.t 4) (.c (.i .i64 0))),qm 2 5])
 .ret)) }
structure Pk_ppo (F:Funs):Prop where
 ppo_Ppo:F 143 = some A_ppo_Ppo
 ppo_Rdw:F 145 = some A_ppo_Rdw
 ppo_Detour:F 146 = some A_ppo_Detour
 ppo_Parts:F 165 = some A_ppo_Parts
 ppo_isR:F 167 = some A_ppo_isR
 ppo_isW:F 168 = some A_ppo_isW
 ppo_by:F 170 = some A_ppo_by
 ppo_isM:F 219 = some A_ppo_isM
 ppo_or:F 220 = some A_ppo_or
 ppo_ploc:F 221 = some A_ppo_ploc
 ppo_ploc_1:F 246 = some A_ppo_ploc_1
end Go.Ab
end
section
set_option linter.unusedVariables false
set_option linter.unusedSimpArgs false
namespace Go.Ab
variable {F:Funs}
structure PpoF (F:Funs):Prop where
 pp:Pk_ppo F
 pe:Pk_eco F
 pr:Pk_rel F
 po:F 60 = some A_graph_Po
 gof:F 81 = some A_graph_Of
 set:F 166 = some A_graph_Set
 ls:RelLs F
section
variable (X:Gr)
end
def orL (R:Rw) (l:List Rw):Rw:=l.foldl orR R
section
variable (S:PpoF F)
include S
variable {X:Gr} (hX:Few X)
include hX
end
end Go.Ab
end
section
set_option linter.unusedVariables false
set_option linter.unusedSimpArgs false
namespace Go.Ab
variable {F:Funs}
structure OrdF (F:Funs):Prop where
 po:Pk_order F
 sy:SyncF F
def oR (e:Ev):Bool:=e.kd == 1
def oW (e:Ev):Bool:=e.kd == 2
def oF (e:Ev):Bool:=e.kd == 3
def oRel (e:Ev):Bool:=e.kd == 2 && e.md == 2
def oAcq (e:Ev):Bool:=e.kd == 1 && e.md == 1
def oSc (e:Ev):Bool:=e.kd == 3 && e.md == 4
def oEx (e:Ev):Bool:=e.kd == 1 && e.ex
section
variable (S:OrdF F)
include S
theorem so_R (e:Ev):pureS F 240 [.agg (evC e)] = some (.b (oR e)):=by
 refine pure_of S.po.order_isR ?_
 simp (disch:=omega) only[A_order_isR,wp,qa,qb,qc,gl]
 rfl
theorem so_W (e:Ev):pureS F 203 [.agg (evC e)] = some (.b (oW e)):=by
 refine pure_of S.po.order_isW ?_
 simp (disch:=omega) only[A_order_isW,wp,qa,qb,qc,gl]
 rfl
theorem so_F (e:Ev):pureS F 200 [.agg (evC e)] = some (.b (oF e)):=by
 refine pure_of S.po.order_isF ?_
 simp (disch:=omega) only[A_order_isF,wp,qa,qb,qc,gl]
 rfl
theorem so_Rel (e:Ev):pureS F 196 [.agg (evC e)] = some (.b (oRel e)):=by
 refine pure_of S.po.order_isRel ?_
 have h:=so_W S e
 unfold oRel
 unfold oW at h
 cases c:(e.kd == 2) with
 | true => rw[c] at h;simp (disch:=omega) only[A_order_isRel,wp,qa,qb,qc,gl,h]
 | false => rw[c] at h;simp (disch:=omega) only[A_order_isRel,wp,qa,qb,qc,gl,h]
theorem so_Acq (e:Ev):pureS F 198 [.agg (evC e)] = some (.b (oAcq e)):=by
 refine pure_of S.po.order_isAcq ?_
 have h:=so_R S e
 unfold oAcq
 unfold oR at h
 cases c:(e.kd == 1) with
 | true => rw[c] at h;simp (disch:=omega) only[A_order_isAcq,wp,qa,qb,qc,gl,h]
 | false => rw[c] at h;simp (disch:=omega) only[A_order_isAcq,wp,qa,qb,qc,gl,h]
theorem so_Sc (e:Ev):pureS F 241 [.agg (evC e)] = some (.b (oSc e)):=by
 refine pure_of S.po.order_isSc ?_
 have h:=so_F S e
 unfold oSc
 unfold oF at h
 cases c:(e.kd == 3) with
 | true => rw[c] at h;simp (disch:=omega) only[A_order_isSc,wp,qa,qb,qc,gl,h]
 | false => rw[c] at h;simp (disch:=omega) only[A_order_isSc,wp,qa,qb,qc,gl,h]
theorem so_Ex (e:Ev):pureS F 245 [.agg (evC e)] = some (.b (oEx e)):=by
 refine pure_of S.po.order_isEx ?_
 have h:=so_R S e
 unfold oEx
 unfold oR at h
 cases c:(e.kd == 1) with
 | true => rw[c] at h;simp (disch:=omega) only[A_order_isEx,wp,qa,qb,qc,gl,h]
 | false => rw[c] at h;simp (disch:=omega) only[A_order_isEx,wp,qa,qb,qc,gl,h]
end
section
variable (X:Gr)
def bobL:List Rw:=[thenR (nOf X) (poR X) (setR X oRel),thenR (nOf X) (setR X oAcq) (poR X),thenR (nOf X) (poR X) (setR X oF),thenR (nOf X) (setR X oF) (poR X),thenR (nOf X) (thenR (nOf X) (setR X oRel) (locR X)) (setR X oW)]
def bobR:Rw:=orL (newR (nOf X) []) (bobL X)
def depsR:Rw:=orL (newR (nOf X) []) [newR (nOf X) X.data,newR (nOf X) X.ctrl,thenR (nOf X) (setR X oEx) (poR X)]
def oppoR:Rw:=thenR (nOf X) (thenR (nOf X) (setR X oR) (plusR (nOf X) (orR (depsR X) (partR inner X (nOf X) (rfR X))))) (setR X oW)
def odetR:Rw:=andR (thenR (nOf X) (partR outer X (nOf X) (relE (coS X.co) X)) (partR outer X (nOf X) (rfR X))) (poR X)
def pscR:Rw:=thenR (nOf X) (thenR (nOf X) (thenR (nOf X) (thenR (nOf X) (setR X oSc) (HbP X)) (ecoR X)) (HbP X)) (setR X oSc)
def arR:Rw:=orL (newR (nOf X) []) [partR outer X (nOf X) (rfR X),bobR X,oppoR X,odetR X,pscR X]
end
def ClosR (F:Funs) (n:Nat) (f:AV) (R:Rw):Prop:=∃ fid caps,f = .fn fid [] caps∧pureS F fid caps = some (.ptr (relC n R))∧(∀ hp,frzL hp depth caps = some caps)∧∀ hp,caps.flatMap (vis hp depth) = []
def ClosL (F:Funs) (n:Nat):List AV→List Rw→Prop
 | [],[] => True
 | f :: fs,R :: Rs => ClosR F n f R∧ClosL F n fs Rs
 | _,_ => False
theorem closL_len {n:Nat}:∀ {fs:List AV} {Rs:List Rw},ClosL F n fs Rs→fs.length = Rs.length
 | [],[],_ => rfl
 | f :: fs,R :: Rs,h => by simp[closL_len h.2]
theorem closL_at {n:Nat}:∀ {fs:List AV} {Rs:List Rw} {k:Nat},ClosL F n fs Rs→(h:k < Rs.length)→∃ f,fs[k]? = some f∧ClosR F n f (Rs.getD k fun _ => 0)
 | [],[],_,_,hk => absurd hk (Nat.not_lt_zero _)
 | [],_ :: _,_,h,_ => h.elim
 | _ :: _,[],_,h,_ => h.elim
 | f :: fs,R :: Rs,0,h,_ => ⟨f,rfl,h.1⟩
 | f :: fs,R :: Rs,k + 1,h,hk => closL_at (k:=k) h.2 (by simpa using hk)
section
variable (S:OrdF F) {X:Gr} (hX:Few X)
include S hX
omit hX in
theorem so_all {fs:List AV} {Rs:List Rw} (h:ClosL F (nOf X) fs Rs) (hl:Rs.length≤1000) (t:Tok):pureS F 193 [.agg (grC X),.sl fs Rs.length t] = some (.ptr (relC (nOf X) (orL (newR (nOf X) []) Rs))):=by
 refine pure_of S.po.order_all ?_
 have hn:=nOf_le X
 have dn:pureS F 11 [.i .i64 X.evs.length,.sl [] 0 .non] = some (.ptr (relC (nOf X) (newR (nOf X) []))):=sp_new S.sy.pr X.evs.length [] .non (by simp)
 have hfl:=closL_len h
 simp (disch:=omega) only[A_order_all,wp,qa,qb,qc,gl,dn]
 refine W_loop (fun q e g => ∃ k,q = Rs.length - k∧k≤Rs.length∧e 5 = .ptr (relC (nOf X) (orL (newR (nOf X) []) (Rs.take k)))∧e 12 = .sl fs Rs.length t∧e 13 = .i .i64 Rs.length∧e 14 = .i .i64 k) Rs.length ?_ ?_
 ·refine ⟨0,rfl,Nat.zero_le _,?_⟩
  simp (disch:=omega) only[wp,qa,qb,qc]
  exact ⟨by rfl,rfl⟩
 ·rintro q e g ⟨k,rfl,hk,e5,e12,e13,e14⟩
  by_cases hk':k < Rs.length
  ·have hk1:(k:Int) < Rs.length:=by omega
   have hwk:=succ_wrap (k:=k) (by omega)
   obtain ⟨f,hf,fid,caps,rfl,hcall,hc,hv⟩:=closL_at h hk'
   have hp:part (fs.drop (k * 1)) 0 none = some (.fn fid [] caps):=by
    simp only[part,List.getElem?_drop,Nat.mul_one,Nat.add_zero,hf]
   have hs:orL (newR (nOf X) []) (Rs.take (k + 1)) = orR (orL (newR (nOf X) []) (Rs.take k)) (Rs.getD k fun _ => 0):=by
    unfold orL
    rw[List.take_add_one,List.foldl_append,List.getElem?_eq_getElem hk',List.getD_eq_getElem?_getD,List.getElem?_eq_getElem hk']
    rfl
   generalize orL (newR (nOf X) []) (Rs.take k) = A at e5 hs
   generalize (Rs.getD k fun _ => 0) = B at hcall hs
   simp (disch:=omega) only[wp,qa,qb,qc,gl,e5,e12,e13,e14,hk1,hp,hc,hv,hcall,sp_or S.sy.pr hn hn,Nat.max_self,hwk]
   exact ⟨Rs.length - (k + 1),by omega,k + 1,rfl,by omega,by rw[hs],rfl⟩
  ·obtain rfl:k = Rs.length:=by omega
   have hk1:¬ ((Rs.length:Int) < Rs.length):=by omega
   rw[List.take_length] at e5
   simp (disch:=omega) only[wp,qa,qb,qc,gl,e5,e12,e13,e14,hk1]
theorem so_set {fid:Nat} {p:Ev→Bool} (hp:∀ e,pureS F fid [.agg (evC e)] = some (.b (p e))):pureS F 195 [.agg (grC X),.fn fid [] []] = some (.ptr (relC (nOf X) (setR X p))):=by
 refine pure_of S.po.order_set ?_
 have hs:=sp_setE S.sy.set S.sy.gof S.sy.pr (X:=X) (by have:=hX.1;omega) hp (fun hp => frzL_nil hp _) (fun hp => rfl)
 simp (disch:=omega) only[A_order_set,wp,qa,qb,qc,gl,hs]
end
end Go.Ab
end
section
set_option linter.unusedVariables false
set_option linter.unusedSimpArgs false
namespace Go.Ab
variable {F:Funs}
theorem fz_p1 (a:List AV) (hp):frzL hp depth [.ptr a] = some [.ptr a]:=by simp only[frzL_cons,frzL_nil,frz_d_ptr,consO_ok]
theorem fz_p2 (a b:List AV) (hp):frzL hp depth [.ptr a,.ptr b] = some [.ptr a,.ptr b]:=by simp only[frzL_cons,frzL_nil,frz_d_ptr,consO_ok]
theorem vs_p1 (a:List AV) (hp):[AV.ptr a].flatMap (vis hp depth) = []:=by simp only[List.flatMap_cons,List.flatMap_nil,vis_ptr,List.append_nil]
theorem vs_p2 (a b:List AV) (hp):[AV.ptr a,.ptr b].flatMap (vis hp depth) = []:=by simp only[List.flatMap_cons,List.flatMap_nil,vis_ptr,List.append_nil]
theorem fzf_1 (f:Nat) (a:List AV) (hp):frz hp depth (.fn f [] [.ptr a]) = some (.fn f [] [.ptr a]):=by
 show frz hp (8 + 1) _ = _
 simp only[frz,frzL]
theorem fzf_2 (f:Nat) (a b:List AV) (hp):frz hp depth (.fn f [] [.ptr a,.ptr b]) = some (.fn f [] [.ptr a,.ptr b]):=by
 show frz hp (8 + 1) _ = _
 simp only[frz,frzL]
theorem vsf_1 (f:Nat) (a:List AV) (hp):vis hp depth (.fn f [] [.ptr a]) = []:=by
 show vis hp (8 + 1) _ = _
 simp only[vis,List.flatMap_cons,List.flatMap_nil,List.append_nil]
theorem vsf_2 (f:Nat) (a b:List AV) (hp):vis hp depth (.fn f [] [.ptr a,.ptr b]) = []:=by
 show vis hp (8 + 1) _ = _
 simp only[vis,List.flatMap_cons,List.flatMap_nil,List.append_nil]
theorem closR_1 {n:Nat} {f:Nat} {a:List AV} {R:Rw} (h:pureS F f [.ptr a] = some (.ptr (relC n R))):ClosR F n (.fn f [] [.ptr a]) R:=⟨f,_,rfl,h,fz_p1 a,vs_p1 a⟩
theorem closR_2 {n:Nat} {f:Nat} {a b:List AV} {R:Rw} (h:pureS F f [.ptr a,.ptr b] = some (.ptr (relC n R))):ClosR F n (.fn f [] [.ptr a,.ptr b]) R:=⟨f,_,rfl,h,fz_p2 a b,vs_p2 a b⟩
section
variable (S:OrdF F) {X:Gr} (hX:Few X)
include S hX
omit hX in
theorem so_deps1 (hd:X.data.length≤1000):pureS F 242 [.ptr (grC X)] = some (.ptr (relC (nOf X) (newR (nOf X) X.data))):=by
 refine pure_of S.po.order_Deps_1 ?_
 have h5:part (List.drop 5 (grC X)) 0 none = some (.sl (pairsC X.data) X.data.length .non):=rfl
 simp (disch:=omega) only[A_order_Deps_1,wp,qa,qb,qc,gl,h5,sp_ofX S.sy]
omit hX in
theorem so_deps2 (hd:X.ctrl.length≤1000):pureS F 243 [.ptr (grC X)] = some (.ptr (relC (nOf X) (newR (nOf X) X.ctrl))):=by
 refine pure_of S.po.order_Deps_2 ?_
 have h5:part (List.drop 6 (grC X)) 0 none = some (.sl (pairsC X.ctrl) X.ctrl.length .non):=rfl
 simp (disch:=omega) only[A_order_Deps_2,wp,qa,qb,qc,gl,h5,sp_ofX S.sy]
theorem so_deps3:pureS F 244 [.ptr (grC X)] = some (.ptr (relC (nOf X) (thenR (nOf X) (setR X oEx) (poR X)))):=by
 refine pure_of S.po.order_Deps_3 ?_
 have hn:=nOf_le X
 simp (disch:=omega) only[A_order_Deps_3,wp,qa,qb,qc,gl,so_set S hX (so_Ex S),sp_poX S.sy hX,sp_then S.sy.pr hn hn,Nat.max_self]
theorem so_deps (hd:X.data.length≤1000) (hc:X.ctrl.length≤1000):pureS F 213 [.agg (grC X)] = some (.ptr (relC (nOf X) (depsR X))):=by
 refine pure_of S.po.order_Deps ?_
 have d:=so_all S (X:=X) (fs:=[.fn 242 [] [.ptr (grC X)],.fn 243 [] [.ptr (grC X)],.fn 244 [] [.ptr (grC X)]]) (Rs:=[newR (nOf X) X.data,newR (nOf X) X.ctrl,thenR (nOf X) (setR X oEx) (poR X)]) ⟨closR_1 (so_deps1 S hd),closR_1 (so_deps2 S hc),closR_1 (so_deps3 S hX),trivial⟩ (by simp) .non
 simp only[List.length_cons,List.length_nil,Nat.reduceAdd] at d
 simp (disch:=omega) only[A_order_Deps,wp,qa,qb,qc,gl,o_boxI,vBoxI_S,bxiD_ok,frzL_gr,vMapL_some,fzf_1,vsf_1,d]
 rfl
theorem so_bob1:pureS F 194 [.ptr [.ptr (relC (nOf X) (poR X))],.ptr (grC X)] = some (.ptr (relC (nOf X) (thenR (nOf X) (poR X) (setR X oRel)))):=by
 refine pure_of S.po.order_Bob_1 ?_
 have hn:=nOf_le X
 simp (disch:=omega) only[A_order_Bob_1,wp,qa,qb,qc,gl,so_set S hX (so_Rel S),sp_then S.sy.pr hn hn,Nat.max_self]
theorem so_bob2:pureS F 197 [.ptr (grC X),.ptr [.ptr (relC (nOf X) (poR X))]] = some (.ptr (relC (nOf X) (thenR (nOf X) (setR X oAcq) (poR X)))):=by
 refine pure_of S.po.order_Bob_2 ?_
 have hn:=nOf_le X
 simp (disch:=omega) only[A_order_Bob_2,wp,qa,qb,qc,gl,so_set S hX (so_Acq S),sp_then S.sy.pr hn hn,Nat.max_self]
theorem so_bob3:pureS F 199 [.ptr [.ptr (relC (nOf X) (poR X))],.ptr (grC X)] = some (.ptr (relC (nOf X) (thenR (nOf X) (poR X) (setR X oF)))):=by
 refine pure_of S.po.order_Bob_3 ?_
 have hn:=nOf_le X
 simp (disch:=omega) only[A_order_Bob_3,wp,qa,qb,qc,gl,so_set S hX (so_F S),sp_then S.sy.pr hn hn,Nat.max_self]
theorem so_bob4:pureS F 201 [.ptr (grC X),.ptr [.ptr (relC (nOf X) (poR X))]] = some (.ptr (relC (nOf X) (thenR (nOf X) (setR X oF) (poR X)))):=by
 refine pure_of S.po.order_Bob_4 ?_
 have hn:=nOf_le X
 simp (disch:=omega) only[A_order_Bob_4,wp,qa,qb,qc,gl,so_set S hX (so_F S),sp_then S.sy.pr hn hn,Nat.max_self]
theorem so_bob5:pureS F 202 [.ptr (grC X)] = some (.ptr (relC (nOf X) (thenR (nOf X) (thenR (nOf X) (setR X oRel) (locR X)) (setR X oW)))):=by
 refine pure_of S.po.order_Bob_5 ?_
 have hn:=nOf_le X
 simp (disch:=omega) only[A_order_Bob_5,wp,qa,qb,qc,gl,so_set S hX (so_Rel S),so_set S hX (so_W S),sp_locX S.sy hX,sp_then S.sy.pr hn hn,Nat.max_self]
theorem so_bob:pureS F 155 [.agg (grC X)] = some (.ptr (relC (nOf X) (bobR X))):=by
 refine pure_of S.po.order_Bob ?_
 have d:=so_all S (X:=X) (fs:=[.fn 194 [] [.ptr [.ptr (relC (nOf X) (poR X))],.ptr (grC X)],.fn 197 [] [.ptr (grC X),.ptr [.ptr (relC (nOf X) (poR X))]],.fn 199 [] [.ptr [.ptr (relC (nOf X) (poR X))],.ptr (grC X)],.fn 201 [] [.ptr (grC X),.ptr [.ptr (relC (nOf X) (poR X))]],.fn 202 [] [.ptr (grC X)]]) (Rs:=bobL X) ⟨closR_2 (so_bob1 S hX),closR_2 (so_bob2 S hX),closR_2 (so_bob3 S hX),closR_2 (so_bob4 S hX),closR_1 (so_bob5 S hX),trivial⟩ (by simp[bobL]) .non
 simp only[bobL,List.length_cons,List.length_nil,Nat.reduceAdd] at d
 simp (disch:=omega) only[A_order_Bob,wp,qa,qb,qc,gl,o_boxI,vBoxI_S,bxiD_ok,frzL_gr,vMapL_some,sp_poX S.sy hX]
 refine W_immM (fun e g => e 1 = .ptr (grC X)∧e 3 = .mp 4 0∧g.hp 4 = some (.cells [.ptr (relC (nOf X) (poR X))] false)∧4 < g.nx) ?_ ?_
 ·simp (disch:=omega) only[wp,qa,qb,qc,gl]
  trivial
 ·have r5:∀ x:AV,List.replicate 5 x = [x,x,x,x,x]:=fun _ => rfl
  rintro e g ⟨e1,e3,hg,hnx⟩
  have hfz:frz g.hp depth (e 3) = some (.ptr [.ptr (relC (nOf X) (poR X))]):=by
   rw[e3]
   refine frz_d_mp hg ?_
   show frzL g.hp (7 + 1) [AV.ptr (relC (nOf X) (poR X))] = _
   simp only[frzL,frz]
  rw[W_imm hfz]
  simp (disch:=omega) only[wp,qa,qb,qc,gl,e1,r5,fzf_1,vsf_1,fzf_2,vsf_2,d]
  rfl
theorem so_ppo (hd:X.data.length≤1000) (hc:X.ctrl.length≤1000):pureS F 207 [.agg (grC X)] = some (.ptr (relC (nOf X) (oppoR X))):=by
 refine pure_of S.po.order_Ppo ?_
 have hn:=nOf_le X
 simp (disch:=omega) only[A_order_Ppo,wp,qa,qb,qc,gl,so_deps S hX hd hc,so_set S hX (so_R S),so_set S hX (so_W S),sp_rfX S.sy hX,sp_Inner S.sy.pe S.sy.gof S.sy.pr hn,sp_or S.sy.pr hn hn,sp_plus S.sy.pr hn,sp_then S.sy.pr hn hn,Nat.max_self]
 rfl
theorem so_detour:pureS F 209 [.agg (grC X)] = some (.ptr (relC (nOf X) (odetR X))):=by
 refine pure_of S.po.order_Detour ?_
 have hn:=nOf_le X
 simp (disch:=omega) only[A_order_Detour,wp,qa,qb,qc,gl,sp_rfX S.sy hX,sp_poX S.sy hX,sp_Co S.sy.pe S.sy.gof S.sy.pr hX,sp_Outer S.sy.pe S.sy.gof S.sy.pr hn,sp_and S.sy.pr hn hn,sp_then S.sy.pr hn hn,Nat.max_self]
 rfl
theorem so_psc (hr:X.rmw.length≤1000):pureS F 211 [.agg (grC X)] = some (.ptr (relC (nOf X) (pscR X))):=by
 refine pure_of S.po.order_Psc ?_
 have hn:=nOf_le X
 simp (disch:=omega) only[A_order_Psc,wp,qa,qb,qc,gl,so_set S hX (so_Sc S),sp_Hb S.sy hX hr,sp_Eco S.sy.pe S.sy.gof S.sy.pr hX,sp_then S.sy.pr hn hn,Nat.max_self]
 rfl
theorem so_ar1:pureS F 204 [.ptr (grC X)] = some (.ptr (relC (nOf X) (partR outer X (nOf X) (rfR X)))):=by
 refine pure_of S.po.order_Ar_1 ?_
 have hn:=nOf_le X
 simp (disch:=omega) only[A_order_Ar_1,wp,qa,qb,qc,gl,sp_rfX S.sy hX,sp_Outer S.sy.pe S.sy.gof S.sy.pr hn]
theorem so_ar2:pureS F 205 [.ptr (grC X)] = some (.ptr (relC (nOf X) (bobR X))):=by
 refine pure_of S.po.order_Ar_2 ?_
 simp (disch:=omega) only[A_order_Ar_2,wp,qa,qb,qc,gl,so_bob S hX]
theorem so_ar3 (hd:X.data.length≤1000) (hc:X.ctrl.length≤1000):pureS F 206 [.ptr (grC X)] = some (.ptr (relC (nOf X) (oppoR X))):=by
 refine pure_of S.po.order_Ar_3 ?_
 simp (disch:=omega) only[A_order_Ar_3,wp,qa,qb,qc,gl,so_ppo S hX hd hc]
theorem so_ar4:pureS F 208 [.ptr (grC X)] = some (.ptr (relC (nOf X) (odetR X))):=by
 refine pure_of S.po.order_Ar_4 ?_
 simp (disch:=omega) only[A_order_Ar_4,wp,qa,qb,qc,gl,so_detour S hX]
theorem so_ar5 (hr:X.rmw.length≤1000):pureS F 210 [.ptr (grC X)] = some (.ptr (relC (nOf X) (pscR X))):=by
 refine pure_of S.po.order_Ar_5 ?_
 simp (disch:=omega) only[A_order_Ar_5,wp,qa,qb,qc,gl,so_psc S hX hr]
theorem so_ar (hd:X.data.length≤1000) (hc:X.ctrl.length≤1000) (hr:X.rmw.length≤1000):pureS F 156 [.agg (grC X)] = some (.ptr (relC (nOf X) (arR X))):=by
 refine pure_of S.po.order_Ar ?_
 have d:=so_all S (X:=X) (fs:=[.fn 204 [] [.ptr (grC X)],.fn 205 [] [.ptr (grC X)],.fn 206 [] [.ptr (grC X)],.fn 208 [] [.ptr (grC X)],.fn 210 [] [.ptr (grC X)]]) (Rs:=[partR outer X (nOf X) (rfR X),bobR X,oppoR X,odetR X,pscR X]) ⟨closR_1 (so_ar1 S hX),closR_1 (so_ar2 S hX),closR_1 (so_ar3 S hX hd hc),closR_1 (so_ar4 S hX),closR_1 (so_ar5 S hX hr),trivial⟩ (by simp) .non
 simp only[List.length_cons,List.length_nil,Nat.reduceAdd] at d
 have r5:∀ x:AV,List.replicate 5 x = [x,x,x,x,x]:=fun _ => rfl
 simp (disch:=omega) only[A_order_Ar,wp,qa,qb,qc,gl,r5,o_boxI,vBoxI_S,bxiD_ok,frzL_gr,vMapL_some,fzf_1,vsf_1,d]
 rfl
end
end Go.Ab
end
section
set_option linter.unusedVariables false
set_option linter.unusedSimpArgs false
namespace Go.Ab
variable {F:Funs}
def kindQ (k f t:Int) (e:Ev):Bool:=e.kd == k && (decide (f≤e.md) && decide (e.md≤t))
theorem sp_kind (h225:F 225 = some A_xref06_Kind) (h27:F 27 = some A_xref01_New) {X:Gr} (hn:X.evs.length≤40) (k f t:Int):pureS F 225 [.agg (grC X),.i .i64 k,.i .i64 f,.i .i64 t] = some (.ptr (matC X.evs.length (kindK X (kindQ k f t) X.evs.length))):=by
 refine pure_of_thaw h225 (matC_flat _ _) ?_
 have s6:∀ b1 b2 b3 b4 b5 b6 c1 c2 c3 c4 c5 c6:AV,splice [b1,b2,b3,b4,b5,b6] 0 [c1,c2,c3,c4,c5,c6] = [c1,c2,c3,c4,c5,c6]:=fun _ _ _ _ _ _ _ _ _ _ _ _ => rfl
 simp (disch:=omega) only[A_xref06_Kind,wp,qa,qb,qc,gl,ml,thaw27 h27]
 refine W_loop (fun q e g => ∃ a:Nat,q = X.evs.length - a∧a≤X.evs.length∧e 1 = .i .i64 k∧e 2 = .i .i64 f∧e 3 = .i .i64 t∧e 4 = .mp 0 0∧e 9 = .mp 5 0∧e 10 = .i .i64 a∧g.hp 0 = some (.cells (grC X) false)∧g.hp 5 = some (.cells (matC X.evs.length (kindK X (kindQ k f t) a)) false)∧5 < g.nx) X.evs.length ?_ ?_
 ·refine ⟨0,rfl,Nat.zero_le _,?_⟩
  simp (disch:=omega) only[wp,qa,qb,qc]
  exact ⟨rfl,by rw[kindK_0],by first | omega | (dsimp only;omega)⟩
 ·rintro q e g ⟨a,rfl,ha,e1,e2,e3,e4,e9,e10,hg,hm,hnx⟩
  by_cases ha':a < X.evs.length
  ·have ha1:(a:Int) < X.evs.length:=by omega
   have hwa:=succ_wrap (k:=a) (by omega)
   have hp:=ev_part ha'
   have hs:=kindK_succ X (kindQ k f t) a
   have hset:=fun x => matC_set (n:=X.evs.length) (M:=kindK X (kindQ k f t) a) (a:=a) (b:=a) (x:=x) (by omega)
   generalize X.evs.getD a ev0 = ev at hp hs
   obtain ⟨th,kd,md,lc,vl,ex⟩:=ev
   have hq:kindQ k f t ⟨th,kd,md,lc,vl,ex⟩ = (kd == k && (decide (f≤md) && decide (md≤t))):=rfl
   have fin:∀ x,x = kindQ k f t ⟨th,kd,md,lc,vl,ex⟩→X.evs.length - (a + 1) < X.evs.length - a∧upd2 (kindK X (kindQ k f t) a) a a x = kindK X (kindQ k f t) (a + 1):=fun x hx => ⟨by omega,by rw[hx,hs]⟩
   cases c1:(kd == k)
   case false =>
    simp (disch:=omega) only[wp,qa,qb,qc,gl,ml,e1,e2,e3,e4,e9,e10,hg,hm,ha1,hp,s6,c1,hset,hwa]
    obtain ⟨f1,f2⟩:=fin false (by rw[hq,c1];rfl)
    exact ⟨_,f1,a + 1,rfl,by omega,rfl,by rw[f2],by first | omega | (dsimp only;omega)⟩
   by_cases c2:f≤md
   case neg =>
    simp (disch:=omega) only[wp,qa,qb,qc,gl,ml,e1,e2,e3,e4,e9,e10,hg,hm,ha1,hp,s6,c1,c2,hset,hwa]
    obtain ⟨f1,f2⟩:=fin false (by rw[hq,c1,decide_eq_false c2];rfl)
    exact ⟨_,f1,a + 1,rfl,by omega,rfl,by rw[f2],by first | omega | (dsimp only;omega)⟩
   simp (disch:=omega) only[wp,qa,qb,qc,gl,ml,e1,e2,e3,e4,e9,e10,hg,hm,ha1,hp,s6,c1,c2,hset,hwa]
   obtain ⟨f1,f2⟩:=fin (decide (md≤t)) (by rw[hq,c1,decide_eq_true c2];simp)
   exact ⟨_,f1,a + 1,rfl,by omega,rfl,by rw[f2],by first | omega | (dsimp only;omega)⟩
  ·obtain rfl:a = X.evs.length:=by omega
   have ha1:¬ ((X.evs.length:Int) < X.evs.length):=by omega
   simp (disch:=omega) only[wp,qa,qb,qc,gl,ml,e1,e2,e3,e4,e9,e10,hg,hm,ha1]
   exact ⟨_,rfl,hm⟩
def MIs (F:Funs) (f:Nat) (X:Gr) (R:Rw):Prop:=∃ A,pureS F f [.agg (grC X)] = some (.ptr (matC X.evs.length A))∧EqN X.evs.length A R
structure RefF (F:Funs):Prop where
 px:Pk_xref01 F
 star:F 231 = some A_xref01_R_Star
 p9:Pk_xref09 F
 p6:Pk_xref06 F
 kind:F 225 = some A_xref06_Kind
 of:F 223 = some A_xref06_Of
section
variable (S:RefF F) {X:Gr} (h:GraphOk X)
include S h
theorem RefF.k (k f t:Int):pureS F 225 [.agg (grC X),.i .i64 k,.i .i64 f,.i .i64 t] = some (.ptr (matC X.evs.length (kindK X (kindQ k f t) X.evs.length))):=sp_kind S.kind S.px.xref01_New h.n40 k f t
theorem RefF.ofL (l:List (Int × Int)) (hl:l.length≤1000) (t:Tok):pureS F 223 [.agg (grC X),.sl (pairsC l) l.length t] = some (.ptr (matC X.evs.length (newM X.evs.length l))):=by
 refine pure_of S.of ?_
 have n40:=h.n40
 have d2:=sp_newM S.px.xref01_New (X.evs.length:Int) l .non (by omega)
 rw[show clamp (X.evs.length:Int) = X.evs.length by unfold clamp;omega] at d2
 simp (disch:=omega) only[A_xref06_Of,wp,qa,qb,qc,gl,d2]
theorem RefF.st (A:Mx):pureS F 231 [.ptr (matC X.evs.length A)] = some (.ptr (matC X.evs.length (mbM (plM X.evs.length A X.evs.length) X.evs.length))):=by
 refine pure_of S.star ?_
 simp (disch:=omega) only[A_xref01_R_Star,wp,qa,qb,qc,gl,sp_mplus S.px.xref01_R_Plus S.px.xref01_New h.n40,sp_mmaybe S.px.xref01_R_Maybe S.px.xref01_New h.n40]
theorem RefF.rf:pureS F 69 [.agg (grC X)] = some (.ptr (matC X.evs.length (anyM (rfL X X.rf.length)))):=by
 have n40:=h.n40
 have hrl:=h.rfl
 exact sp_mRf S.p9.xref09_Rf S.px.xref01_New (X:=X) n40 (by omega) (fun i hi => by have:=(h.rfr i (by omega)).2;omega)
theorem RefF.po:pureS F 84 [.agg (grC X)] = some (.ptr (matC X.evs.length (mpoM X))):=sp_mPo S.p6.xref06_Po S.px.xref01_New h.n40
theorem RefF.loc:pureS F 73 [.agg (grC X)] = some (.ptr (matC X.evs.length (locM X))):=sp_mLoc S.p9.xref09_Loc S.p6.xref06_Po S.px.xref01_New h.n40
theorem RefF.inner (A:Mx):pureS F 74 [.agg (grC X),.ptr (matC X.evs.length A)] = some (.ptr (matC X.evs.length (prtM X true A))):=sp_mInner S.p9.xref09_Inner S.p9.xref09_part S.px.xref01_New h.n40 A
theorem RefF.outer (A:Mx):pureS F 75 [.agg (grC X),.ptr (matC X.evs.length A)] = some (.ptr (matC X.evs.length (prtM X false A))):=sp_mOuter S.p9.xref09_Outer S.p9.xref09_part S.px.xref01_New h.n40 A
theorem RefF.then (A B:Mx):pureS F 32 [.ptr (matC X.evs.length A),.ptr (matC X.evs.length B)] = some (.ptr (matC X.evs.length (thM A B X.evs.length X.evs.length))):=by
 have:=sp_mthen S.px.xref01_R_Then S.px.xref01_New h.n40 h.n40 A B
 rwa [Nat.max_self] at this
theorem RefF.or (A B:Mx):pureS F 29 [.ptr (matC X.evs.length A),.ptr (matC X.evs.length B)] = some (.ptr (matC X.evs.length (opM (fun x y => x || y) A B X.evs.length))):=by
 have:=sp_mor S.px.xref01_R_Or S.px.xref01_New h.n40 h.n40 A B
 rwa [Nat.max_self] at this
theorem RefF.and (A B:Mx):pureS F 30 [.ptr (matC X.evs.length A),.ptr (matC X.evs.length B)] = some (.ptr (matC X.evs.length (opM (fun x y => x && y) A B X.evs.length))):=by
 have:=sp_mand S.px.xref01_R_And S.px.xref01_New h.n40 h.n40 A B
 rwa [Nat.max_self] at this
theorem RefF.plus (A:Mx):pureS F 34 [.ptr (matC X.evs.length A)] = some (.ptr (matC X.evs.length (plM X.evs.length A X.evs.length))):=sp_mplus S.px.xref01_R_Plus S.px.xref01_New h.n40 A
theorem RefF.maybe (A:Mx):pureS F 35 [.ptr (matC X.evs.length A)] = some (.ptr (matC X.evs.length (mbM A X.evs.length))):=sp_mmaybe S.px.xref01_R_Maybe S.px.xref01_New h.n40 A
end
section
variable {X:Gr} (h:GraphOk X)
include h
theorem kq {k f t:Int} {p:Ev→Bool} (hq:∀ e:Ev,(e.kd = 1∧(e.md = 0∨e.md = 1))∨(e.kd = 2∧(e.md = 0∨e.md = 2))∨(e.kd = 3∧1≤e.md∧e.md≤4)→p e = kindQ k f t e):EqN X.evs.length (kindK X (kindQ k f t) X.evs.length) (setR X p):=
 EqN.set h fun i hi => hq _ (ev_kinds h i hi)
end
theorem q_W (e:Ev) (h:(e.kd = 1∧(e.md = 0∨e.md = 1))∨(e.kd = 2∧(e.md = 0∨e.md = 2))∨(e.kd = 3∧1≤e.md∧e.md≤4)):setP 2 [] e = kindQ 2 0 2 e:=by
 unfold setP kindQ
 rcases h with ⟨h1,h2⟩ | ⟨h1,h2⟩ | ⟨h1,h2,h3⟩
 ·rw[h1];rfl
 ·rcases h2 with h2 | h2<;>rw[h1,h2]<;>rfl
 ·rw[h1];rfl
theorem q_md (k f:Int) (e:Ev):setP k [f] e = kindQ k f f e:=by
 unfold setP kindQ
 congr 1
 rw[Bool.eq_iff_iff]
 simp
 omega
theorem q_Frel (e:Ev) (h:(e.kd = 1∧(e.md = 0∨e.md = 1))∨(e.kd = 2∧(e.md = 0∨e.md = 2))∨(e.kd = 3∧1≤e.md∧e.md≤4)):setP 3 [2,3,4] e = kindQ 3 2 4 e:=by
 unfold setP kindQ
 congr 1
 rw[Bool.eq_iff_iff]
 simp
 omega
section
variable (S:RefF F) (p10:Pk_xref10 F) {X:Gr} (h:GraphOk X)
include S p10 h
theorem mW:pureS F 230 [.agg (grC X)] = some (.ptr (matC X.evs.length (kindK X (kindQ 2 0 2) X.evs.length))):=by
 refine pure_of p10.xref10_W ?_
 simp (disch:=omega) only[A_xref10_W,wp,qa,qb,qc,gl,S.k h]
theorem mWrel:pureS F 232 [.agg (grC X)] = some (.ptr (matC X.evs.length (kindK X (kindQ 2 2 2) X.evs.length))):=by
 refine pure_of p10.xref10_Wrel ?_
 simp (disch:=omega) only[A_xref10_Wrel,wp,qa,qb,qc,gl,S.k h]
theorem mFrel:pureS F 233 [.agg (grC X)] = some (.ptr (matC X.evs.length (kindK X (kindQ 3 2 4) X.evs.length))):=by
 refine pure_of p10.xref10_Frel ?_
 simp (disch:=omega) only[A_xref10_Frel,wp,qa,qb,qc,gl,S.k h]
theorem mRacq:pureS F 234 [.agg (grC X)] = some (.ptr (matC X.evs.length (kindK X (kindQ 1 1 1) X.evs.length))):=by
 refine pure_of p10.xref10_Racq ?_
 simp (disch:=omega) only[A_xref10_Racq,wp,qa,qb,qc,gl,S.k h]
theorem mFacq:pureS F 235 [.agg (grC X)] = some (.ptr (matC X.evs.length (opM (fun x y => x || y) (kindK X (kindQ 3 1 1) X.evs.length) (kindK X (kindQ 3 3 4) X.evs.length) X.evs.length))):=by
 refine pure_of p10.xref10_Facq ?_
 simp (disch:=omega) only[A_xref10_Facq,wp,qa,qb,qc,gl,S.k h,S.or h]
theorem mRs (hr:X.rmw.length≤1000):MIs F 182 X (RsP X):=by
 unfold RsP locR
 rw[h.nOf]
 have w:=kq h q_W
 have l:=eq_loc h
 have c:=((l.maybe h.n40).then (eq_rf h)).then (EqN.new h.n40 X.rmw)
 refine ⟨_,pure_of p10.xref10_Rs ?_,((w.then l).then w).or (w.then (c.plus.maybe h.n40))⟩
 simp (disch:=omega) only[A_xref10_Rs,wp,qa,qb,qc,gl,mW S p10 h,S.loc h,S.maybe h,S.rf h,S.then h,S.ofL h,S.st h,S.or h]
theorem mRelease (hr:X.rmw.length≤1000):MIs F 183 X (ReleaseP X):=by
 obtain ⟨A,hA,eA⟩:=mRs S p10 h hr
 unfold ReleaseP
 rw[h.nOf]
 have w:=kq h fun e _ => q_md 2 2 e
 have f:=kq h q_Frel
 refine ⟨_,pure_of p10.xref10_Release ?_,(w.or (f.then (eq_po h))).then eA⟩
 simp (disch:=omega) only[A_xref10_Release,wp,qa,qb,qc,gl,mWrel S p10 h,mFrel S p10 h,S.po h,S.then h,S.or h,hA]
omit S p10 in
theorem eq_facq:EqN X.evs.length (opM (fun x y => x || y) (kindK X (kindQ 3 1 1) X.evs.length) (kindK X (kindQ 3 3 4) X.evs.length) X.evs.length) (setR X (setP 3 [1,3,4])):=by
 have e:EqN X.evs.length (kindK X (setP 3 [1,3,4]) X.evs.length) (setR X (setP 3 [1,3,4])):=EqN.set h fun i hi => rfl
 refine ⟨e.1,fun a b ha hb' => ?_⟩
 rw[opM_get _ _ _ _ _ _ ha hb',←e.2 a b ha hb']
 unfold kindK
 have hk:=ev_kinds h a ha
 generalize X.evs.getD a ev0 = ev at hk
 rw[Bool.eq_iff_iff]
 simp[setP,kindQ]
 omega
theorem mSw (hr:X.rmw.length≤1000):MIs F 184 X (SwP X):=by
 obtain ⟨A,hA,eA⟩:=mRelease S p10 h hr
 unfold SwP locR rfR
 rw[h.nOf]
 have r:=kq h fun e _ => q_md 1 1 e
 have l:=eq_loc h
 have read:=(eq_inner h (eq_rf h)).or ((l.maybe h.n40).then (eq_outer h (eq_rf h)))
 refine ⟨_,pure_of p10.xref10_Sw ?_,(eA.then read).then (r.or ((eq_po h).then (eq_facq h)))⟩
 simp (disch:=omega) only[A_xref10_Sw,wp,qa,qb,qc,gl,mRacq S p10 h,mFacq S p10 h,S.po h,S.loc h,S.rf h,S.inner h,S.outer h,S.maybe h,S.then h,S.or h,hA]
theorem mHb (hr:X.rmw.length≤1000):MIs F 185 X (HbP X):=by
 obtain ⟨A,hA,eA⟩:=mSw S p10 h hr
 unfold HbP
 rw[h.nOf]
 refine ⟨_,pure_of p10.xref10_Hb ?_,((eq_po h).or eA).plus⟩
 simp (disch:=omega) only[A_xref10_Hb,wp,qa,qb,qc,gl,S.po h,S.or h,S.plus h,hA]
end
end Go.Ab
end
section
namespace Go.Ab
def A_xref19_Parts:AFun:={ res:=[.cell 2 (some 4)],body:=(.seq (.reg false [qo 1 (.box (.t 0)),qo 2 (.new (List.replicate 4 (.nilp)))])
 (.seq (.reg false [qo 12 (.ld (some 8) (.t 1)),qo 13 (.call .pure (.c (.fn 222 [] [])) [.t 12]),qm 3 13])
 (.seq (.reg false [qo 14 (.ld (some 8) (.t 1)),qo 15 (.fa 5 (.t 1)),qo 16 (.ld none (.t 15)),qo 17 (.call .pure (.c (.fn 223 [] [])) [.t 14,.t 16]),qm 4 17])
 (.seq (.reg true [qo 18 (.ld (some 8) (.t 1)),qo 19 (.fa 6 (.t 1)),qo 20 (.ld none (.t 19)),qo 21 (.call .pure (.c (.fn 223 [] [])) [.t 18,.t 20]),qm 22 3,qo 23 (.call .pure (.c (.fn 32 [] [])) [.t 21,.t 22]),qo 24 (.ld (some 8) (.t 1)),qo 25 (.fa 7 (.t 1)),qo 26 (.ld none (.t 25)),qo 27 (.call .pure (.c (.fn 223 [] [])) [.t 24,.t 26]),qm 28 3,qo 29 (.call .pure (.c (.fn 32 [] [])) [.t 27,.t 28]),qm 5 23,qm 6 29])
 (.seq (.reg true [qo 30 (.ld (some 8) (.t 1)),qo 31 (.ld (some 8) (.t 1)),qo 32 (.call .pure (.c (.fn 69 [] [])) [.t 31]),qo 33 (.call .pure (.c (.fn 74 [] [])) [.t 30,.t 32]),qm 7 33])
 (.seq (.reg false [qo 34 (.fa 1 (.t 1)),qo 35 (.ld none (.t 34)),qo 36 (.len (.t 35)),qo 37 (.call .pure (.c (.fn 27 [] [])) [.t 36,.c (.sl [] 0 .rig)]),qm 8 37])
 (.seq (.reg true [qm 38 4,qo 39 (.ld (some 8) (.t 1)),qo 40 (.call .pure (.c (.fn 174 [] [])) [.t 39]),qo 41 (.call .pure (.c (.fn 29 [] [])) [.t 38,.t 40]),qm 42 7,qo 43 (.call .pure (.c (.fn 29 [] [])) [.t 41,.t 42]),qm 44 8,qm 45 6,qo 46 (.ld (some 8) (.t 1)),qo 47 (.call .pure (.c (.fn 175 [] [])) [.t 46]),qo 48 (.call .pure (.c (.fn 29 [] [])) [.t 45,.t 47]),qm 49 4,qo 50 (.ld (some 8) (.t 1)),qo 51 (.call .pure (.c (.fn 224 [] [])) [.t 50]),qo 52 (.call .pure (.c (.fn 29 [] [])) [.t 49,.t 51]),qm 53 5,qo 54 (.call .pure (.c (.fn 29 [] [])) [.t 52,.t 53]),qo 55 (.build (List.replicate 4 (.nilp)) [(0,1,.t 43),(1,1,.t 44),(2,1,.t 48),(3,1,.t 54)]),qo 9 (.new (List.replicate 4 (.nilp))),qnp (.stL 4 (.t 9) (.t 55)) [18]])
 (.seq (.reg false [qo 56 (.ld (some 4) (.t 9)),qo 10 (.new (List.replicate 4 (.nilp))),qn (.st 4 (.t 10) (.t 56))])
 (.blk 0 (.loop (.blk 1 (.seq (.reg true [qo 57 (.fa 0 (.t 9)),qo 58 (.ld none (.t 57)),qo 59 (.fa 2 (.t 10)),qo 60 (.ld none (.t 59)),qo 61 (.call .pure (.c (.fn 29 [] [])) [.t 58,.t 60]),qo 62 (.fa 1 (.t 10)),qo 63 (.ld none (.t 62)),qo 64 (.fa 2 (.t 10)),qo 65 (.ld none (.t 64)),qo 66 (.call .pure (.c (.fn 32 [] [])) [.t 63,.t 65]),qo 67 (.call .pure (.c (.fn 29 [] [])) [.t 61,.t 66]),qo 68 (.fa 0 (.t 10)),qo 69 (.ld none (.t 68)),qo 70 (.fa 0 (.t 10)),qo 71 (.ld none (.t 70)),qo 72 (.call .pure (.c (.fn 32 [] [])) [.t 69,.t 71]),qo 73 (.call .pure (.c (.fn 29 [] [])) [.t 67,.t 72]),qo 74 (.fa 0 (.t 10)),qo 75 (.ld none (.t 74)),qo 76 (.fa 3 (.t 10)),qo 77 (.ld none (.t 76)),qo 78 (.call .pure (.c (.fn 29 [] [])) [.t 75,.t 77]),qo 79 (.fa 1 (.t 10)),qo 80 (.ld none (.t 79)),qo 81 (.fa 3 (.t 10)),qo 82 (.ld none (.t 81)),qo 83 (.call .pure (.c (.fn 32 [] [])) [.t 80,.t 82]),qo 84 (.call .pure (.c (.fn 29 [] [])) [.t 78,.t 83]),qo 85 (.fa 0 (.t 10)),qo 86 (.ld none (.t 85)),qo 87 (.fa 1 (.t 10)),qo 88 (.ld none (.t 87)),qo 89 (.call .pure (.c (.fn 32 [] [])) [.t 86,.t 88]),qo 90 (.call .pure (.c (.fn 29 [] [])) [.t 84,.t 89]),qo 91 (.fa 2 (.t 9)),qo 92 (.ld none (.t 91)),qo 93 (.fa 2 (.t 10)),qo 94 (.ld none (.t 93)),qo 95 (.fa 0 (.t 10)),qo 96 (.ld none (.t 95)),qo 97 (.call .pure (.c (.fn 32 [] [])) [.t 94,.t 96]),qo 98 (.call .pure (.c (.fn 29 [] [])) [.t 92,.t 97]),qo 99 (.fa 3 (.t 10)),qo 100 (.ld none (.t 99)),qo 101 (.fa 2 (.t 10)),qo 102 (.ld none (.t 101)),qo 103 (.call .pure (.c (.fn 32 [] [])) [.t 100,.t 102]),qo 104 (.call .pure (.c (.fn 29 [] [])) [.t 98,.t 103]),qo 105 (.fa 3 (.t 9)),qo 106 (.ld none (.t 105)),qo 107 (.fa 2 (.t 10)),qo 108 (.ld none (.t 107)),qo 109 (.call .pure (.c (.fn 29 [] [])) [.t 106,.t 108]),qo 110 (.fa 2 (.t 10)),qo 111 (.ld none (.t 110)),qo 112 (.fa 1 (.t 10)),qo 113 (.ld none (.t 112)),qo 114 (.call .pure (.c (.fn 32 [] [])) [.t 111,.t 113]),qo 115 (.call .pure (.c (.fn 29 [] [])) [.t 109,.t 114]),qo 116 (.fa 3 (.t 10)),qo 117 (.ld none (.t 116)),qo 118 (.fa 3 (.t 10)),qo 119 (.ld none (.t 118)),qo 120 (.call .pure (.c (.fn 32 [] [])) [.t 117,.t 119]),qo 121 (.call .pure (.c (.fn 29 [] [])) [.t 115,.t 120]),qo 122 (.build (List.replicate 4 (.nilp)) [(0,1,.t 73),(1,1,.t 90),(2,1,.t 104),(3,1,.t 121)]),qo 11 (.new (List.replicate 4 (.nilp))),qnp (.stL 4 (.t 11) (.t 122)) [66]])
 (.seq (.reg true [qo 123 (.fa 0 (.t 11)),qo 124 (.ld none (.t 123)),qo 125 (.fa 0 (.t 10)),qo 126 (.ld none (.t 125)),qo 127 (.call .pure (.c (.fn 29 [] [])) [.t 124,.t 126]),qo 128 (.fa 1 (.t 11)),qo 129 (.ld none (.t 128)),qo 130 (.fa 1 (.t 10)),qo 131 (.ld none (.t 130)),qo 132 (.call .pure (.c (.fn 29 [] [])) [.t 129,.t 131]),qo 133 (.fa 2 (.t 11)),qo 134 (.ld none (.t 133)),qo 135 (.fa 2 (.t 10)),qo 136 (.ld none (.t 135)),qo 137 (.call .pure (.c (.fn 29 [] [])) [.t 134,.t 136]),qo 138 (.fa 3 (.t 11)),qo 139 (.ld none (.t 138)),qo 140 (.fa 3 (.t 10)),qo 141 (.ld none (.t 140)),qo 142 (.call .pure (.c (.fn 29 [] [])) [.t 139,.t 141]),qo 143 (.build (List.replicate 4 (.nilp)) [(0,1,.t 127),(1,1,.t 132),(2,1,.t 137),(3,1,.t 142)]),qn (.st 4 (.t 11) (.t 143))])
 (.seq (.seq (.reg false [qo 144 (.fa 0 (.t 11)),qo 145 (.ld none (.t 144)),qo 146 (.fa 0 (.t 10)),qo 147 (.ld none (.t 146)),qo 148 (.call .pure (.c (.fn 36 [] [])) [.t 145,.t 147]),qm 149 148,qg 150 (.fa 1 (.t 11)) 149 true,qg 151 (.ld none (.t 150)) 149 true,qg 152 (.fa 1 (.t 10)) 149 true,qg 153 (.ld none (.t 152)) 149 true,qg 154 (.call .pure (.c (.fn 36 [] [])) [.t 151,.t 153]) 149 true,qo 155 (.pick (.t 149) (.t 154) (.c (.b false))),qm 156 155,qg 157 (.fa 2 (.t 11)) 156 true,qg 158 (.ld none (.t 157)) 156 true,qg 159 (.fa 2 (.t 10)) 156 true,qg 160 (.ld none (.t 159)) 156 true,qg 161 (.call .pure (.c (.fn 36 [] [])) [.t 158,.t 160]) 156 true,qo 162 (.pick (.t 156) (.t 161) (.c (.b false))),qm 163 162,qg 164 (.fa 3 (.t 11)) 163 true,qg 165 (.ld none (.t 164)) 163 true,qg 166 (.fa 3 (.t 10)) 163 true,qg 167 (.ld none (.t 166)) 163 true,qg 168 (.call .pure (.c (.fn 36 [] [])) [.t 165,.t 167]) 163 true,qo 169 (.pick (.t 163) (.t 168) (.c (.b false)))])
 (.cond (.t 169) (.seq (.reg false [qo 170 (.ld (some 4) (.t 11)),qn (.st 4 (.t 2) (.t 170))])
 .ret)
 .skip))
 (.reg false [qo 171 (.ld (some 4) (.t 11)),qn (.st 4 (.t 10) (.t 171))]))))))))))))))) }
def A_xref19_Ppo:AFun:={ res:=[.t 2],body:=(.seq (.reg false [qo 1 (.box (.t 0)),qo 2 (.mv (.c (.nilp)))])
 (.seq (.reg false [qo 6 (.ld (some 8) (.t 1)),qo 7 (.call .pure (.c (.fn 171 [] [])) [.t 6]),qo 3 (.new (List.replicate 4 (.nilp))),qn (.st 4 (.t 3) (.t 7))])
 (.seq (.reg true [qo 8 (.ld (some 8) (.t 1)),qo 9 (.call .pure (.c (.fn 225 [] [])) [.t 8,.c (.i .i64 1),.c (.i .i64 0),.c (.i .i64 4)]),qo 10 (.ld (some 8) (.t 1)),qo 11 (.call .pure (.c (.fn 225 [] [])) [.t 10,.c (.i .i64 2),.c (.i .i64 0),.c (.i .i64 4)]),qm 4 9,qm 5 11])
 (.seq (.reg true [qm 12 4,qo 13 (.fa 0 (.t 3)),qo 14 (.ld none (.t 13)),qo 15 (.call .pure (.c (.fn 32 [] [])) [.t 12,.t 14]),qm 16 4,qo 17 (.call .pure (.c (.fn 32 [] [])) [.t 15,.t 16]),qm 18 4,qo 19 (.fa 1 (.t 3)),qo 20 (.ld none (.t 19)),qo 21 (.call .pure (.c (.fn 32 [] [])) [.t 18,.t 20]),qm 22 5,qo 23 (.call .pure (.c (.fn 32 [] [])) [.t 21,.t 22]),qo 24 (.call .pure (.c (.fn 29 [] [])) [.t 17,.t 23]),qm 2 24])
 .ret)))) }
def A_xref19_Rdw:AFun:={ res:=[.t 2],body:=(.seq (.reg false [qo 1 (.box (.t 0)),qo 2 (.mv (.c (.nilp)))])
 (.seq (.reg true [qo 3 (.ld (some 8) (.t 1)),qo 4 (.call .pure (.c (.fn 224 [] [])) [.t 3]),qo 5 (.ld (some 8) (.t 1)),qo 6 (.call .pure (.c (.fn 226 [] [])) [.t 5]),qo 7 (.ld (some 8) (.t 1)),qo 8 (.call .pure (.c (.fn 227 [] [])) [.t 7]),qo 9 (.call .pure (.c (.fn 32 [] [])) [.t 6,.t 8]),qo 10 (.call .pure (.c (.fn 30 [] [])) [.t 4,.t 9]),qm 2 10])
 .ret)) }
def A_xref19_Detour:AFun:={ res:=[.t 2],body:=(.seq (.reg false [qo 1 (.box (.t 0)),qo 2 (.mv (.c (.nilp)))])
 (.seq (.reg true [qo 3 (.ld (some 8) (.t 1)),qo 4 (.call .pure (.c (.fn 224 [] [])) [.t 3]),qo 5 (.ld (some 8) (.t 1)),qo 6 (.call .pure (.c (.fn 228 [] [])) [.t 5]),qo 7 (.ld (some 8) (.t 1)),qo 8 (.call .pure (.c (.fn 227 [] [])) [.t 7]),qo 9 (.call .pure (.c (.fn 32 [] [])) [.t 6,.t 8]),qo 10 (.call .pure (.c (.fn 30 [] [])) [.t 4,.t 9]),qm 2 10])
 .ret)) }
def A_xref19_M:AFun:={ res:=[.t 2],body:=(.seq (.reg false [qo 1 (.box (.t 0)),qo 2 (.mv (.c (.nilp)))])
 (.seq (.reg true [qo 3 (.ld (some 8) (.t 1)),qo 4 (.call .pure (.c (.fn 225 [] [])) [.t 3,.c (.i .i64 1),.c (.i .i64 0),.c (.i .i64 4)]),qo 5 (.ld (some 8) (.t 1)),qo 6 (.call .pure (.c (.fn 225 [] [])) [.t 5,.c (.i .i64 2),.c (.i .i64 0),.c (.i .i64 4)]),qo 7 (.call .pure (.c (.fn 29 [] [])) [.t 4,.t 6]),qm 2 7])
 .ret)) }
def A_xref19_Ploc:AFun:={ res:=[.t 2],body:=(.seq (.reg false [qo 1 (.box (.t 0)),qo 2 (.mv (.c (.nilp)))])
 (.seq (.reg true [qo 3 (.ld (some 8) (.t 1)),qo 4 (.ld (some 8) (.t 1)),qo 5 (.call .pure (.c (.fn 73 [] [])) [.t 4]),qo 6 (.call .pure (.c (.fn 247 [] [])) [.t 3,.t 5]),qm 2 6])
 .ret)) }
def A_xref19_fre:AFun:={ res:=[.t 2],body:=(.seq (.reg false [qo 1 (.box (.t 0)),qo 2 (.mv (.c (.nilp)))])
 (.seq (.reg true [qo 3 (.ld (some 8) (.t 1)),qo 4 (.ld (some 8) (.t 1)),qo 5 (.call .pure (.c (.fn 71 [] [])) [.t 4]),qo 6 (.call .pure (.c (.fn 75 [] [])) [.t 3,.t 5]),qm 2 6])
 .ret)) }
def A_xref19_rfe:AFun:={ res:=[.t 2],body:=(.seq (.reg false [qo 1 (.box (.t 0)),qo 2 (.mv (.c (.nilp)))])
 (.seq (.reg true [qo 3 (.ld (some 8) (.t 1)),qo 4 (.ld (some 8) (.t 1)),qo 5 (.call .pure (.c (.fn 69 [] [])) [.t 4]),qo 6 (.call .pure (.c (.fn 75 [] [])) [.t 3,.t 5]),qm 2 6])
 .ret)) }
def A_xref19_coe:AFun:={ res:=[.t 2],body:=(.seq (.reg false [qo 1 (.box (.t 0)),qo 2 (.mv (.c (.nilp)))])
 (.seq (.reg true [qo 3 (.ld (some 8) (.t 1)),qo 4 (.ld (some 8) (.t 1)),qo 5 (.call .pure (.c (.fn 70 [] [])) [.t 4]),qo 6 (.call .pure (.c (.fn 75 [] [])) [.t 3,.t 5]),qm 2 6])
 .ret)) }
def A_xref19_Mine:AFun:={ res:=[.t 4],body:=(.seq (.reg false [qo 2 (.box (.t 0)),qo 4 (.mv (.c (.nilp)))])
 (.seq (.reg false [qm 8 1,qo 9 (.nilck (.t 8)),qo 10 (.fa 0 (.t 9)),qo 11 (.ld none (.t 10)),qo 12 (.call .thaw (.c (.fn 27 [] [])) [.t 11,.c (.sl [] 0 .rig)]),qm 5 12])
 (.seq (.seq (.reg false [qo 6 (.mv (.c (.i .i64 0)))])
 (.blk 0 (.loop (.seq (.seq (.reg false [qm 13 6,qm 14 1,qo 15 (.nilck (.t 14)),qo 16 (.fa 0 (.t 15)),qo 17 (.ld none (.t 16)),qo 18 (.bin .lss (.t 13) (.t 17))])
 (.cond (.t 18) .skip
 (.ext 0)))
 (.seq (.blk 1 (.seq (.reg false [qo 7 (.mv (.c (.i .i64 0)))])
 (.blk 2 (.loop (.seq (.seq (.reg false [qm 21 7,qm 22 1,qo 23 (.nilck (.t 22)),qo 24 (.fa 0 (.t 23)),qo 25 (.ld none (.t 24)),qo 26 (.bin .lss (.t 21) (.t 25))])
 (.cond (.t 26) .skip
 (.ext 2)))
 (.seq (.blk 3 (.reg true [qm 29 5,qm 30 6,qm 31 7,qm 32 1,qm 33 6,qm 34 7,qo 35 (.nilck (.t 32)),qo 36 (.fa 1 (.t 35)),qo 37 (.iaa 40 40 (.t 36) (.t 33)),qo 38 (.iaa 40 1 (.t 37) (.t 34)),qo 39 (.ld none (.t 38)),qm 40 39,qg 41 (.fa 1 (.t 2)) 40 true,qg 42 (.ld none (.t 41)) 40 true,qg 43 (.mv (.t 6)) 40 true,qg 44 (.ia 6 (.t 42) (.t 43)) 40 true,qg 45 (.fa 0 (.t 44)) 40 true,qg 46 (.ld none (.t 45)) 40 true,qg 47 (.bin .gtr (.t 46) (.c (.i .i64 0))) 40 true,qo 48 (.pick (.t 40) (.t 47) (.c (.b false))),qm 49 48,qg 50 (.fa 1 (.t 2)) 49 true,qg 51 (.ld none (.t 50)) 49 true,qg 52 (.mv (.t 6)) 49 true,qg 53 (.ia 6 (.t 51) (.t 52)) 49 true,qg 54 (.fa 0 (.t 53)) 49 true,qg 55 (.ld none (.t 54)) 49 true,qg 56 (.fa 1 (.t 2)) 49 true,qg 57 (.ld none (.t 56)) 49 true,qg 58 (.mv (.t 7)) 49 true,qg 59 (.ia 6 (.t 57) (.t 58)) 49 true,qg 60 (.fa 0 (.t 59)) 49 true,qg 61 (.ld none (.t 60)) 49 true,qg 62 (.bin .eql (.t 55) (.t 61)) 49 true,qo 63 (.pick (.t 49) (.t 62) (.c (.b false))),qo 64 (.nilck (.t 29)),qo 65 (.fa 1 (.t 64)),qo 66 (.iaa 40 40 (.t 65) (.t 30)),qo 67 (.iaa 40 1 (.t 66) (.t 31)),qn (.st 1 (.t 67) (.t 63))]))
 (.reg false [qm 27 7,qo 28 (.bin .add (.t 27) (.c (.i .i64 1))),qm 7 28])))))))
 (.reg false [qm 19 6,qo 20 (.bin .add (.t 19) (.c (.i .i64 1))),qm 6 20]))))))
 (.seq (.reg false [qm 68 5,qm 4 68])
 .ret)))) }
structure Pk_xref19 (F:Funs):Prop where
 xref19_Parts:F 171 = some A_xref19_Parts
 xref19_Ppo:F 173 = some A_xref19_Ppo
 xref19_Rdw:F 174 = some A_xref19_Rdw
 xref19_Detour:F 175 = some A_xref19_Detour
 xref19_M:F 222 = some A_xref19_M
 xref19_Ploc:F 224 = some A_xref19_Ploc
 xref19_fre:F 226 = some A_xref19_fre
 xref19_rfe:F 227 = some A_xref19_rfe
 xref19_coe:F 228 = some A_xref19_coe
 xref19_Mine:F 247 = some A_xref19_Mine
end Go.Ab
end
section
set_option linter.unusedVariables false
set_option linter.unusedSimpArgs false
namespace Go.Ab
variable {F:Funs}
theorem RefF.co (S:RefF F) {X:Gr} (hX:FewG X) (h:GraphOk X):pureS F 70 [.agg (grC X)] = some (.ptr (matC X.evs.length (anyM (coX X X.co.length)))):=
 sp_mCo S.p9.xref09_Co S.px.xref01_New (X:=X) h.n40 (by have:=hX.co;omega) (fun j hj => by
  have hm:X.co.getD j []∈X.co:=by
   rw[List.getD_eq_getElem?_getD,List.getElem?_eq_getElem hj];exact List.getElem_mem hj
  have:=hX.cos _ hm
  have n40:=h.n40
  exact ⟨by omega,fun i hi => by have:=h.cor j hj i hi;omega⟩)
theorem RefF.fr (S:RefF F) {X:Gr} (hX:FewG X) (h:GraphOk X):pureS F 71 [.agg (grC X)] = some (.ptr (matC X.evs.length (frM X.evs.length (anyM (rfL X X.rf.length)) (anyM (coX X X.co.length))))):=
 sp_mFr S.p9.xref09_Fr S.px.xref01_New S.px.xref01_R_Then S.px.xref01_R_Back h.n40 (S.rf h) (S.co hX h)
section
variable {X:Gr} (h:GraphOk X)
include h
end
section
variable {X:Gr} (h:GraphOk X)
include h
end
section
variable (S:RefF F) (p:Pk_xref19 F) {X:Gr} (hX:FewG X) (h:GraphOk X)
include S p hX h
end
end Go.Ab
end
section
set_option linter.unusedVariables false
set_option linter.unusedSimpArgs false
namespace Go.Ab
variable {F:Funs}
theorem lck_miss {g:G} {v:AV} {i:Nat} {b:Blk} (h:g.hp i = some b) (hv:(vis g.hp depth v).contains i = false):(lckG g v).hp i = some b:=by
 unfold lckG lock
 simp only[hv]
 exact h
theorem vis_mpf {hp:Nat→Option Blk} {id off:Nat} {cs:List AV} (h:hp id = some (.cells cs false)) (hf:cs.all flat = true):vis hp depth (.mp id off) = [id]:=by
 show vis hp (8 + 1) _ = _
 have h0:∀ l:List AV,l.all flat = true→l.flatMap (vis hp 8) = []:=by
  intro l hl
  rw[List.flatMap_eq_nil_iff]
  intro v hv
  exact vis_flat (d:=7) (List.all_eq_true.1 hl v hv)
 generalize (8:Nat) = m at h0
 simp only[vis,h]
 rw[h0 _ (by rw[List.all_eq_true] at hf ⊢;exact fun v hv => hf v (List.mem_of_mem_drop hv))]
 rfl
def r11 (X:Gr):Mx:=opM (fun x y => x || y) (newM X.evs.length X.data) (newM X.evs.length X.ctrl) X.evs.length
def deps11 (X:Gr):Mx:=opM (fun x y => x || y) (r11 X) (thM (kindK X oEx X.evs.length) (mpoM X) X.evs.length X.evs.length) X.evs.length
theorem m11_deps (h256:F 256 = some A_xref11_Deps) (S:RefF F) {X:Gr} (h:GraphOk X) (hd:X.data.length≤1000) (hc:X.ctrl.length≤1000):pureS F 256 [.agg (grC X)] = some (.ptr (matC X.evs.length (deps11 X))):=by
 refine pure_of h256 ?_
 have hn:=h.n40
 have fin0:deps11 X = opM (fun x y => x || y) (r11 X) (thM (kindK X oEx X.evs.length) (mpoM X) X.evs.length X.evs.length) X.evs.length:=rfl
 have r11d:r11 X = opM (fun x y => x || y) (newM X.evs.length X.data) (newM X.evs.length X.ctrl) X.evs.length:=rfl
 simp (disch:=omega) only[A_xref11_Deps,wp,qa,qb,qc,gl,ml,S.ofL h,S.or h,thaw27 S.px.xref01_New]
 rw[←r11d]
 generalize r11 X = R0 at fin0
 refine W_loop (fun q e g => ∃ a:Nat,q = X.evs.length - a∧a≤X.evs.length∧e 1 = .mp 0 0∧e 3 = .ptr (matC X.evs.length R0)∧e 4 = .mp 15 0∧e 5 = .i .i64 a∧g.hp 0 = some (.cells (grC X) false)∧g.hp 15 = some (.cells (matC X.evs.length (kindK X oEx a)) false)∧15 < g.nx) X.evs.length ?_ ?_
 ·refine ⟨0,rfl,Nat.zero_le _,?_⟩
  simp (disch:=omega) only[wp,qa,qb,qc]
  exact ⟨rfl,by rw[kindK_0],by first | omega | (dsimp only;omega)⟩
 ·rintro q e g ⟨a,rfl,ha,e1,e3,e4,e5,hg,hm,hnx⟩
  by_cases ha':a < X.evs.length
  ·have ha1:(a:Int) < X.evs.length:=by omega
   have hwa:=succ_wrap (k:=a) (by omega)
   have kA:=ev_kd_at ha'
   have xA:=ev_ex_at ha'
   have dA:(List.drop (a * 6) (evsC X.evs)).length = X.evs.length * 6 - a * 6:=by rw[List.length_drop,evsC_len]
   have hs:=kindK_succ X oEx a
   have hset:=fun x => matC_set (n:=X.evs.length) (M:=kindK X oEx a) (a:=a) (b:=a) (x:=x) (by omega)
   have hq:oEx (X.evs.getD a ev0) = ((X.evs.getD a ev0).kd == 1 && (X.evs.getD a ev0).ex):=rfl
   rw[hq] at hs
   generalize (X.evs.getD a ev0).kd = kd at kA hs
   generalize (X.evs.getD a ev0).ex = ex at xA hs
   have fin:∀ x,x = (kd == 1 && ex)→X.evs.length - (a + 1) < X.evs.length - a∧upd2 (kindK X oEx a) a a x = kindK X oEx (a + 1):=fun x hx => ⟨by omega,by rw[hx,hs]⟩
   cases c0:(kd == 1)
   case false =>
    simp (disch:=omega) only[wp,qa,qb,qc,gl,ml,e1,e3,e4,e5,hg,hm,ha1,kA,xA,dA,c0,hset,hwa]
    obtain ⟨f1,f2⟩:=fin false (by rw[c0];rfl)
    exact ⟨_,f1,a + 1,rfl,by omega,rfl,by rw[f2],by first | omega | (dsimp only;omega)⟩
   simp (disch:=omega) only[wp,qa,qb,qc,gl,ml,e1,e3,e4,e5,hg,hm,ha1,kA,xA,dA,c0,hset,hwa]
   obtain ⟨f1,f2⟩:=fin ex (by rw[c0];rfl)
   exact ⟨_,f1,a + 1,rfl,by omega,rfl,by rw[f2],by first | omega | (dsimp only;omega)⟩
  ·obtain rfl:a = X.evs.length:=by omega
   have ha1:¬ ((X.evs.length:Int) < X.evs.length):=by omega
   simp (disch:=omega) only[wp,qa,qb,qc,gl,ml,e1,e3,e4,e5,hg,hm,ha1]
   refine W_immM (fun e g => e 1 = .mp 0 0∧e 3 = .ptr (matC X.evs.length R0)∧e 4 = .mp 15 0∧g.hp 0 = some (.cells (grC X) false)∧g.hp 15 = some (.cells (matC X.evs.length (kindK X oEx X.evs.length)) false)∧15 < g.nx) ?_ ?_
   ·simp (disch:=omega) only[wp,qa,qb,qc,gl,e1,e3,e4,e5,hg,hm]
    exact (by first | omega | (dsimp only;omega))
   ·rintro e g ⟨e1,e3,e4,hg,hm,hnx⟩
    have hfz:frz g.hp depth (e 4) = some (.ptr (matC X.evs.length (kindK X oEx X.evs.length))):=by
     rw[e4]
     exact frz_d_mp hm (frzL_flat (matC_flat _ _))
    have hg':(lckG g (e 4)).hp 0 = some (.cells (grC X) false):=by
     rw[e4]
     exact lck_miss hg (by rw[vis_mpf hm (matC_flat _ _)];rfl)
    rw[W_imm hfz]
    generalize lckG g (e 4) = g' at hg'
    simp (disch:=omega) only[wp,qa,qb,qc,gl,ml,e1,e3,hg',S.po h,S.then h,S.or h,fin0]
theorem EqN.z {n:Nat} (hn:n≤40) {A:Mx} {R:Rw} (h:EqN n A R):EqN n A (orR (newR n []) R):=
 ⟨wf_or (wf_new hn _) h.1,fun a b ha hb' => by
  have hz:=(EqN.new hn []).2 a b ha hb'
  rw[h.2 a b ha hb',hb_or,←hz]
  simp[newM]⟩
theorem q_m1 (k f:Int) (e:Ev):(e.kd == k && e.md == f) = kindQ k f f e:=by
 unfold kindQ
 congr 1
 rw[Bool.eq_iff_iff]
 simp
 omega
section
variable {X:Gr} (h:GraphOk X)
include h
theorem eq_oR:EqN X.evs.length (kindK X (kindQ 1 0 1) X.evs.length) (setR X oR):=kq h fun e hk => by
 unfold oR kindQ
 rw[Bool.eq_iff_iff]
 simp
 omega
theorem eq_oW:EqN X.evs.length (kindK X (kindQ 2 0 2) X.evs.length) (setR X oW):=kq h fun e hk => by
 unfold oW kindQ
 rw[Bool.eq_iff_iff]
 simp
 omega
theorem eq_oF:EqN X.evs.length (kindK X (kindQ 3 1 4) X.evs.length) (setR X oF):=kq h fun e hk => by
 unfold oF kindQ
 rw[Bool.eq_iff_iff]
 simp
 omega
theorem eq_oRel:EqN X.evs.length (kindK X (kindQ 2 2 2) X.evs.length) (setR X oRel):=kq h fun e _ => q_m1 2 2 e
theorem eq_oAcq:EqN X.evs.length (kindK X (kindQ 1 1 1) X.evs.length) (setR X oAcq):=kq h fun e _ => q_m1 1 1 e
theorem eq_oSc:EqN X.evs.length (kindK X (kindQ 3 4 4) X.evs.length) (setR X oSc):=kq h fun e _ => q_m1 3 4 e
theorem eq_oEx:EqN X.evs.length (kindK X oEx X.evs.length) (setR X oEx):=EqN.set h fun i hi => rfl
theorem eq_deps:EqN X.evs.length (deps11 X) (depsR X):=by
 unfold depsR
 rw[h.nOf]
 exact (((EqN.new h.n40 X.data).z h.n40).or (EqN.new h.n40 X.ctrl)).or ((eq_oEx h).then (eq_po h))
end
section
variable (S:RefF F) (p:Pk_xref11 F) (p10:Pk_xref10 F) {X:Gr} (hX:FewG X) (h:GraphOk X)
include S p p10 hX h
omit S p p10 h in
theorem FewG.l1:X.data.length≤1000∧X.ctrl.length≤1000∧X.rmw.length≤1000:=by
 have h1:=hX.data
 have h2:=hX.ctrl
 have h3:=hX.rmw
 omega
omit hX in
theorem m11_bob:MIs F 255 X (bobR X):=by
 unfold bobR bobL locR
 rw[h.nOf]
 have e1:=(eq_po h).then (eq_oRel h)
 have e2:=(eq_oAcq h).then (eq_po h)
 have e3:=(eq_po h).then (eq_oF h)
 have e4:=(eq_oF h).then (eq_po h)
 have e5:=((eq_oRel h).then (eq_loc h)).then (eq_oW h)
 refine ⟨_,pure_of p.xref11_Bob ?_,((((e1.z h.n40).or e2).or e3).or e4).or e5⟩
 simp (disch:=omega) only[A_xref11_Bob,wp,qa,qb,qc,gl,S.po h,S.k h,mWrel S p10 h,mRacq S p10 h,mW S p10 h,S.loc h,S.then h,S.or h]
omit p10 in
theorem m11_depsI:MIs F 256 X (depsR X):=by
 obtain ⟨l1,l2,l3⟩:=FewG.l1 hX
 exact ⟨_,m11_deps p.xref11_Deps S h l1 l2,eq_deps h⟩
theorem m11_ppo:MIs F 257 X (oppoR X):=by
 obtain ⟨A,hA,eA⟩:=m11_depsI S p hX h
 unfold oppoR rfR
 rw[h.nOf]
 have e1:=((eq_oR h).then ((eA.or (eq_inner h (eq_rf h))).plus)).then (eq_oW h)
 refine ⟨_,pure_of p.xref11_Ppo ?_,e1⟩
 simp (disch:=omega) only[A_xref11_Ppo,wp,qa,qb,qc,gl,S.k h,S.rf h,S.inner h,hA,S.or h,S.plus h,S.then h,mW S p10 h]
omit p10 in
theorem m11_detour:MIs F 258 X (odetR X):=by
 unfold odetR rfR
 rw[h.nOf]
 have e1:=((eq_outer h (eq_co h)).then (eq_outer h (eq_rf h))).and (eq_po h)
 refine ⟨_,pure_of p.xref11_Detour ?_,e1⟩
 simp (disch:=omega) only[A_xref11_Detour,wp,qa,qb,qc,gl,S.co hX h,S.rf h,S.outer h,S.then h,S.po h,S.and h]
theorem m11_psc (h83:F 83 = some A_xref09_Com) (h72:F 72 = some A_xref09_Eco):MIs F 259 X (pscR X):=by
 obtain ⟨l1,l2,l3⟩:=FewG.l1 hX
 obtain ⟨A,hA,eA⟩:=mHb S p10 h l3
 have he:=sp_mEco h72 S.px.xref01_New S.px.xref01_R_Plus h.n40 (sp_mCom h83 S.px.xref01_New S.px.xref01_R_Or h.n40 (S.rf h) (S.co hX h) (S.fr hX h))
 unfold pscR
 rw[h.nOf]
 have e1:=(((((eq_oSc h).then eA).then (eq_eco h)).then eA).then (eq_oSc h))
 refine ⟨_,pure_of p.xref11_Psc ?_,e1⟩
 simp (disch:=omega) only[A_xref11_Psc,wp,qa,qb,qc,gl,S.k h,hA,he,S.then h]
theorem m11_ar (h83:F 83 = some A_xref09_Com) (h72:F 72 = some A_xref09_Eco):MIs F 260 X (arR X):=by
 obtain ⟨A,hA,eA⟩:=m11_bob S p p10 h
 obtain ⟨B,hB,eB⟩:=m11_ppo S p p10 hX h
 obtain ⟨C,hC,eC⟩:=m11_detour S p hX h
 obtain ⟨D,hD,eD⟩:=m11_psc S p p10 hX h h83 h72
 unfold arR rfR
 rw[h.nOf]
 have e1:=(((((eq_outer h (eq_rf h)).z h.n40).or eA).or eB).or eC).or eD
 refine ⟨_,pure_of p.xref11_Ar ?_,e1⟩
 simp (disch:=omega) only[A_xref11_Ar,wp,qa,qb,qc,gl,S.rf h,S.outer h,hA,hB,hC,hD,S.or h]
end
end Go.Ab
end
section
set_option linter.unusedVariables false
set_option linter.unusedSimpArgs false
namespace Go.Ab
variable {F:Funs}
theorem splice_s (a:AV) (cs:List AV) (k:Nat) (v w:AV) (vs:List AV):splice (a :: cs) (k + 1) (v :: w :: vs) = a :: splice cs k (v :: w :: vs):=by
 simp only[splice,List.take_succ_cons,List.cons_append,List.length_cons]
 rw[show k + 1 + (vs.length + 1 + 1) = (k + (vs.length + 1 + 1)) + 1 by omega,List.drop_succ_cons]
theorem splice_6 (b1 b2 b3 b4 b5 b6 c1 c2 c3 c4 c5 c6:AV) (cs:List AV):splice (b1 :: b2 :: b3 :: b4 :: b5 :: b6 :: cs) 0 [c1,c2,c3,c4,c5,c6] = c1 :: c2 :: c3 :: c4 :: c5 :: c6 :: cs:=rfl
end Go.Ab
end
section
set_option linter.unusedVariables false
set_option linter.unusedSimpArgs false
namespace Go.Ab
variable {F:Funs}
def aftG (data ctrl:List (Int × Int)):Gr:=⟨2,[⟨0,2,0,0,0,false⟩,⟨0,2,0,1,0,false⟩,⟨1,1,0,0,0,false⟩,⟨1,2,0,1,0,false⟩],[-1,-1,0,-1],[[0],[1,3]],[],data,ctrl,[]⟩
def aftH (h:Int):Gr:=if h = 0 then aftG [(2,3)] [] else if h = 1 then aftG [] [(2,3)] else aftG [] []
theorem aft_few (h:Int):Few (aftH h):=by
 unfold aftH
 have key:∀ d c,Few (aftG d c):=by
  intro d c
  refine ⟨by simp[aftG],by simp[aftG],?_⟩
  intro x hx
  simp only[aftG,List.mem_cons,List.not_mem_nil,or_false] at hx
  rcases hx with rfl | rfl<;>decide
 split
 ·exact key _ _
 ·split<;>exact key _ _
end Go.Ab
end
section
set_option linter.unusedVariables false
set_option linter.unusedSimpArgs false
namespace Go.Ab
variable {F:Funs}
def aftB (b:Bool):Gr:=if b then aftH 0 else aftH 2
theorem so_after (h212:F 212 = some A_xlaw11_after) (b:Bool):pureS F 212 [.b b] = some (.agg (grC (aftB b))):=by
 refine pure_of h212 ?_
 have r5:∀ x:AV,List.replicate 5 x = [x,x,x,x,x]:=fun _ => rfl
 have r4:∀ x:AV,List.replicate 4 x = [x,x,x,x]:=fun _ => rfl
 have r7:∀ x:AV,List.replicate 7 x = [x,x,x,x,x,x,x]:=fun _ => rfl
 have s8:∀ a1 a2 a3 a4 a5 a6 a7 a8 c1 c2 c3 c4 c5 c6 c7 c8:AV,splice [a1,a2,a3,a4,a5,a6,a7,a8] 0 [c1,c2,c3,c4,c5,c6,c7,c8] = [c1,c2,c3,c4,c5,c6,c7,c8]:=fun _ _ _ _ _ _ _ _ _ _ _ _ _ _ _ _ => rfl
 have p8:∀ a1 a2 a3 a4 a5 a6 a7 a8:AV,part [a1,a2,a3,a4,a5,a6,a7,a8] 0 (some 8) = some (.agg [a1,a2,a3,a4,a5,a6,a7,a8]):=fun _ _ _ _ _ _ _ _ => rfl
 cases b
 ·simp (disch:=omega) only[A_xlaw11_after,wp,qa,qb,qc,gl,res_cell,resC,r5,r4,r7,s8,p8,splice_s,splice_6,List.length_set]
  refine frz_d_agg ?_
  show frzL _ (7 + 1) _ = _
  simp only[frzL,frz]
  rfl
 ·simp (disch:=omega) only[A_xlaw11_after,wp,qa,qb,qc,gl,res_cell,resC,r5,r4,r7,s8,p8,splice_s,splice_6,List.length_set]
  refine frz_d_agg ?_
  show frzL _ (7 + 1) _ = _
  simp only[frzL,frz]
  rfl
theorem afb_few (b:Bool):Few (aftB b):=by cases b;exact aft_few 2;exact aft_few 0
theorem afb_1:has (nOf (aftB true)) (oppoR (aftB true)) 2 3 = true:=by decide +kernel
theorem afb_2:has (nOf (aftB true)) (arR (aftB true)) 2 3 = true:=by decide +kernel
theorem afb_3:has (nOf (aftB false)) (arR (aftB false)) 2 3 = false:=by decide +kernel
theorem afb_4:has (nOf (aftB true)) (depsR (aftB true)) 2 3 = true:=by decide +kernel
theorem so_awake (h157:F 157 = some A_xlaw11_awake) (h212:F 212 = some A_xlaw11_after) (S:OrdF F):pureS F 157 [] = some (.b true):=by
 refine pure_of h157 ?_
 have a0:=so_after h212 true
 have a1:=so_after h212 false
 have n0:=nOf_le (aftB true)
 have n1:=nOf_le (aftB false)
 have p0:=so_ppo S (afb_few true) (by decide) (by decide)
 have p1:=so_ar S (afb_few true) (by decide) (by decide) (by decide)
 have p2:=so_ar S (afb_few false) (by decide) (by decide) (by decide)
 have p3:=so_deps S (afb_few true) (by decide) (by decide)
 simp (disch:=omega) only[A_xlaw11_awake,wp,qa,qb,qc,gl,a0,a1,p0,p1,p2,p3,sp_has S.sy.pr n0,sp_has S.sy.pr n1,afb_1,afb_2,afb_3,afb_4]
theorem so_allL (h252:F 252 = some A_xlaw11_all) (h254:F 254 = some A_xlaw11_same) (S:OrdF F) (T:RefF F) (p:Pk_xref11 F) (p10:Pk_xref10 F) (h83:F 83 = some A_xref09_Com) (h72:F 72 = some A_xref09_Eco) {X:Gr} (hX:FewG X) (h:GraphOk X):pureS F 252 [.agg (grC X)] = some (.b true):=by
 refine pure_of h252 ?_
 have hf:=hX.few
 have n40:=h.n40
 obtain ⟨l1,l2,l3⟩:=FewG.l1 hX
 have a1:=so_bob S hf
 have a2:=so_deps S hf l1 l2
 have a3:=so_ppo S hf l1 l2
 have a4:=so_detour S hf
 have a5:=so_psc S hf l3
 have a6:=so_ar S hf l1 l2 l3
 obtain ⟨A1,b1,e1⟩:=m11_bob T p p10 h
 obtain ⟨A2,b2,e2⟩:=m11_depsI T p hX h
 obtain ⟨A3,b3,e3⟩:=m11_ppo T p p10 hX h
 obtain ⟨A4,b4,e4⟩:=m11_detour T p hX h
 obtain ⟨A5,b5,e5⟩:=m11_psc T p p10 hX h h83 h72
 obtain ⟨A6,b6,e6⟩:=m11_ar T p p10 hX h h83 h72
 have hs:F 254 = some A_xlaw09_same:=h254
 rw[h.nOf] at a1 a2 a3 a4 a5 a6
 have c1:=sp_sameG hs T.px.xref01_SamePairs T.px.xref01_R_Pairs S.sy.pr n40 e1.2
 have c2:=sp_sameG hs T.px.xref01_SamePairs T.px.xref01_R_Pairs S.sy.pr n40 e2.2
 have c3:=sp_sameG hs T.px.xref01_SamePairs T.px.xref01_R_Pairs S.sy.pr n40 e3.2
 have c4:=sp_sameG hs T.px.xref01_SamePairs T.px.xref01_R_Pairs S.sy.pr n40 e4.2
 have c5:=sp_sameG hs T.px.xref01_SamePairs T.px.xref01_R_Pairs S.sy.pr n40 e5.2
 have c6:=sp_sameG hs T.px.xref01_SamePairs T.px.xref01_R_Pairs S.sy.pr n40 e6.2
 simp (disch:=omega) only[A_xlaw11_all,wp,qa,qb,qc,gl,a1,a2,a3,a4,a5,a6,b1,b2,b3,b4,b5,b6,c1,c2,c3,c4,c5,c6]
end Go.Ab
end
section
set_option linter.unusedVariables false
set_option maxRecDepth 100000
namespace Go.Proofs.YthafjhelijmpcaaGreat
open Go.Ab
theorem exF:ExF funs:=⟨rfl,rfl,rfl,rfl,rfl⟩
theorem chF:ChF funs:=⟨exF,rfl,rfl,rfl,rfl,rfl,rfl,rfl⟩
theorem runF:RunF funs:=⟨rfl,rfl,rfl,rfl,rfl,rfl,rfl,rfl,rfl,rfl,rfl,rfl⟩
theorem enF:EnF funs:=⟨chF,runF,rfl,rfl,rfl,rfl,rfl,rfl,rfl,rfl,rfl,rfl,rfl,rfl,rfl⟩
theorem numF:NumF funs:=⟨enF,⟨rfl,rfl,rfl,rfl,rfl,rfl⟩,rfl,rfl,rfl,rfl⟩
theorem ordF:OrdF funs:=⟨pk_order,⟨pk_sync,pk_eco,pk_rel,rfl,rfl,rfl⟩⟩
theorem refF:RefF funs:=⟨pk_xref01,rfl,pk_xref09,pk_xref06,rfl,rfl⟩
theorem orderNumbers_law (l:List Int) (hl:l.length≤Go.maxLen) (pick:Int) (tl:Tok):pureS funs 471 [.sl (intsC l) l.length tl,.i .i64 pick] = some (.b true):=by
 obtain ⟨Y,b,ho,hb⟩:=sp_oneW numF (f:=477) rfl l (by simp only[Go.maxLen] at hl;omega) pick
 exact nm_OrderNumbers rfl (so_awake rfl rfl ordF) l pick ho (fun h => so_allL rfl rfl ordF refF pk_xref11 pk_xref10 rfl rfl (hb h).ok.1 (hb h).ok.2) tl
end Go.Proofs.YthafjhelijmpcaaGreat
end
