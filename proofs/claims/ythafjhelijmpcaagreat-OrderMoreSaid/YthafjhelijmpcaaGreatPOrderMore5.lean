/- What OrderMore rests on, part 5: lemmas, no claim of its own. -/
import Derived.Test.YthafjhelijmpcaaGreatPOrderMore4
set_option maxRecDepth 100000
set_option maxHeartbeats 16000000
open Nat renaming reduceAdd → qa, reduceMul → qb, reduceSub → qc
section
set_option linter.unusedVariables false
set_option linter.unusedSimpArgs false
namespace Go.Ab
variable {F:Funs}
structure LdI (ths:List (List Ins)) (i n:Nat) (e:Env) (g:G):Prop where
 hi:i≤ths.length
 hn:n≤12 * i
 e1:e 1 = .mp 0 0
 e3:e 3 = .i .i64 ((n:Nat):Int)
 e4:e 4 = .i .i64 ((i:Nat):Int)
 h0:g.hp 0 = some (.cells [.i .i64 2,.sl (thsC ths) ths.length .non] false)
 nx:0 < g.nx
structure LdJ (ths:List (List Ins)) (i k n:Nat) (e:Env) (g:G):Prop where
 hk:k≤(ths.getD i []).length
 hn:n≤12 * i + k
 e1:e 1 = .mp 0 0
 e3:e 3 = .i .i64 ((n:Nat):Int)
 e4:e 4 = .i .i64 ((i:Nat):Int)
 e5:e 5 = .i .i64 ((k:Nat):Int)
 h0:g.hp 0 = some (.cells [.i .i64 2,.sl (thsC ths) ths.length .non] false)
 nx:0 < g.nx
theorem sp_loads (h77:F 77 = some A_xlaw00_Loads) {ths:List (List Ins)} {K:Nat} (PK:PgK ths K):∃ n:Nat,pureS F 77 [.agg [.i .i64 2,.sl (thsC ths) ths.length .non]] = some (.i .i64 ((n:Nat):Int)):=by
 have key:∃ v,pureS F 77 [.agg [.i .i64 2,.sl (thsC ths) ths.length .non]] = some v∧∃ n:Nat,v = .i .i64 ((n:Nat):Int):=by
  refine pureV_of h77 ?_
  have h4:=PK.four
  have l5:∀ x:AV,List.replicate 5 x = [x,x,x,x,x]:=fun _ => rfl
  have s7:∀ b1 b2 b3 b4 b5 b6 b7 c1 c2 c3 c4 c5 c6 c7:AV,splice [b1,b2,b3,b4,b5,b6,b7] 0 [c1,c2,c3,c4,c5,c6,c7] = [c1,c2,c3,c4,c5,c6,c7]:=fun _ _ _ _ _ _ _ _ _ _ _ _ _ _ => rfl
  simp (disch:=omega) only[A_xlaw00_Loads,wp,qa,qb,qc,gl]
  refine blk_cut (fun e g => ∃ n,LdI ths ths.length n e g) ?_ ?_
  ·refine W_loop (fun q e g => ∃ i n:Nat,q = ths.length - i∧LdI ths i n e g) ths.length ?_ ?_
   ·exact ⟨0,0,rfl,Nat.zero_le _,Nat.le_refl _,rfl,rfl,rfl,rfl,by first | omega | (dsimp only;omega)⟩
   ·rintro q e g ⟨i,n,rfl,hi,hn,e1,e3,e4,h0,hx⟩
    by_cases c1:i < ths.length
    ·have c1':((i:Nat):Int) < ((ths.length:Nat):Int):=by omega
     have hth:=th_at c1
     have hwi:=succ_wrap (k:=i) (by omega)
     have hlen:=(PK.th i c1).len
     simp (disch:=omega) only[wp,qa,qb,qc,gl,e1,e3,e4,h0,c1']
     refine blk_end (fun e g => ∃ n,LdJ ths i (ths.getD i []).length n e g) ?_ ?_
     ·refine W_loop (fun q e g => ∃ k n:Nat,q = (ths.getD i []).length - k∧LdJ ths i k n e g) (ths.getD i []).length ?_ ?_
      ·exact ⟨0,n,rfl,Nat.zero_le _,by omega,e1,e3,e4,rfl,h0,by first | omega | (dsimp only;omega)⟩
      ·rintro q e g ⟨k,n,rfl,hk,hn,e1,e3,e4,e5,h0,hx⟩
       by_cases c2:k < (ths.getD i []).length
       ·have c2':((k:Nat):Int) < (((ths.getD i []).length:Nat):Int):=by omega
        have hins:=ins_at c2
        have hln:=ins_ln c2
        have hwk:=succ_wrap (k:=k) (by omega)
        have hwn:=succ_wrap (k:=n) (by omega)
        generalize (ths.getD i []).getD k fence0 = x at hins
        have next:∀ (m:Nat) (e':Env) (hp':Nat→Option Blk) (nx':Nat),m≤n + 1→e' 1 = .mp 0 0→e' 3 = .i .i64 ((m:Nat):Int)→e' 4 = .i .i64 ((i:Nat):Int)→e' 5 = .i .i64 ((k + 1:Nat):Int)→hp' 0 = some (.cells [.i .i64 2,.sl (thsC ths) ths.length .non] false)→0 < nx' →
          ∃ m',m' < (ths.getD i []).length - k∧∃ k n:Nat,m' = (ths.getD i []).length - k∧LdJ ths i k n e' ⟨hp',nx'⟩:=fun m e' hp' nx' a0 a1 a3 a4 a5 ah an =>
         ⟨(ths.getD i []).length - (k + 1),by omega,k + 1,m,rfl,by omega,by omega,a1,a3,a4,a5,ah,an⟩
        unfold insC exV at hins
        cases k1:(x.kd == 1) with
        | true =>
          simp (disch:=omega) only[wp,qa,qb,qc,gl,e1,e3,e4,e5,h0,hth,c2',hins,l5,s7,k1,hwk,hwn]
          exact next (n + 1) _ _ _ (by omega) e1 rfl e4 rfl (by simp (disch:=omega) only[upd_ne];exact h0) (by omega)
        | false =>
          cases k4:(x.kd == 4) with
          | true =>
            simp (disch:=omega) only[wp,qa,qb,qc,gl,e1,e3,e4,e5,h0,hth,c2',hins,l5,s7,k1,k4,hwk,hwn]
            exact next (n + 1) _ _ _ (by omega) e1 rfl e4 rfl (by simp (disch:=omega) only[upd_ne];exact h0) (by omega)
          | false =>
            simp (disch:=omega) only[wp,qa,qb,qc,gl,e1,e3,e4,e5,h0,hth,c2',hins,l5,s7,k1,k4,hwk,hwn]
            exact next n _ _ _ (by omega) e1 e3 e4 rfl (by simp (disch:=omega) only[upd_ne];exact h0) (by omega)
       ·have c2':¬ ((k:Nat):Int) < (((ths.getD i []).length:Nat):Int):=by omega
        obtain rfl:k = (ths.getD i []).length:=by omega
        simp (disch:=omega) only[wp,qa,qb,qc,gl,e1,e3,e4,e5,h0,hth,c2']
        exact ⟨n,hk,hn,e1,e3,e4,e5,h0,by first | omega | (dsimp only;omega)⟩
     ·rintro e g ⟨n,hk,hn,e1,e3,e4,e5,h0,hx⟩
      simp (disch:=omega) only[wp,qa,qb,qc,gl,e4,hwi]
      exact ⟨ths.length - (i + 1),by omega,i + 1,n,rfl,by omega,by omega,e1,e3,rfl,h0,by first | omega | (dsimp only;omega)⟩
    ·have c1':¬ ((i:Nat):Int) < ((ths.length:Nat):Int):=by omega
     obtain rfl:i = ths.length:=by omega
     simp (disch:=omega) only[wp,qa,qb,qc,gl,e1,e3,e4,h0,c1']
     exact ⟨n,hi,hn,e1,e3,e4,h0,by first | omega | (dsimp only;omega)⟩
  ·rintro e g ⟨n,hi,hn,e1,e3,e4,h0,hx⟩
   simp (disch:=omega) only[wp,qa,qb,qc,gl,e3]
   refine ⟨_,?_,n,rfl⟩
   simp (disch:=omega) only[wp,qa,qb,qc]
 obtain ⟨v,h1,n,rfl⟩:=key
 exact ⟨n,h1⟩
end Go.Ab
end
section
set_option linter.unusedVariables false
set_option linter.unusedSimpArgs false
namespace Go.Ab
variable {F:Funs}
structure NumF (F:Funs):Prop where
 en:EnF F
 pg:ProgF F
 prog:F 86 = some A_xlaw00_Prog
 small:F 76 = some A_xlaw00_Small
 loads:F 77 = some A_xlaw00_Loads
 dom:F 79 = some A_xlaw00_Domain
theorem skX_len {ths lots} {K:Nat} (PK:PgK ths K):∀ i,i≤ths.length→(skX ths lots i).evs.length≤2 + 2 * K * i
 | 0,_ => by simp[skX,sk0]
 | i + 1,h => by
   have h1:=skX_len PK i (by omega) (lots:=lots)
   have hth:=PK.th i (by omega)
   have hl:=PK.len i (by omega)
   obtain ⟨r1,r2⟩:=doR_inv (V:=evX) (th:=ths.getD i []) (reads:=lots.getD i []) (fun k hkk => ⟨_,hth.ins k hkk⟩)
   show ((skX ths lots i).evs ++ (doR evX (ths.getD i []) (lots.getD i [])).evs.map (thE ((i:Int) + 1))).length≤_
   rw[List.length_append,List.length_map,Nat.mul_add,Nat.mul_one]
   omega
theorem PgG.evs {ths dom Y} (h:PgG ths dom Y):∃ lots,LotOk ths lots∧GrP (skX ths lots ths.length) Y:=by
 obtain ⟨lots,h1,_,h3⟩:=h
 exact ⟨lots,h1,h3⟩
theorem PgG.ok {ths:List (List Ins)} {dom:List Int} {Y:Gr} {K:Nat} (PK:PgK ths K) (hb:2 + 2 * K * ths.length≤14) (h:PgG ths dom Y):FewG Y∧GraphOk Y∧∃ t:Int,t≤4∧SkInv Y t:=by
 obtain ⟨lots,hlot,rf,cs,rfl,hrl,hok,hcs⟩:=h.evs
 obtain ⟨inv,_,_,_⟩:=skX_inv (lots:=lots) PK.th ths.length (Nat.le_refl _)
 have hlen:=skX_len PK ths.length (Nat.le_refl _) (lots:=lots)
 have h4:=PK.four
 generalize skX ths lots ths.length = X at inv hlen hrl hok hcs
 have inv2:SkInv (putX X rf [cs 0,cs 1]) (ths.length:Int):=⟨inv.locs,inv.two,inv.th,inv.rmw,inv.data,inv.ctrl,inv.ctrli,inv.dl,inv.cl⟩
 have hc:∀ i,i < 2→CoOk (putX X rf [cs 0,cs 1]) i:=fun i hi => by
  refine CoPre.ok (X:=X) (Y:=putX X rf [cs 0,cs 1]) rfl (hcs i hi).1 (hcs i hi).2 ?_
  have:i = 0∨i = 1:=by omega
  rcases this with rfl | rfl<;>rfl
 obtain ⟨a,b⟩:=inv2.ok (by omega) (by show X.evs.length≤14;omega) hrl (fun i hi => hok i hi) rfl hc
 exact ⟨a,b,_,by omega,inv2⟩
theorem sp_dom (h79:F 79 = some A_xlaw00_Domain):pureS F 79 [] = some (.sl (intsC [0,1,2]) 3 .non):=by
 refine pure_of h79 ?_
 simp (disch:=omega) only[A_xlaw00_Domain,wp,qa,qb,qc,intsC]
structure SmK (l:List Int) (ths:List (List Ins)) (K:Nat):Prop where
 pk:PgK ths K
 b:2 + 2 * K * ths.length≤14
 th:∀ t,t < ths.length→ThrOk l ths.length t K (ths.getD t [])
theorem smK_of {l:List Int} {T K:Nat} {ths:List (List Ins)} (h:ths.length = T) (hT:1≤T) (hT4:T≤4) (hb:2 + 2 * K * T≤14) (hK:K≤12) (hth:∀ t,t < T→ThrOk l T t K (ths.getD t [])):SmK l ths K:=by
 subst h
 exact ⟨⟨hT,hT4,fun i hi => (hth i hi).most,fun i hi => (hth i hi).k hK,by omega⟩,hb,hth⟩
theorem sp_small (A:NumF F) (l:List Int) (hl:(l.length:Int)≤9223372036854775807):∃ ths K,pureS F 76 [.sl (intsC l) l.length .non] = some (.agg [.i .i64 2,.sl (thsC ths) ths.length .non])∧SmK l ths K:=by
 have s2:∀ b1 b2 c1 c2:AV,splice [b1,b2] 0 [c1,c2] = [c1,c2]:=fun _ _ _ _ => rfl
 obtain ⟨t3,hp3,hl3,ho3⟩:=sp_prog A.pg A.prog (l:=l) (T:=3) (most:=2) (by omega) (by omega) (by omega) hl
 obtain ⟨t2,hp2,hl2,ho2⟩:=sp_prog A.pg A.prog (l:=l) (T:=2) (most:=3) (by omega) (by omega) (by omega) hl
 have f2:∀ hp (ths:List (List Ins)) (n:Nat) (t:Tok),frz hp depth (.agg [.i .i64 2,.sl (thsC ths) n t]) = some (.agg [.i .i64 2,.sl (thsC ths) n .non]):=fun hp ths n t => by
  refine frz_d_agg ?_
  show frzL _ (7 + 1) _ = _
  simp only[frzL,frz]
 have r3:(pureS F 76 [.sl (intsC l) l.length .non] = some (.agg [.i .i64 2,.sl (thsC t3) 3 .non]))∨(pureS F 76 [.sl (intsC l) l.length .non] = some (.agg [.i .i64 2,.sl (thsC t2) 2 .non])):=by
  by_cases c0:0 < l.length
  ·have c0':(0:Int) < ((l.length:Nat):Int):=by omega
   have hip:part (intsC l) 0 none = some (.i .i64 (l.getD 0 0)):=by have:=ints_part c0;simpa using this
   have hpl:=sp_place A.pg.place (v:=l.getD 0 0) (n:=4) (by omega) (by omega)
   generalize place (l.getD 0 0) 4 = p at hpl
   cases c1:(p == 0) with
   | true =>
     refine .inl (pure_of A.small ?_)
     have hp3':pureS F 86 [.sl (intsC l) l.length .non,.i .i64 3,.i .i64 2] = some (.agg [.i .i64 2,.sl (thsC t3) 3 .non]):=hp3
     simp (disch:=omega) only[A_xlaw00_Small,wp,qa,qb,qc,gl,c0',hip,hpl,c1,hp3',s2,f2,res_cell,resC]
   | false =>
     refine .inr (pure_of A.small ?_)
     have hp2':pureS F 86 [.sl (intsC l) l.length .non,.i .i64 2,.i .i64 3] = some (.agg [.i .i64 2,.sl (thsC t2) 2 .non]):=hp2
     simp (disch:=omega) only[A_xlaw00_Small,wp,qa,qb,qc,gl,c0',hip,hpl,c1,hp2',s2,f2,res_cell,resC]
  ·have c0':¬ (0:Int) < ((l.length:Nat):Int):=by omega
   refine .inr (pure_of A.small ?_)
   have hp2':pureS F 86 [.sl (intsC l) l.length .non,.i .i64 2,.i .i64 3] = some (.agg [.i .i64 2,.sl (thsC t2) 2 .non]):=hp2
   simp (disch:=omega) only[A_xlaw00_Small,wp,qa,qb,qc,gl,c0',hp2',s2,f2,res_cell,resC]
 rcases r3 with h | h
 ·exact ⟨t3,2,by rw[hl3];exact h,smK_of hl3 (by omega) (by omega) (by omega) (by omega) ho3⟩
 ·exact ⟨t2,3,by rw[hl2];exact h,smK_of hl2 (by omega) (by omega) (by omega) (by omega) ho2⟩
theorem gs_part:∀ {L:List Gr} {k:Nat} {d:Gr} (h:k < L.length),part ((gsC L).drop (k * 8)) 0 (some 8) = some (.agg (grC (L.getD k d)))
 | X :: L,0,d,_ => by
   simp only[gsC,List.flatMap_cons,Nat.zero_mul,List.drop_zero,part,Nat.zero_add,List.length_append,grC_len]
   rw[if_pos (by omega),List.take_left' (grC_len X)]
   simp
 | X :: L,k + 1,d,h => by
   have:=gs_part (L:=L) (k:=k) (d:=d) (by simpa using h)
   simp only[gsC,List.flatMap_cons] at this ⊢
   rw[Nat.add_mul,Nat.one_mul,Nat.add_comm,←List.drop_drop,List.drop_left' (by rw[grC_len])]
   simpa using this
def resB2 (a:Option Nat) (off:Nat) (w:AV):Option Blk→Option AV
 | some (.cells cs _) => (part cs off a).map fun v => .tup [v,w]
 | _ => none
def resC2 (a:Option Nat) (w:AV) (g:G):AV→Option AV
 | .mp b off => resB2 a off w (g.hp b)
 | _ => none
theorem res_cell2 (n:Nat) (a:Option Nat) (m:Nat) (e:Env) (g:G):resE [.cell n a,.t m] e g = resC2 a (e m) g (e n):=by
 simp only[resE,resAll,resOne]
 cases e n<;>try rfl
 rename_i b off
 simp only[resC2]
 cases g.hp b with
 | none => rfl
 | some bl =>
   cases bl with
   | cells cs ro => simp only[resB2];cases part cs off a<;>rfl
   | map es => rfl
   | tok l => rfl
theorem resC2_mp (a w g b off):resC2 a w g (.mp b off) = resB2 a off w (g.hp b):=rfl
theorem resB2_cells (a off w cs ro):resB2 a off w (some (.cells cs ro)) = (part cs off a).map fun v => .tup [v,w]:=rfl
def gr0:Gr:=⟨0,[],[],[],[],[],[],[]⟩
def SmG (l:List Int) (Y:Gr):Prop:=∃ ths K,SmK l ths K∧PgG ths [0,1,2] Y
theorem sp_oneW (A:NumF F) {f:Nat} (hf:F f = some A_xlaw09_one) (l:List Int) (hl:(l.length:Int)≤9223372036854775807) (pick:Int):∃ (Y:Gr) (b:Bool),pureS F f [.sl (intsC l) l.length .non,.i .i64 pick] = some (.tup [.agg (grC Y),.b b])∧(b = true→SmG l Y):=by
 have s2:∀ b1 b2 c1 c2:AV,splice [b1,b2] 0 [c1,c2] = [c1,c2]:=fun _ _ _ _ => rfl
 have l7:∀ x:AV,List.replicate 7 x = [x,x,x,x,x,x,x]:=fun _ => rfl
 have s8:∀ b1 b2 b3 b4 b5 b6 b7 b8 c1 c2 c3 c4 c5 c6 c7 c8:AV,splice [b1,b2,b3,b4,b5,b6,b7,b8] 0 [c1,c2,c3,c4,c5,c6,c7,c8] = [c1,c2,c3,c4,c5,c6,c7,c8]:=fun _ _ _ _ _ _ _ _ _ _ _ _ _ _ _ _ => rfl
 obtain ⟨ths,K,hsm,SK⟩:=sp_small A l hl
 obtain ⟨n,hld⟩:=sp_loads A.loads SK.pk
 have hdm:=sp_dom A.dom
 obtain ⟨L,c,hall,hPg,hLl⟩:=sp13_all A.en SK.pk [0,1,2] (by simp)
 have hall':pureS F 78 [.agg [.i .i64 2,.sl (thsC ths) ths.length .non],.sl (intsC [0,1,2]) 3 .non] = some (.tup [.sl (gsC L) L.length .non,.i .i64 c]):=hall
 have f2:∀ hp (n:Nat) (t:Tok),frz hp depth (.agg [.i .i64 2,.sl (thsC ths) n t]) = some (.agg [.i .i64 2,.sl (thsC ths) n .non]):=fun hp n t => by
  refine frz_d_agg ?_
  show frzL _ (7 + 1) _ = _
  simp only[frzL,frz]
 have v2:∀ hp (n:Nat) (t:Tok),vis hp depth (.agg [.i .i64 2,.sl (thsC ths) n t]) = []:=fun hp n t => by
  show vis hp (8 + 1) _ = _
  simp only[vis,List.flatMap_cons,List.flatMap_nil]
  rfl
 have hz:∀ hp,frz hp depth (.tup [.agg [.i .i64 0,.sl [] 0 .rig,.sl [] 0 .rig,.sl [] 0 .rig,.sl [] 0 .rig,.sl [] 0 .rig,.sl [] 0 .rig,.sl [] 0 .rig],.b false]) = some (.tup [.agg (grC gr0),.b false]):=fun hp => by
  show frz _ (8 + 1) _ = _
  simp only[frz,frzL,grC,gr0]
  rfl
 have p8:∀ c1 c2 c3 c4 c5 c6 c7 c8:AV,part [c1,c2,c3,c4,c5,c6,c7,c8] 0 (some 8) = some (.agg [c1,c2,c3,c4,c5,c6,c7,c8]):=fun _ _ _ _ _ _ _ _ => rfl
 by_cases c4:n≤4
 ·have c4':¬ (4:Int) < ((n:Nat):Int):=by omega
  cases hL:L with
  | nil =>
    subst hL
    have c5:(((0:Nat):Int) == 0) = true:=rfl
    refine ⟨gr0,false,pure_of hf ?_,fun h => by cases h⟩
    simp (disch:=omega) only[A_xlaw09_one,wp,qa,qb,qc,gl,hsm,l7,s2,s8,f2,v2,hld,c4',hdm,hall',c5,List.getElem?_cons_zero,List.getElem?_cons_succ,gsC,res_cell2,resC2_mp,resB2_cells,p8,Option.map_some,hz]
  | cons Y0 L0 =>
    have hLp:0 < L.length:=by rw[hL];simp
    have c5:(((L.length:Nat):Int) == 0) = false:=by rw[beq_eq_false_iff_ne];omega
    have hpl:=sp_place A.pg.place (v:=pick) (n:=(L.length:Int)) (by omega) (by omega)
    obtain ⟨p0,p1⟩:=place_lt (v:=pick) (n:=(L.length:Int)) (by omega)
    obtain ⟨p,hp⟩:∃ p:Nat,place pick (L.length:Int) = (p:Int):=⟨(place pick (L.length:Int)).toNat,by omega⟩
    rw[hp] at hpl p1
    have hgp:=gs_part (L:=L) (k:=p) (d:=gr0) (by omega)
    have hY:=hPg _ (getD_mem (d:=gr0) (show p < L.length by omega))
    have hgl:=gsC_len L
    generalize L.getD p gr0 = Y at hgp hY
    refine ⟨Y,true,pure_of hf ?_,fun _ => ⟨ths,K,SK,hY⟩⟩
    have hzY:∀ hp,frz hp depth (.tup [.agg (grC Y),.b true]) = some (.tup [.agg (grC Y),.b true]):=fun hp => by
     show frz _ (8 + 1) _ = _
     simp only[frz,frzL,grC]
     rfl
    rw[grC] at hgp hzY ⊢
    simp (disch:=omega) only[A_xlaw09_one,wp,qa,qb,qc,gl,hsm,l7,s2,s8,f2,v2,hld,c4',hdm,hall',c5,List.getElem?_cons_zero,List.getElem?_cons_succ,hpl,hgp,res_cell2,resC2_mp,resB2_cells,p8,Option.map_some,hzY]
 ·have c4':(4:Int) < ((n:Nat):Int):=by omega
  refine ⟨gr0,false,pure_of hf ?_,fun h => by cases h⟩
  simp (disch:=omega) only[A_xlaw09_one,wp,qa,qb,qc,gl,hsm,l7,s2,s8,f2,v2,hld,c4',res_cell2,resC2_mp,resB2_cells,p8,Option.map_some,hz]
end Go.Ab
end
section
namespace Go.Ab
theorem SmG.ok {l:List Int} {Y:Gr} (h:SmG l Y):FewG Y∧GraphOk Y:=by
 obtain ⟨ths,K,SK,hY⟩:=h
 obtain ⟨a,b,_⟩:=hY.ok SK.pk SK.b
 exact ⟨a,b⟩
end Go.Ab
end
section
set_option linter.unusedVariables false
set_option linter.unusedSimpArgs false
namespace Go.Ab
variable {F:Funs}
theorem thaw27 (h27:F 27 = some A_xref01_New) {n:Nat} (hn:n≤40) (al:Nat→Bool) (id:Nat) (g:G):vThaw F al id (.fn 27 [] []) [.i .i64 n,.sl [] 0 .rig] g = some (.mp id 0,⟨upd g.hp id (some (.cells (matC n fun _ _ => false) false)),g.nx⟩):=
 vThaw_S (bs:=[.i .i64 n,.sl [] 0 .non]) (by rw[frzL_cons,frzL_cons,frzL_nil,frz_d_i,frz_d_sl];rfl) (sp_newT h27 hn .non) (by rw[List.flatMap_cons,List.flatMap_cons,vis_i,vis_sl];rfl)
def stM (φ:Bool→Bool→Bool) (A B:Mx) (N a b:Nat):Mx:=fun i j => if (i < a∧j < N)∨(i = a∧j < b) then φ (A i j) (B i j) else false
theorem stM_succ (φ A B N a b):upd2 (stM φ A B N a b) a b (φ (A a b) (B a b)) = stM φ A B N a (b + 1):=by
 funext i j
 unfold upd2 stM
 by_cases h:i = a∧j = b
 ·obtain ⟨rfl,rfl⟩:=h
  rw[if_pos ⟨rfl,rfl⟩,if_pos (.inr ⟨rfl,by omega⟩)]
 ·rw[if_neg h]
  by_cases h2:(i < a∧j < N)∨(i = a∧j < b)
  ·rw[if_pos h2,if_pos (by omega)]
  ·rw[if_neg h2,if_neg (by omega)]
theorem stM_row (φ A B N a):stM φ A B N a N = stM φ A B N (a + 1) 0:=by
 funext i j
 unfold stM
 by_cases h2:(i < a∧j < N)∨(i = a∧j < N)
 ·rw[if_pos h2,if_pos (by omega)]
 ·rw[if_neg h2,if_neg (by omega)]
theorem stM_0 (φ A B N):stM φ A B N 0 0 = fun _ _ => false:=by
 funext i j
 unfold stM
 rw[if_neg (by omega)]
def opM (φ:Bool→Bool→Bool) (A B:Mx) (N:Nat):Mx:=stM φ A B N N 0
theorem sp_mor (h:F 29 = some A_xref01_R_Or) (h27:F 27 = some A_xref01_New) {n m:Nat} (hn:n≤40) (hm:m≤40) (A B:Mx):pureS F 29 [.ptr (matC n A),.ptr (matC m B)] = some (.ptr (matC (max n m) (opM (fun x y => x || y) A B (max n m)))):=by
 refine pure_of_thaw h (matC_flat _ _) ?_
 have hN:max n m≤40:=by omega
 simp (disch:=omega) only[A_xref01_R_Or,wp,qa,qb,qc,ml,maxI,thaw27 h27]
 generalize max n m = N at hN
 refine W_loop (fun q e g => ∃ a,q = N - a∧a≤N∧e 0 = .ptr (matC n A)∧e 1 = .ptr (matC m B)∧e 5 = .mp 10 0∧e 6 = .i .i64 a∧g.hp 10 = some (.cells (matC N (stM (fun x y => x || y) A B N a 0)) false)∧10 < g.nx) N ?_ ?_
 ·refine ⟨0,rfl,Nat.zero_le _,?_⟩
  simp (disch:=omega) only[wp,qa,qb,qc,stM_0]
  exact ⟨rfl,by first | omega | (dsimp only;omega)⟩
 ·rintro q e g ⟨a,rfl,ha,h0,h1,h5,h6,hg,hnx⟩
  by_cases ha':a < N
  ·have ha1:(a:Int) < N:=by omega
   have hwa:=succ_wrap (k:=a) (by omega)
   simp (disch:=omega) only[wp,qa,qb,qc,ml,h0,h1,h5,h6,hg,ha1]
   refine W_loop (fun q e g => ∃ b,q = N - b∧b≤N∧e 0 = .ptr (matC n A)∧e 1 = .ptr (matC m B)∧e 5 = .mp 10 0∧e 6 = .i .i64 a∧e 7 = .i .i64 b∧g.hp 10 = some (.cells (matC N (stM (fun x y => x || y) A B N a b)) false)∧10 < g.nx) N ?_ ?_
   ·refine ⟨0,rfl,Nat.zero_le _,?_⟩
    simp (disch:=omega) only[wp,qa,qb,qc,h0,h1,h5,h6,hg]
    exact ⟨rfl,by first | omega | (dsimp only;omega)⟩
   ·rintro q e g ⟨b,rfl,hb,h0,h1,h5,h6,h7,hg,hnx⟩
    by_cases hb':b < N
    ·have hb1:(b:Int) < N:=by omega
     have hwb:=succ_wrap (k:=b) (by omega)
     have hs:=stM_succ (fun x y => x || y) A B N a b
     cases hA:A a b with
     | true =>
       simp only[hA,Bool.true_or,Bool.true_and] at hs
       simp (disch:=omega) only[wp,qa,qb,qc,ml,h0,h1,h5,h6,h7,hg,hb1,hA,hwb,hs]
       exact ⟨N - (b + 1),by omega,b + 1,rfl,by omega,rfl,rfl,by first | omega | (dsimp only;omega)⟩
     | false =>
       simp only[hA,Bool.false_or,Bool.false_and] at hs
       simp (disch:=omega) only[wp,qa,qb,qc,ml,h0,h1,h5,h6,h7,hg,hb1,hA,hwb,hs]
       exact ⟨N - (b + 1),by omega,b + 1,rfl,by omega,rfl,rfl,by first | omega | (dsimp only;omega)⟩
    ·obtain rfl:b = N:=by omega
     have hb1:¬ ((b:Int) < b):=by omega
     rw[stM_row] at hg
     simp (disch:=omega) only[wp,qa,qb,qc,ml,h0,h1,h5,h6,h7,hg,hb1,hwa]
     exact ⟨b - (a + 1),by omega,a + 1,rfl,by omega,rfl,rfl,by first | omega | (dsimp only;omega)⟩
  ·obtain rfl:a = N:=by omega
   have ha1:¬ ((a:Int) < a):=by omega
   simp (disch:=omega) only[wp,qa,qb,qc,ml,h0,h1,h5,h6,hg,ha1]
   exact ⟨10,rfl,hg⟩
theorem sp_mand (h:F 30 = some A_xref01_R_And) (h27:F 27 = some A_xref01_New) {n m:Nat} (hn:n≤40) (hm:m≤40) (A B:Mx):pureS F 30 [.ptr (matC n A),.ptr (matC m B)] = some (.ptr (matC (max n m) (opM (fun x y => x && y) A B (max n m)))):=by
 refine pure_of_thaw h (matC_flat _ _) ?_
 have hN:max n m≤40:=by omega
 simp (disch:=omega) only[A_xref01_R_And,wp,qa,qb,qc,ml,maxI,thaw27 h27]
 generalize max n m = N at hN
 refine W_loop (fun q e g => ∃ a,q = N - a∧a≤N∧e 0 = .ptr (matC n A)∧e 1 = .ptr (matC m B)∧e 5 = .mp 10 0∧e 6 = .i .i64 a∧g.hp 10 = some (.cells (matC N (stM (fun x y => x && y) A B N a 0)) false)∧10 < g.nx) N ?_ ?_
 ·refine ⟨0,rfl,Nat.zero_le _,?_⟩
  simp (disch:=omega) only[wp,qa,qb,qc,stM_0]
  exact ⟨rfl,by first | omega | (dsimp only;omega)⟩
 ·rintro q e g ⟨a,rfl,ha,h0,h1,h5,h6,hg,hnx⟩
  by_cases ha':a < N
  ·have ha1:(a:Int) < N:=by omega
   have hwa:=succ_wrap (k:=a) (by omega)
   simp (disch:=omega) only[wp,qa,qb,qc,ml,h0,h1,h5,h6,hg,ha1]
   refine W_loop (fun q e g => ∃ b,q = N - b∧b≤N∧e 0 = .ptr (matC n A)∧e 1 = .ptr (matC m B)∧e 5 = .mp 10 0∧e 6 = .i .i64 a∧e 7 = .i .i64 b∧g.hp 10 = some (.cells (matC N (stM (fun x y => x && y) A B N a b)) false)∧10 < g.nx) N ?_ ?_
   ·refine ⟨0,rfl,Nat.zero_le _,?_⟩
    simp (disch:=omega) only[wp,qa,qb,qc,h0,h1,h5,h6,hg]
    exact ⟨rfl,by first | omega | (dsimp only;omega)⟩
   ·rintro q e g ⟨b,rfl,hb,h0,h1,h5,h6,h7,hg,hnx⟩
    by_cases hb':b < N
    ·have hb1:(b:Int) < N:=by omega
     have hwb:=succ_wrap (k:=b) (by omega)
     have hs:=stM_succ (fun x y => x && y) A B N a b
     cases hA:A a b with
     | true =>
       simp only[hA,Bool.true_or,Bool.true_and] at hs
       simp (disch:=omega) only[wp,qa,qb,qc,ml,h0,h1,h5,h6,h7,hg,hb1,hA,hwb,hs]
       exact ⟨N - (b + 1),by omega,b + 1,rfl,by omega,rfl,rfl,by first | omega | (dsimp only;omega)⟩
     | false =>
       simp only[hA,Bool.false_or,Bool.false_and] at hs
       simp (disch:=omega) only[wp,qa,qb,qc,ml,h0,h1,h5,h6,h7,hg,hb1,hA,hwb,hs]
       exact ⟨N - (b + 1),by omega,b + 1,rfl,by omega,rfl,rfl,by first | omega | (dsimp only;omega)⟩
    ·obtain rfl:b = N:=by omega
     have hb1:¬ ((b:Int) < b):=by omega
     rw[stM_row] at hg
     simp (disch:=omega) only[wp,qa,qb,qc,ml,h0,h1,h5,h6,h7,hg,hb1,hwa]
     exact ⟨b - (a + 1),by omega,a + 1,rfl,by omega,rfl,rfl,by first | omega | (dsimp only;omega)⟩
  ·obtain rfl:a = N:=by omega
   have ha1:¬ ((a:Int) < a):=by omega
   simp (disch:=omega) only[wp,qa,qb,qc,ml,h0,h1,h5,h6,hg,ha1]
   exact ⟨10,rfl,hg⟩
end Go.Ab
end
section
set_option linter.unusedVariables false
set_option linter.unusedSimpArgs false
namespace Go.Ab
variable {F:Funs}
def t1M (A B:Mx) (a b c:Nat) (T:Mx):Mx:=fun i j => if i = a∧j < c then T i j || B b j else T i j
def t2M (A B:Mx) (N a:Nat) (T:Mx) (b:Nat):Mx:=if A a b then t1M A B a b N T else T
def t3M (A B:Mx) (N a k:Nat) (T:Mx):Mx:=(List.range k).foldl (t2M A B N a) T
def thM (A B:Mx) (N k:Nat):Mx:=(List.range k).foldl (fun T a => t3M A B N a N T) (fun _ _ => false)
theorem t3M_succ (A B N a k T):t3M A B N a (k + 1) T = t2M A B N a (t3M A B N a k T) k:=by simp[t3M,List.range_succ]
theorem thM_succ (A B N k):thM A B N (k + 1) = t3M A B N k N (thM A B N k):=by simp[thM,List.range_succ]
theorem t1M_succ (A B a b c T):upd2 (t1M A B a b c T) a c (T a c || B b c) = t1M A B a b (c + 1) T:=by
 funext i j
 unfold upd2 t1M
 by_cases h:i = a∧j = c
 ·obtain ⟨rfl,rfl⟩:=h;rw[if_pos ⟨rfl,rfl⟩,if_pos ⟨rfl,by omega⟩]
 ·rw[if_neg h]
  by_cases h2:i = a∧j < c
  ·rw[if_pos h2,if_pos (by omega)]
  ·rw[if_neg h2,if_neg (by omega)]
theorem t1M_at (A B a b c T):t1M A B a b c T a c = T a c:=by unfold t1M;rw[if_neg (by omega)]
theorem t1M_0 (A B a b T):t1M A B a b 0 T = T:=by funext i j;unfold t1M;rw[if_neg (by omega)]
theorem sp_mthen (h:F 32 = some A_xref01_R_Then) (h27:F 27 = some A_xref01_New) {n m:Nat} (hn:n≤40) (hm:m≤40) (A B:Mx):pureS F 32 [.ptr (matC n A),.ptr (matC m B)] = some (.ptr (matC (max n m) (thM A B (max n m) (max n m)))):=by
 refine pure_of_thaw h (matC_flat _ _) ?_
 have hN:max n m≤40:=by omega
 simp (disch:=omega) only[A_xref01_R_Then,wp,qa,qb,qc,ml,maxI,thaw27 h27]
 generalize max n m = N at hN
 refine W_loop (fun q e g => ∃ a,q = N - a∧a≤N∧e 0 = .ptr (matC n A)∧e 1 = .ptr (matC m B)∧e 5 = .mp 10 0∧e 6 = .i .i64 a∧g.hp 10 = some (.cells (matC N (thM A B N a)) false)∧10 < g.nx) N ?_ ?_
 ·refine ⟨0,rfl,Nat.zero_le _,?_⟩
  simp (disch:=omega) only[wp,qa,qb,qc]
  exact ⟨rfl,rfl,by first | omega | (dsimp only;omega)⟩
 ·rintro q e g ⟨a,rfl,ha,h0,h1,h5,h6,hg,hnx⟩
  by_cases ha':a < N
  ·have ha1:(a:Int) < N:=by omega
   have hwa:=succ_wrap (k:=a) (by omega)
   simp (disch:=omega) only[wp,qa,qb,qc,ml,h0,h1,h5,h6,hg,ha1]
   refine W_loop (fun q e g => ∃ b,q = N - b∧b≤N∧e 0 = .ptr (matC n A)∧e 1 = .ptr (matC m B)∧e 5 = .mp 10 0∧e 6 = .i .i64 a∧e 7 = .i .i64 b∧g.hp 10 = some (.cells (matC N (t3M A B N a b (thM A B N a))) false)∧10 < g.nx) N ?_ ?_
   ·refine ⟨0,rfl,Nat.zero_le _,?_⟩
    simp (disch:=omega) only[wp,qa,qb,qc,h0,h1,h5,h6,hg]
    exact ⟨rfl,rfl,by first | omega | (dsimp only;omega)⟩
   ·rintro q e g ⟨b,rfl,hb,h0,h1,h5,h6,h7,hg,hnx⟩
    by_cases hb':b < N
    ·have hb1:(b:Int) < N:=by omega
     have hwb:=succ_wrap (k:=b) (by omega)
     have hs:=t3M_succ A B N a b (thM A B N a)
     generalize t3M A B N a b (thM A B N a) = T at hg hs
     cases hA:A a b with
     | true =>
       rw[t2M,if_pos hA] at hs
       simp (disch:=omega) only[wp,qa,qb,qc,ml,h0,h1,h5,h6,h7,hg,hb1]
       refine W_loop (fun q e g => ∃ c,q = N - c∧c≤N∧e 0 = .ptr (matC n A)∧e 1 = .ptr (matC m B)∧e 5 = .mp 10 0∧e 6 = .i .i64 a∧e 7 = .i .i64 b∧e 8 = .i .i64 c∧g.hp 10 = some (.cells (matC N (t1M A B a b c T)) false)∧10 < g.nx) N ?_ ?_
       ·refine ⟨0,rfl,Nat.zero_le _,?_⟩
        simp (disch:=omega) only[wp,qa,qb,qc,h0,h1,h5,h6,h7,hg,t1M_0]
        exact ⟨rfl,by first | omega | (dsimp only;omega)⟩
       ·rintro q e g ⟨c,rfl,hc,h0,h1,h5,h6,h7,h8,hg,hnx⟩
        by_cases hc':c < N
        ·have hc1:(c:Int) < N:=by omega
         have hwc:=succ_wrap (k:=c) (by omega)
         have hs1:=t1M_succ A B a b c T
         have hat:=t1M_at A B a b c T
         cases hT:T a c with
         | true =>
           rw[hT] at hat hs1
           simp only[Bool.true_or] at hs1
           simp (disch:=omega) only[wp,qa,qb,qc,ml,h0,h1,h5,h6,h7,h8,hg,hc1,hA,hat,hwc,hs1]
           exact ⟨N - (c + 1),by omega,c + 1,rfl,by omega,rfl,rfl,by first | omega | (dsimp only;omega)⟩
         | false =>
           rw[hT] at hat hs1
           simp only[Bool.false_or] at hs1
           simp (disch:=omega) only[wp,qa,qb,qc,ml,h0,h1,h5,h6,h7,h8,hg,hc1,hA,hat,hwc,hs1]
           exact ⟨N - (c + 1),by omega,c + 1,rfl,by omega,rfl,rfl,by first | omega | (dsimp only;omega)⟩
        ·obtain rfl:c = N:=by omega
         have hc1:¬ ((c:Int) < c):=by omega
         rw[←hs] at hg
         simp (disch:=omega) only[wp,qa,qb,qc,ml,h0,h1,h5,h6,h7,h8,hg,hc1,hwb]
         exact ⟨c - (b + 1),by omega,b + 1,rfl,by omega,rfl,rfl,by first | omega | (dsimp only;omega)⟩
     | false =>
       rw[t2M,if_neg (by rw[hA];simp)] at hs
       have h0N:(0:Int) < N:=by omega
       have hA0:part (((matR A).drop (a * 40)).drop (b * 1)) 0 none = some (.b false):=by rw[matR_at (by omega),hA]
       simp (disch:=omega) only[wp,qa,qb,qc,ml,h0,h1,h5,h6,h7,hg,hb1]
       refine W_loop (fun q e g => e 0 = .ptr (matC n A)∧e 1 = .ptr (matC m B)∧e 5 = .mp 10 0∧e 6 = .i .i64 a∧e 7 = .i .i64 b∧e 8 = .i .i64 0∧g.hp 10 = some (.cells (matC N T) false)∧10 < g.nx) 0 ?_ ?_
       ·simp (disch:=omega) only[wp,qa,qb,qc,h0,h1,h5,h6,h7,hg]
        first | omega | (dsimp only;omega)
       ·rintro q e g ⟨h0,h1,h5,h6,h7,h8,hg,hnx⟩
        rw[←hs] at hg
        simp (disch:=omega) only[wp,qa,qb,qc,ml,h0,h1,h5,h6,h7,h8,hg,h0N,hA,hwb]
        exact ⟨N - (b + 1),by omega,b + 1,rfl,by omega,rfl,rfl,by first | omega | (dsimp only;omega)⟩
    ·obtain rfl:b = N:=by omega
     have hb1:¬ ((b:Int) < b):=by omega
     rw[←thM_succ] at hg
     simp (disch:=omega) only[wp,qa,qb,qc,ml,h0,h1,h5,h6,h7,hg,hb1,hwa]
     exact ⟨b - (a + 1),by omega,a + 1,rfl,by omega,rfl,rfl,by first | omega | (dsimp only;omega)⟩
  ·obtain rfl:a = N:=by omega
   have ha1:¬ ((a:Int) < a):=by omega
   simp (disch:=omega) only[wp,qa,qb,qc,ml,h0,h1,h5,h6,hg,ha1]
   exact ⟨10,rfl,hg⟩
def bkM (A:Mx) (N a b:Nat):Mx:=fun i j => if (j < a∧i < N)∨(j = a∧i < b) then A j i else false
theorem bkM_succ (A N a b):upd2 (bkM A N a b) b a (A a b) = bkM A N a (b + 1):=by
 funext i j
 unfold upd2 bkM
 by_cases h:i = b∧j = a
 ·obtain ⟨rfl,rfl⟩:=h
  rw[if_pos ⟨rfl,rfl⟩,if_pos (.inr ⟨rfl,by omega⟩)]
 ·rw[if_neg h]
  by_cases h2:(j < a∧i < N)∨(j = a∧i < b)
  ·rw[if_pos h2,if_pos (by omega)]
  ·rw[if_neg h2,if_neg (by omega)]
theorem bkM_row (A N a):bkM A N a N = bkM A N (a + 1) 0:=by
 funext i j
 unfold bkM
 by_cases h2:(j < a∧i < N)∨(j = a∧i < N)
 ·rw[if_pos h2,if_pos (by omega)]
 ·rw[if_neg h2,if_neg (by omega)]
theorem bkM_0 (A N):bkM A N 0 0 = fun _ _ => false:=by
 funext i j
 unfold bkM
 rw[if_neg (by omega)]
theorem sp_mback (h:F 33 = some A_xref01_R_Back) (h27:F 27 = some A_xref01_New) {n:Nat} (hn:n≤40) (A:Mx):pureS F 33 [.ptr (matC n A)] = some (.ptr (matC n (bkM A n n 0))):=by
 refine pure_of_thaw h (matC_flat _ _) ?_
 simp (disch:=omega) only[A_xref01_R_Back,wp,qa,qb,qc,ml,thaw27 h27]
 refine W_loop (fun q e g => ∃ a,q = n - a∧a≤n∧e 0 = .ptr (matC n A)∧e 3 = .mp 5 0∧e 4 = .i .i64 a∧g.hp 5 = some (.cells (matC n (bkM A n a 0)) false)∧5 < g.nx) n ?_ ?_
 ·refine ⟨0,rfl,Nat.zero_le _,?_⟩
  simp (disch:=omega) only[wp,qa,qb,qc,bkM_0]
  exact ⟨rfl,by first | omega | (dsimp only;omega)⟩
 ·rintro q e g ⟨a,rfl,ha,h0,h3,h4,hg,hnx⟩
  by_cases ha':a < n
  ·have ha1:(a:Int) < n:=by omega
   have hwa:=succ_wrap (k:=a) (by omega)
   simp (disch:=omega) only[wp,qa,qb,qc,ml,h0,h3,h4,hg,ha1]
   refine W_loop (fun q e g => ∃ b,q = n - b∧b≤n∧e 0 = .ptr (matC n A)∧e 3 = .mp 5 0∧e 4 = .i .i64 a∧e 5 = .i .i64 b∧g.hp 5 = some (.cells (matC n (bkM A n a b)) false)∧5 < g.nx) n ?_ ?_
   ·refine ⟨0,rfl,Nat.zero_le _,?_⟩
    simp (disch:=omega) only[wp,qa,qb,qc,h0,h3,h4,hg]
    exact ⟨rfl,by first | omega | (dsimp only;omega)⟩
   ·rintro q e g ⟨b,rfl,hb,h0,h3,h4,h5,hg,hnx⟩
    by_cases hb':b < n
    ·have hb1:(b:Int) < n:=by omega
     have hwb:=succ_wrap (k:=b) (by omega)
     have hs:=bkM_succ A n a b
     simp (disch:=omega) only[wp,qa,qb,qc,ml,h0,h3,h4,h5,hg,hb1,hwb,hs]
     exact ⟨n - (b + 1),by omega,b + 1,rfl,by omega,rfl,rfl,by first | omega | (dsimp only;omega)⟩
    ·obtain rfl:b = n:=by omega
     have hb1:¬ ((b:Int) < b):=by omega
     rw[bkM_row] at hg
     simp (disch:=omega) only[wp,qa,qb,qc,ml,h0,h3,h4,h5,hg,hb1,hwa]
     exact ⟨b - (a + 1),by omega,a + 1,rfl,by omega,rfl,rfl,by first | omega | (dsimp only;omega)⟩
  ·obtain rfl:a = n:=by omega
   have ha1:¬ ((a:Int) < a):=by omega
   simp (disch:=omega) only[wp,qa,qb,qc,ml,h0,h3,h4,hg,ha1]
   exact ⟨5,rfl,hg⟩
def mbM (A:Mx) (k:Nat):Mx:=fun i j => A i j || decide (i < k∧i = j)
theorem mbM_succ (A k):upd2 (mbM A k) k k true = mbM A (k + 1):=by
 funext i j
 unfold upd2 mbM
 by_cases h:i = k∧j = k
 ·obtain ⟨rfl,rfl⟩:=h;rw[if_pos ⟨rfl,rfl⟩];simp
 ·rw[if_neg h]
  congr 1
  rw[decide_eq_decide];omega
theorem mbM_0 (A):mbM A 0 = A:=by funext i j;simp[mbM]
theorem sp_mmaybe (h:F 35 = some A_xref01_R_Maybe) (h27:F 27 = some A_xref01_New) {n:Nat} (hn:n≤40) (A:Mx):pureS F 35 [.ptr (matC n A)] = some (.ptr (matC n (mbM A n))):=by
 refine pure_of_thaw h (matC_flat _ _) ?_
 simp (disch:=omega) only[A_xref01_R_Maybe,wp,qa,qb,qc,ml,thaw27 h27]
 refine W_loop (fun q e g => ∃ a,q = n - a∧a≤n∧e 3 = .mp 5 0∧e 4 = .i .i64 a∧g.hp 5 = some (.cells (matC n (mbM A a)) false)∧5 < g.nx) n ?_ ?_
 ·refine ⟨0,rfl,Nat.zero_le _,?_⟩
  simp (disch:=omega) only[wp,qa,qb,qc,mbM_0]
  exact ⟨rfl,by first | omega | (dsimp only;omega)⟩
 ·rintro q e g ⟨a,rfl,ha,h3,h4,hg,hnx⟩
  by_cases ha':a < n
  ·have ha1:(a:Int) < n:=by omega
   have hwa:=succ_wrap (k:=a) (by omega)
   have hs:=mbM_succ A a
   simp (disch:=omega) only[wp,qa,qb,qc,ml,h3,h4,hg,ha1,hwa,hs]
   exact ⟨n - (a + 1),by omega,a + 1,rfl,by omega,rfl,rfl,by first | omega | (dsimp only;omega)⟩
  ·obtain rfl:a = n:=by omega
   have ha1:¬ ((a:Int) < a):=by omega
   simp (disch:=omega) only[wp,qa,qb,qc,ml,h3,h4,hg,ha1]
   exact ⟨5,rfl,hg⟩
end Go.Ab
end
section
set_option linter.unusedVariables false
set_option linter.unusedSimpArgs false
namespace Go.Ab
variable {F:Funs}
def p1M (k a c:Nat) (T:Mx):Mx:=fun i j => if i = a∧j < c then T i j || T k j else T i j
def p2M (N k:Nat) (T:Mx) (a:Nat):Mx:=if T a k then p1M k a N T else T
def p3M (N k m:Nat) (T:Mx):Mx:=(List.range m).foldl (p2M N k) T
def plM (N:Nat) (A:Mx) (m:Nat):Mx:=(List.range m).foldl (fun T k => p3M N k N T) A
theorem p3M_succ (N k m T):p3M N k (m + 1) T = p2M N k (p3M N k m T) m:=by simp[p3M,List.range_succ]
theorem plM_succ (N A m):plM N A (m + 1) = p3M N m N (plM N A m):=by simp[plM,List.range_succ]
theorem p1M_succ (k a c T):upd2 (p1M k a c T) a c (T a c || T k c) = p1M k a (c + 1) T:=by
 funext i j
 unfold upd2 p1M
 by_cases h:i = a∧j = c
 ·obtain ⟨rfl,rfl⟩:=h;rw[if_pos ⟨rfl,rfl⟩,if_pos ⟨rfl,by omega⟩]
 ·rw[if_neg h]
  by_cases h2:i = a∧j < c
  ·rw[if_pos h2,if_pos (by omega)]
  ·rw[if_neg h2,if_neg (by omega)]
theorem p1M_at (k a c T):p1M k a c T a c = T a c:=by unfold p1M;rw[if_neg (by omega)]
theorem p1M_k (k a c T):p1M k a c T k c = T k c:=by unfold p1M;rw[if_neg (by omega)]
theorem p1M_cond {k a c T} (h:T a k = true):p1M k a c T a k = true:=by unfold p1M;split<;>simp[h]
theorem p1M_0 (k a T):p1M k a 0 T = T:=by funext i j;unfold p1M;rw[if_neg (by omega)]
theorem sp_mplus (h:F 34 = some A_xref01_R_Plus) (h27:F 27 = some A_xref01_New) {N:Nat} (hN:N≤40) (A:Mx):pureS F 34 [.ptr (matC N A)] = some (.ptr (matC N (plM N A N))):=by
 refine pure_of_thaw h (matC_flat _ _) ?_
 simp (disch:=omega) only[A_xref01_R_Plus,wp,qa,qb,qc,ml,thaw27 h27]
 refine W_loop (fun q e g => ∃ k,q = N - k∧k≤N∧e 3 = .mp 5 0∧e 4 = .i .i64 k∧g.hp 5 = some (.cells (matC N (plM N A k)) false)∧5 < g.nx) N ?_ ?_
 ·refine ⟨0,rfl,Nat.zero_le _,?_⟩
  simp (disch:=omega) only[wp,qa,qb,qc]
  exact ⟨rfl,rfl,by first | omega | (dsimp only;omega)⟩
 ·rintro q e g ⟨k,rfl,hk,h3,h4,hg,hnx⟩
  by_cases hk':k < N
  ·have hk1:(k:Int) < N:=by omega
   have hwk:=succ_wrap (k:=k) (by omega)
   simp (disch:=omega) only[wp,qa,qb,qc,ml,h3,h4,hg,hk1]
   refine W_loop (fun q e g => ∃ a,q = N - a∧a≤N∧e 3 = .mp 5 0∧e 4 = .i .i64 k∧e 5 = .i .i64 a∧g.hp 5 = some (.cells (matC N (p3M N k a (plM N A k))) false)∧5 < g.nx) N ?_ ?_
   ·refine ⟨0,rfl,Nat.zero_le _,?_⟩
    simp (disch:=omega) only[wp,qa,qb,qc,h3,h4,hg]
    exact ⟨rfl,rfl,by first | omega | (dsimp only;omega)⟩
   ·rintro q e g ⟨a,rfl,ha,h3,h4,h5,hg,hnx⟩
    by_cases ha':a < N
    ·have ha1:(a:Int) < N:=by omega
     have hwa:=succ_wrap (k:=a) (by omega)
     have hs:=p3M_succ N k a (plM N A k)
     generalize p3M N k a (plM N A k) = T at hg hs
     cases hA:T a k with
     | true =>
       rw[p2M,if_pos hA] at hs
       simp (disch:=omega) only[wp,qa,qb,qc,ml,h3,h4,h5,hg,ha1]
       refine W_loop (fun q e g => ∃ c,q = N - c∧c≤N∧e 3 = .mp 5 0∧e 4 = .i .i64 k∧e 5 = .i .i64 a∧e 6 = .i .i64 c∧g.hp 5 = some (.cells (matC N (p1M k a c T)) false)∧5 < g.nx) N ?_ ?_
       ·refine ⟨0,rfl,Nat.zero_le _,?_⟩
        simp (disch:=omega) only[wp,qa,qb,qc,h3,h4,h5,hg,p1M_0]
        exact ⟨rfl,by first | omega | (dsimp only;omega)⟩
       ·rintro q e g ⟨c,rfl,hc,h3,h4,h5,h6,hg,hnx⟩
        by_cases hc':c < N
        ·have hc1:(c:Int) < N:=by omega
         have hwc:=succ_wrap (k:=c) (by omega)
         have hs1:=p1M_succ k a c T
         have hat:=p1M_at k a c T
         have hkc:=p1M_k k a c T
         have hco:=p1M_cond (c:=c) hA
         generalize p1M k a c T = M at hg hs1 hat hkc hco
         cases hT:T a c with
         | true =>
           rw[hT] at hat hs1
           simp only[Bool.true_or] at hs1
           simp (disch:=omega) only[wp,qa,qb,qc,ml,h3,h4,h5,h6,hg,hc1,hco,hat,hwc,hs1]
           exact ⟨N - (c + 1),by omega,c + 1,rfl,by omega,rfl,rfl,by first | omega | (dsimp only;omega)⟩
         | false =>
           rw[hT] at hat hs1
           simp only[Bool.false_or] at hs1
           simp (disch:=omega) only[wp,qa,qb,qc,ml,h3,h4,h5,h6,hg,hc1,hco,hat,hkc,hwc,hs1]
           exact ⟨N - (c + 1),by omega,c + 1,rfl,by omega,rfl,rfl,by first | omega | (dsimp only;omega)⟩
        ·obtain rfl:c = N:=by omega
         have hc1:¬ ((c:Int) < c):=by omega
         rw[←hs] at hg
         simp (disch:=omega) only[wp,qa,qb,qc,ml,h3,h4,h5,h6,hg,hc1,hwa]
         exact ⟨c - (a + 1),by omega,a + 1,rfl,by omega,rfl,rfl,by first | omega | (dsimp only;omega)⟩
     | false =>
       rw[p2M,if_neg (by rw[hA];simp)] at hs
       have h0N:(0:Int) < N:=by omega
       simp (disch:=omega) only[wp,qa,qb,qc,ml,h3,h4,h5,hg,ha1]
       refine W_loop (fun q e g => e 3 = .mp 5 0∧e 4 = .i .i64 k∧e 5 = .i .i64 a∧e 6 = .i .i64 0∧g.hp 5 = some (.cells (matC N T) false)∧5 < g.nx) 0 ?_ ?_
       ·simp (disch:=omega) only[wp,qa,qb,qc,h3,h4,h5,hg]
        first | omega | (dsimp only;omega)
       ·rintro q e g ⟨h3,h4,h5,h6,hg,hnx⟩
        simp (disch:=omega) only[wp,qa,qb,qc,ml,h3,h4,h5,h6,hg,h0N,hA,hwa]
        exact ⟨N - (a + 1),by omega,a + 1,rfl,by omega,rfl,by rw[hs],by first | omega | (dsimp only;omega)⟩
    ·obtain rfl:a = N:=by omega
     have ha1:¬ ((a:Int) < a):=by omega
     rw[←plM_succ] at hg
     simp (disch:=omega) only[wp,qa,qb,qc,ml,h3,h4,h5,hg,ha1,hwk]
     exact ⟨a - (k + 1),by omega,k + 1,rfl,by omega,rfl,rfl,by first | omega | (dsimp only;omega)⟩
  ·obtain rfl:k = N:=by omega
   have hk1:¬ ((k:Int) < k):=by omega
   simp (disch:=omega) only[wp,qa,qb,qc,ml,h3,h4,hg,hk1]
   exact ⟨5,rfl,hg⟩
end Go.Ab
end
section
set_option linter.unusedVariables false
set_option linter.unusedSimpArgs false
namespace Go.Ab
variable {F:Funs}
def Eqv (A:Mx) (R:Rw):Prop:=∀ a b,A a b = hb R a b
theorem upd2_get (M:Mx) (a b:Nat) (x:Bool) (i j:Nat):upd2 M a b x i j = if i = a∧j = b then x else M i j:=rfl
theorem eqv_new {n:Nat} (hn:n≤40) (l:List (Int × Int)):Eqv (newM n l) (newR n l):=by
 have key:∀ (l:List (Int × Int)) (M:Mx) (R:Rw),Eqv M R→Eqv (l.foldl (addM n) M) (l.foldl (addR n) R):=by
  intro l
  induction l with
  | nil => intro M R h;exact h
  | cons p l ih =>
    intro M R h
    refine ih _ _ fun a b => ?_
    rw[hb_add hn]
    unfold addM
    by_cases hi:inR n p = true
    ·rw[if_pos hi,upd2_get,hi]
     have hi':=hi
     simp only[inR,decide_eq_true_eq] at hi'
     by_cases h2:a = p.1.toNat∧b = p.2.toNat
     ·rw[if_pos h2]
      have:p = ((a:Int),(b:Int)):=by
       obtain ⟨x,y⟩:=p
       simp only at h2 hi'
       simp only[Prod.mk.injEq];omega
      simp[this]
     ·rw[if_neg h2,h a b]
      have:¬ p = ((a:Int),(b:Int)):=by
       rintro rfl
       exact h2 ⟨by simp,by simp⟩
      simp[this]
    ·rw[if_neg hi,h a b]
     simp only[Bool.not_eq_true] at hi
     simp[hi]
 exact key l _ _ fun a b => by rw[hb_zero]
def Same (n:Nat) (M:Mx) (R:Rw):Prop:=∀ a b:Nat,a < n→b < n→M a b = has n R a b
theorem same_of {n:Nat} {M:Mx} {R:Rw} (h:∀ a b,a < n→b < n→M a b = hb R a b):Same n M R:=fun a b ha hb' => by
 rw[h a b ha hb',has_N]
 simp[hN,ha,hb']
theorem opM_get (φ:Bool→Bool→Bool) (A B:Mx) (N a b:Nat) (ha:a < N) (hb':b < N):opM φ A B N a b = φ (A a b) (B a b):=by
 unfold opM stM;rw[if_pos (.inl ⟨ha,hb'⟩)]
theorem mback_get (A:Mx) (N a b:Nat) (ha:a < N) (hb':b < N):bkM A N N 0 a b = A b a:=by
 unfold bkM;rw[if_pos (.inl ⟨hb',ha⟩)]
theorem t3M_get (A B:Mx) (N a k:Nat) (T:Mx) (i j:Nat) (hj:j < N):t3M A B N a k T i j = (T i j || (decide (i = a) && (List.range k).any fun c => A a c && B c j)):=by
 induction k with
 | zero => simp[t3M]
 | succ k ih =>
   rw[t3M_succ,t2M,List.range_succ,List.any_append]
   cases hA:A a k with
   | true =>
     rw[if_pos rfl]
     unfold t1M
     by_cases hi:i = a
     ·subst hi
      rw[if_pos ⟨rfl,hj⟩,ih]
      simp[hA,Bool.or_assoc]
     ·rw[if_neg (fun h => hi h.1),ih]
      simp[hi]
   | false =>
     rw[if_neg (by simp),ih]
     simp[hA]
theorem thM_get (A B:Mx) (N k:Nat) (i j:Nat) (hj:j < N):thM A B N k i j = (decide (i < k) && (List.range N).any fun c => A i c && B c j):=by
 induction k with
 | zero => simp[thM]
 | succ k ih =>
   rw[thM_succ,t3M_get _ _ _ _ _ _ _ _ hj,ih]
   by_cases hi:i = k
   ·subst hi;simp
   ·have:decide (i < k) = decide (i < k + 1):=by rw[decide_eq_decide];omega
    rw[this];simp[hi]
theorem p3M_get (N k m:Nat) (T:Mx) (i j:Nat) (hj:j < N) (hk:k < N):p3M N k m T i j = (T i j || (decide (i < m) && T i k && T k j)):=by
 have key:∀ m i j,p3M N k m T i j = (T i j || (decide (i < m) && decide (j < N) && T i k && T k j)):=by
  intro m
  induction m with
  | zero => intro i j;simp[p3M]
  | succ m ih =>
    intro i j
    rw[p3M_succ,p2M]
    have hmk:p3M N k m T m k = T m k:=by rw[ih];simp
    have hkj:∀ j,p3M N k m T k j = T k j:=fun j => by
     rw[ih]
     cases T k j<;>simp
    rw[hmk]
    cases hc:T m k with
    | true =>
      rw[if_pos rfl]
      unfold p1M
      by_cases hi:i = m
      ·subst hi
       by_cases hjN:j < N
       ·rw[if_pos ⟨rfl,hjN⟩,ih,hkj]
        simp[hjN,hc]
       ·rw[if_neg (by omega),ih]
        simp[hjN]
      ·rw[if_neg (fun h => hi h.1),ih]
       have:decide (i < m) = decide (i < m + 1):=by rw[decide_eq_decide];omega
       rw[this]
    | false =>
      rw[if_neg (by simp),ih]
      by_cases hi:i = m
      ·subst hi;simp[hc]
      ·have:decide (i < m) = decide (i < m + 1):=by rw[decide_eq_decide];omega
       rw[this]
 rw[key];simp[hj]
theorem Wf.mono {n m:Nat} (h:n≤m) {R:Rw} (hR:Wf n R):Wf m R:=fun a b hh => by obtain ⟨h1,h2⟩:=hR a b hh;omega
end Go.Ab
end
section
set_option linter.unusedVariables false
set_option linter.unusedSimpArgs false
namespace Go.Ab
variable {F:Funs}
def EqN (n:Nat) (A:Mx) (R:Rw):Prop:=Wf n R∧∀ a b,a < n→b < n→A a b = hb R a b
theorem EqN.same {n A R} (h:EqN n A R):Same n A R:=same_of h.2
theorem EqN.new {n:Nat} (hn:n≤40) (l:List (Int × Int)):EqN n (newM n l) (newR n l):=⟨wf_new hn _,fun a b _ _ => eqv_new hn l a b⟩
section
variable {n:Nat} {A B:Mx} {R S:Rw}
theorem EqN.or (h:EqN n A R) (k:EqN n B S):EqN n (opM (fun x y => x || y) A B n) (orR R S):=
 ⟨wf_or h.1 k.1,fun a b ha hb' => by rw[opM_get _ _ _ _ _ _ ha hb',h.2 a b ha hb',k.2 a b ha hb',hb_or]⟩
theorem EqN.and (h:EqN n A R) (k:EqN n B S):EqN n (opM (fun x y => x && y) A B n) (andR R S):=
 ⟨wf_and h.1,fun a b ha hb' => by rw[opM_get _ _ _ _ _ _ ha hb',h.2 a b ha hb',k.2 a b ha hb',hb_and]⟩
theorem EqN.then (h:EqN n A R) (k:EqN n B S):EqN n (thM A B n n) (thenR n R S):=
 ⟨wf_then h.1 k.1,fun a b ha hb' => by
  rw[thM_get _ _ _ _ _ _ hb',Bool.eq_iff_iff,hb_then h.1,decide_eq_true ha,Bool.true_and,List.any_eq_true]
  constructor
  ·rintro ⟨c,hc,hh⟩
   rw[h.2 a c ha (List.mem_range.1 hc),k.2 c b (List.mem_range.1 hc) hb',Bool.and_eq_true] at hh
   exact ⟨c,hh.1,hh.2⟩
  ·rintro ⟨c,h1,h2⟩
   have hc:=(h.1 a c h1).2
   exact ⟨c,List.mem_range.2 hc,by rw[h.2 a c ha hc,k.2 c b hc hb',h1,h2];rfl⟩⟩
theorem plM_getN {N:Nat} {A:Mx} {R:Rw} (h:EqN N A R):∀ k,k≤N→∀ i j,i < N→j < N→plM N A k i j = hb (plusK N k R) i j
 | 0,_,i,j,hi,hj => h.2 i j hi hj
 | k + 1,hk,i,j,hi,hj => by
   have ih:=plM_getN h k (by omega)
   rw[plM_succ,p3M_get _ _ _ _ _ _ hj (by omega),plusK_succ,hb_rowP (by omega) _ (wf_plusK h.1 k (by omega)) N (Nat.le_refl _),ih i j hi hj,ih i k hi (by omega),ih k j (by omega) hj]
theorem EqN.plus (h:EqN n A R):EqN n (plM n A n) (plusR n R):=⟨wf_plus h.1,fun a b ha hb' => plM_getN h n (Nat.le_refl _) a b ha hb'⟩
theorem EqN.back (hn:n≤40) (h:EqN n A R):EqN n (bkM A n n 0) (backR n R):=
 ⟨wf_back hn,fun a b ha hb' => by
  rw[mback_get _ _ _ _ ha hb',hb_back hn,hN_wf h.1,h.2 b a hb' ha]⟩
end
end Go.Ab
end
section
namespace Go.Ab
def A_xref09_Rf:AFun:={ res:=[.t 2],body:=(.seq (.reg false [qo 1 (.box (.t 0)),qo 2 (.mv (.c (.nilp)))])
 (.seq (.reg false [qo 5 (.fa 1 (.t 1)),qo 6 (.ld none (.t 5)),qo 7 (.len (.t 6)),qo 8 (.call .thaw (.c (.fn 27 [] [])) [.t 7,.c (.sl [] 0 .rig)]),qm 3 8])
 (.seq (.seq (.reg false [qo 4 (.mv (.c (.i .i64 0)))])
 (.blk 0 (.loop (.seq (.seq (.reg false [qm 9 4,qo 10 (.fa 2 (.t 1)),qo 11 (.ld none (.t 10)),qo 12 (.len (.t 11)),qo 13 (.bin .lss (.t 9) (.t 12))])
 (.cond (.t 13) .skip
 (.ext 0)))
 (.seq (.blk 1 (.seq (.reg false [qo 16 (.fa 2 (.t 1)),qo 17 (.ld none (.t 16)),qm 18 4,qo 19 (.ia 1 (.t 17) (.t 18)),qo 20 (.ld none (.t 19)),qo 21 (.bin .geq (.t 20) (.c (.i .i64 0)))])
 (.cond (.t 21) (.reg true [qm 22 3,qo 23 (.fa 2 (.t 1)),qo 24 (.ld none (.t 23)),qm 25 4,qo 26 (.ia 1 (.t 24) (.t 25)),qo 27 (.ld none (.t 26)),qm 28 4,qo 29 (.nilck (.t 22)),qo 30 (.fa 1 (.t 29)),qo 31 (.iaa 40 40 (.t 30) (.t 27)),qo 32 (.iaa 40 1 (.t 31) (.t 28)),qn (.st 1 (.t 32) (.c (.b true)))])
 .skip)))
 (.reg false [qm 14 4,qo 15 (.bin .add (.t 14) (.c (.i .i64 1))),qm 4 15]))))))
 (.seq (.reg false [qm 33 3,qm 2 33])
 .ret)))) }
def A_xref09_Co:AFun:={ res:=[.t 2],body:=(.seq (.reg false [qo 1 (.box (.t 0)),qo 2 (.mv (.c (.nilp)))])
 (.seq (.reg false [qo 7 (.fa 1 (.t 1)),qo 8 (.ld none (.t 7)),qo 9 (.len (.t 8)),qo 10 (.call .thaw (.c (.fn 27 [] [])) [.t 9,.c (.sl [] 0 .rig)]),qm 3 10])
 (.seq (.seq (.reg false [qo 4 (.mv (.c (.i .i64 0)))])
 (.blk 0 (.loop (.seq (.seq (.reg false [qm 11 4,qo 12 (.fa 3 (.t 1)),qo 13 (.ld none (.t 12)),qo 14 (.len (.t 13)),qo 15 (.bin .lss (.t 11) (.t 14))])
 (.cond (.t 15) .skip
 (.ext 0)))
 (.seq (.blk 1 (.seq (.reg false [qo 5 (.mv (.c (.i .i64 0)))])
 (.blk 2 (.loop (.seq (.seq (.reg false [qm 18 5,qo 19 (.fa 3 (.t 1)),qo 20 (.ld none (.t 19)),qm 21 4,qo 22 (.ia 1 (.t 20) (.t 21)),qo 23 (.ld none (.t 22)),qo 24 (.len (.t 23)),qo 25 (.bin .lss (.t 18) (.t 24))])
 (.cond (.t 25) .skip
 (.ext 2)))
 (.seq (.blk 3 (.seq (.reg false [qm 28 5,qo 29 (.bin .add (.t 28) (.c (.i .i64 1))),qm 6 29])
 (.blk 4 (.loop (.seq (.seq (.reg false [qm 30 6,qo 31 (.fa 3 (.t 1)),qo 32 (.ld none (.t 31)),qm 33 4,qo 34 (.ia 1 (.t 32) (.t 33)),qo 35 (.ld none (.t 34)),qo 36 (.len (.t 35)),qo 37 (.bin .lss (.t 30) (.t 36))])
 (.cond (.t 37) .skip
 (.ext 4)))
 (.seq (.blk 5 (.reg true [qm 40 3,qo 41 (.fa 3 (.t 1)),qo 42 (.ld none (.t 41)),qm 43 4,qo 44 (.ia 1 (.t 42) (.t 43)),qo 45 (.ld none (.t 44)),qm 46 5,qo 47 (.ia 1 (.t 45) (.t 46)),qo 48 (.ld none (.t 47)),qo 49 (.fa 3 (.t 1)),qo 50 (.ld none (.t 49)),qm 51 4,qo 52 (.ia 1 (.t 50) (.t 51)),qo 53 (.ld none (.t 52)),qm 54 6,qo 55 (.ia 1 (.t 53) (.t 54)),qo 56 (.ld none (.t 55)),qo 57 (.nilck (.t 40)),qo 58 (.fa 1 (.t 57)),qo 59 (.iaa 40 40 (.t 58) (.t 48)),qo 60 (.iaa 40 1 (.t 59) (.t 56)),qn (.st 1 (.t 60) (.c (.b true)))]))
 (.reg false [qm 38 6,qo 39 (.bin .add (.t 38) (.c (.i .i64 1))),qm 6 39])))))))
 (.reg false [qm 26 5,qo 27 (.bin .add (.t 26) (.c (.i .i64 1))),qm 5 27])))))))
 (.reg false [qm 16 4,qo 17 (.bin .add (.t 16) (.c (.i .i64 1))),qm 4 17]))))))
 (.seq (.reg false [qm 61 3,qm 2 61])
 .ret)))) }
def A_xref09_Fr:AFun:={ res:=[.t 2],body:=(.seq (.reg false [qo 1 (.box (.t 0)),qo 2 (.mv (.c (.nilp)))])
 (.seq (.reg true [qo 3 (.ld (some 8) (.t 1)),qo 4 (.call .pure (.c (.fn 69 [] [])) [.t 3]),qo 5 (.call .pure (.c (.fn 33 [] [])) [.t 4]),qo 6 (.ld (some 8) (.t 1)),qo 7 (.call .pure (.c (.fn 70 [] [])) [.t 6]),qo 8 (.call .pure (.c (.fn 32 [] [])) [.t 5,.t 7]),qm 2 8])
 .ret)) }
def A_xref09_Loc:AFun:={ res:=[.t 2],body:=(.seq (.reg false [qo 1 (.box (.t 0)),qo 2 (.mv (.c (.nilp)))])
 (.seq (.reg false [qo 8 (.ld (some 8) (.t 1)),qo 9 (.call .thaw (.c (.fn 84 [] [])) [.t 8]),qm 3 9])
 (.seq (.seq (.reg false [qo 4 (.mv (.c (.i .i64 0)))])
 (.blk 0 (.loop (.seq (.seq (.reg false [qm 10 4,qm 11 3,qo 12 (.nilck (.t 11)),qo 13 (.fa 0 (.t 12)),qo 14 (.ld none (.t 13)),qo 15 (.bin .lss (.t 10) (.t 14))])
 (.cond (.t 15) .skip
 (.ext 0)))
 (.seq (.blk 1 (.seq (.reg false [qo 5 (.mv (.c (.i .i64 0)))])
 (.blk 2 (.loop (.seq (.seq (.reg false [qm 18 5,qm 19 3,qo 20 (.nilck (.t 19)),qo 21 (.fa 0 (.t 20)),qo 22 (.ld none (.t 21)),qo 23 (.bin .lss (.t 18) (.t 22))])
 (.cond (.t 23) .skip
 (.ext 2)))
 (.seq (.blk 3 (.seq (.reg true [qo 26 (.fa 1 (.t 1)),qo 27 (.ld none (.t 26)),qm 28 4,qo 29 (.ia 6 (.t 27) (.t 28)),qo 30 (.ld (some 6) (.t 29)),qo 31 (.fa 1 (.t 1)),qo 32 (.ld none (.t 31)),qm 33 5,qo 34 (.ia 6 (.t 32) (.t 33)),qo 35 (.ld (some 6) (.t 34)),qo 6 (.new (List.replicate 5 (.i .i64 0) ++ [.b false])),qo 7 (.new (List.replicate 5 (.i .i64 0) ++ [.b false])),qnp (.stL 6 (.t 6) (.t 30)) [10],qnp (.stL 6 (.t 7) (.t 35)) [11]])
 (.reg true [qm 36 3,qm 37 4,qm 38 5,qm 39 3,qm 40 4,qm 41 5,qo 42 (.nilck (.t 39)),qo 43 (.fa 1 (.t 42)),qo 44 (.iaa 40 40 (.t 43) (.t 40)),qo 45 (.iaa 40 1 (.t 44) (.t 41)),qo 46 (.ld none (.t 45)),qm 47 46,qg 48 (.fa 1 (.t 6)) 47 true,qg 49 (.ld none (.t 48)) 47 true,qg 50 (.bin .neq (.t 49) (.c (.i .i64 3))) 47 true,qo 51 (.pick (.t 47) (.t 50) (.c (.b false))),qm 52 51,qg 53 (.fa 1 (.t 7)) 52 true,qg 54 (.ld none (.t 53)) 52 true,qg 55 (.bin .neq (.t 54) (.c (.i .i64 3))) 52 true,qo 56 (.pick (.t 52) (.t 55) (.c (.b false))),qm 57 56,qg 58 (.fa 3 (.t 6)) 57 true,qg 59 (.ld none (.t 58)) 57 true,qg 60 (.fa 3 (.t 7)) 57 true,qg 61 (.ld none (.t 60)) 57 true,qg 62 (.bin .eql (.t 59) (.t 61)) 57 true,qo 63 (.pick (.t 57) (.t 62) (.c (.b false))),qo 64 (.nilck (.t 36)),qo 65 (.fa 1 (.t 64)),qo 66 (.iaa 40 40 (.t 65) (.t 37)),qo 67 (.iaa 40 1 (.t 66) (.t 38)),qn (.st 1 (.t 67) (.t 63))])))
 (.reg false [qm 24 5,qo 25 (.bin .add (.t 24) (.c (.i .i64 1))),qm 5 25])))))))
 (.reg false [qm 16 4,qo 17 (.bin .add (.t 16) (.c (.i .i64 1))),qm 4 17]))))))
 (.seq (.reg false [qm 68 3,qm 2 68])
 .ret)))) }
def A_xref09_Inner:AFun:={ res:=[.t 4],body:=(.seq (.reg false [qo 2 (.box (.t 0)),qo 4 (.mv (.c (.nilp)))])
 (.seq (.reg false [qo 5 (.ld (some 8) (.t 2)),qm 6 1,qo 7 (.call .pure (.c (.fn 85 [] [])) [.t 5,.t 6,.c (.b true)]),qm 4 7])
 .ret)) }
def A_xref09_Outer:AFun:={ res:=[.t 4],body:=(.seq (.reg false [qo 2 (.box (.t 0)),qo 4 (.mv (.c (.nilp)))])
 (.seq (.reg false [qo 5 (.ld (some 8) (.t 2)),qm 6 1,qo 7 (.call .pure (.c (.fn 85 [] [])) [.t 5,.t 6,.c (.b false)]),qm 4 7])
 .ret)) }
def A_xref09_part:AFun:={ res:=[.t 6],body:=(.seq (.reg false [qo 3 (.box (.t 0)),qo 6 (.mv (.c (.nilp)))])
 (.seq (.reg false [qm 10 1,qo 11 (.nilck (.t 10)),qo 12 (.fa 0 (.t 11)),qo 13 (.ld none (.t 12)),qo 14 (.call .thaw (.c (.fn 27 [] [])) [.t 13,.c (.sl [] 0 .rig)]),qm 7 14])
 (.seq (.seq (.reg false [qo 8 (.mv (.c (.i .i64 0)))])
 (.blk 0 (.loop (.seq (.seq (.reg false [qm 15 8,qm 16 1,qo 17 (.nilck (.t 16)),qo 18 (.fa 0 (.t 17)),qo 19 (.ld none (.t 18)),qo 20 (.bin .lss (.t 15) (.t 19)),qm 21 20,qg 22 (.mv (.t 8)) 21 true,qg 23 (.fa 1 (.t 3)) 21 true,qg 24 (.ld none (.t 23)) 21 true,qg 25 (.len (.t 24)) 21 true,qg 26 (.bin .lss (.t 22) (.t 25)) 21 true,qo 27 (.pick (.t 21) (.t 26) (.c (.b false)))])
 (.cond (.t 27) .skip
 (.ext 0)))
 (.seq (.blk 1 (.seq (.reg false [qo 9 (.mv (.c (.i .i64 0)))])
 (.blk 2 (.loop (.seq (.seq (.reg false [qm 30 9,qm 31 1,qo 32 (.nilck (.t 31)),qo 33 (.fa 0 (.t 32)),qo 34 (.ld none (.t 33)),qo 35 (.bin .lss (.t 30) (.t 34)),qm 36 35,qg 37 (.mv (.t 9)) 36 true,qg 38 (.fa 1 (.t 3)) 36 true,qg 39 (.ld none (.t 38)) 36 true,qg 40 (.len (.t 39)) 36 true,qg 41 (.bin .lss (.t 37) (.t 40)) 36 true,qo 42 (.pick (.t 36) (.t 41) (.c (.b false)))])
 (.cond (.t 42) .skip
 (.ext 2)))
 (.seq (.blk 3 (.reg true [qm 45 7,qm 46 8,qm 47 9,qm 48 1,qm 49 8,qm 50 9,qo 51 (.nilck (.t 48)),qo 52 (.fa 1 (.t 51)),qo 53 (.iaa 40 40 (.t 52) (.t 49)),qo 54 (.iaa 40 1 (.t 53) (.t 50)),qo 55 (.ld none (.t 54)),qm 56 55,qg 57 (.fa 1 (.t 3)) 56 true,qg 58 (.ld none (.t 57)) 56 true,qg 59 (.mv (.t 8)) 56 true,qg 60 (.ia 6 (.t 58) (.t 59)) 56 true,qg 61 (.fa 0 (.t 60)) 56 true,qg 62 (.ld none (.t 61)) 56 true,qg 63 (.fa 1 (.t 3)) 56 true,qg 64 (.ld none (.t 63)) 56 true,qg 65 (.mv (.t 9)) 56 true,qg 66 (.ia 6 (.t 64) (.t 65)) 56 true,qg 67 (.fa 0 (.t 66)) 56 true,qg 68 (.ld none (.t 67)) 56 true,qg 69 (.bin .eql (.t 62) (.t 68)) 56 true,qg 70 (.mv (.t 2)) 56 true,qg 71 (.eqb false (.t 69) (.t 70)) 56 true,qo 72 (.pick (.t 56) (.t 71) (.c (.b false))),qo 73 (.nilck (.t 45)),qo 74 (.fa 1 (.t 73)),qo 75 (.iaa 40 40 (.t 74) (.t 46)),qo 76 (.iaa 40 1 (.t 75) (.t 47)),qn (.st 1 (.t 76) (.t 72))]))
 (.reg false [qm 43 9,qo 44 (.bin .add (.t 43) (.c (.i .i64 1))),qm 9 44])))))))
 (.reg false [qm 28 8,qo 29 (.bin .add (.t 28) (.c (.i .i64 1))),qm 8 29]))))))
 (.seq (.reg false [qm 77 7,qm 6 77])
 .ret)))) }
structure Pk_xref09 (F:Funs):Prop where
 xref09_Rf:F 69 = some A_xref09_Rf
 xref09_Co:F 70 = some A_xref09_Co
 xref09_Fr:F 71 = some A_xref09_Fr
 xref09_Loc:F 73 = some A_xref09_Loc
 xref09_Inner:F 74 = some A_xref09_Inner
 xref09_Outer:F 75 = some A_xref09_Outer
 xref09_part:F 85 = some A_xref09_part
end Go.Ab
end
section
set_option linter.unusedVariables false
set_option linter.unusedSimpArgs false
namespace Go.Ab
variable {F:Funs}
def anyM (L:List (Int × Int)):Mx:=fun a b => L.any fun q => decide (q = ((a:Int),(b:Int)))
theorem anyM_add (L:List (Int × Int)) {a b:Int} (h0:0≤a) (h1:0≤b):upd2 (anyM L) a.toNat b.toNat true = anyM (L ++ [(a,b)]):=by
 funext i j
 unfold upd2 anyM
 rw[List.any_append]
 by_cases h:i = a.toNat∧j = b.toNat
 ·rw[if_pos h]
  have:decide ((a,b) = ((i:Int),(j:Int))) = true:=by rw[decide_eq_true_eq,Prod.mk.injEq];omega
  simp only[List.any_cons,List.any_nil,this,Bool.true_or,Bool.or_true]
 ·rw[if_neg h]
  have:decide ((a,b) = ((i:Int),(j:Int))) = false:=by rw[decide_eq_false_iff_not,Prod.mk.injEq];omega
  simp only[List.any_cons,List.any_nil,this,Bool.or_false]
theorem anyM_mem {L:List (Int × Int)} {a b:Nat}:anyM L a b = true↔((a:Int),(b:Int))∈L:=by
 unfold anyM
 rw[List.any_eq_true]
 constructor
 ·rintro ⟨q,hq,h⟩;rw[decide_eq_true_eq] at h;rw[←h];exact hq
 ·intro h;exact ⟨_,h,by simp⟩
def rfL (X:Gr) (k:Nat):List (Int × Int):=(List.range k).flatMap fun (i:Nat) => if 0≤X.rf.getD i 0 then [(X.rf.getD i 0,(i:Int))] else []
theorem rfL_succ (X k):rfL X (k + 1) = rfL X k ++ (if 0≤X.rf.getD k 0 then [(X.rf.getD k 0,(k:Int))] else []):=by simp[rfL,List.range_succ]
theorem sp_mRf (h69:F 69 = some A_xref09_Rf) (h27:F 27 = some A_xref01_New) {X:Gr} (hn:X.evs.length≤40) (hr:X.rf.length≤40) (hw:∀ i,i < X.rf.length→X.rf.getD i 0 < 40):pureS F 69 [.agg (grC X)] = some (.ptr (matC X.evs.length (anyM (rfL X X.rf.length)))):=by
 refine pure_of_thaw h69 (matC_flat _ _) ?_
 simp (disch:=omega) only[A_xref09_Rf,wp,qa,qb,qc,gl,ml,thaw27 h27]
 refine W_loop (fun q e g => ∃ k:Nat,q = X.rf.length - k∧k≤X.rf.length∧e 1 = .mp 0 0∧e 3 = .mp 5 0∧e 4 = .i .i64 k∧g.hp 0 = some (.cells (grC X) false)∧g.hp 5 = some (.cells (matC X.evs.length (anyM (rfL X k))) false)∧5 < g.nx) X.rf.length ?_ ?_
 ·refine ⟨0,rfl,Nat.zero_le _,?_⟩
  simp (disch:=omega) only[wp,qa,qb,qc]
  exact ⟨rfl,rfl,by first | omega | (dsimp only;omega)⟩
 ·rintro q e g ⟨k,rfl,hk,e1,e3,e4,hg,hm,hnx⟩
  by_cases hk':k < X.rf.length
  ·have hk1:(k:Int) < X.rf.length:=by omega
   have hk40:(k:Int) < 40:=by omega
   have hwk:=succ_wrap (k:=k) (by omega)
   have hp:=ints_part hk'
   have hs:=rfL_succ X k
   have hwb:=hw k hk'
   generalize X.rf.getD k 0 = w at hp hs hwb
   generalize rfL X k = L at hm hs
   by_cases c1:0≤w
   case neg =>
    rw[if_neg c1,List.append_nil] at hs
    simp (disch:=omega) only[wp,qa,qb,qc,gl,ml,e1,e3,e4,hg,hm,hk1,hp,c1,hwk]
    exact ⟨X.rf.length - (k + 1),by omega,k + 1,rfl,by omega,rfl,by rw[hs],by first | omega | (dsimp only;omega)⟩
   rw[if_pos c1] at hs
   have hadd:=anyM_add L c1 (b:=(k:Int)) (by omega)
   rw[Int.toNat_natCast] at hadd
   have hset:=matC_set (n:=X.evs.length) (M:=anyM L) (a:=w.toNat) (b:=k) (x:=true) (by omega)
   rw[hadd,←hs] at hset
   simp (disch:=omega) only[wp,qa,qb,qc,gl,ml,e1,e3,e4,hg,hm,hk1,hp,c1,hwk,hset]
   exact ⟨X.rf.length - (k + 1),by omega,k + 1,rfl,by omega,rfl,rfl,by first | omega | (dsimp only;omega)⟩
  ·obtain rfl:k = X.rf.length:=by omega
   have hk1:¬ ((X.rf.length:Int) < X.rf.length):=by omega
   simp (disch:=omega) only[wp,qa,qb,qc,gl,ml,e1,e3,e4,hg,hm,hk1]
   exact ⟨_,rfl,hm⟩
def coI (c:List Int) (i k:Nat):List (Int × Int):=(List.range k).flatMap fun m => if i < m then [(c.getD i 0,c.getD m 0)] else []
theorem coI_succ {c:List Int} {i k:Nat} (h:i < k):coI c i (k + 1) = coI c i k ++ [(c.getD i 0,c.getD k 0)]:=by simp[coI,List.range_succ,h]
theorem coI_0 (c:List Int) (i:Nat):coI c i (i + 1) = []:=by
 unfold coI
 rw[List.flatMap_eq_nil_iff]
 intro m hm
 rw[if_neg (by have:=List.mem_range.1 hm;omega)]
def coJ (c:List Int) (i:Nat):List (Int × Int):=(List.range i).flatMap fun j => coI c j c.length
theorem coJ_succ (c i):coJ c (i + 1) = coJ c i ++ coI c i c.length:=by simp[coJ,List.range_succ]
def coX (X:Gr) (l:Nat):List (Int × Int):=(List.range l).flatMap fun j => coJ (X.co.getD j []) (X.co.getD j []).length
theorem coX_succ (X l):coX X (l + 1) = coX X l ++ coJ (X.co.getD l []) (X.co.getD l []).length:=by simp[coX,List.range_succ]
theorem sp_mCo (h70:F 70 = some A_xref09_Co) (h27:F 27 = some A_xref01_New) {X:Gr} (hn:X.evs.length≤40) (hl:X.co.length≤1000) (hc:∀ j,j < X.co.length→(X.co.getD j []).length≤1000∧∀ i,i < (X.co.getD j []).length→0≤(X.co.getD j []).getD i 0∧(X.co.getD j []).getD i 0 < 40):pureS F 70 [.agg (grC X)] = some (.ptr (matC X.evs.length (anyM (coX X X.co.length)))):=by
 refine pure_of_thaw h70 (matC_flat _ _) ?_
 simp (disch:=omega) only[A_xref09_Co,wp,qa,qb,qc,gl,ml,thaw27 h27]
 refine W_loop (fun q e g => ∃ j:Nat,q = X.co.length - j∧j≤X.co.length∧e 1 = .mp 0 0∧e 3 = .mp 5 0∧e 4 = .i .i64 j∧g.hp 0 = some (.cells (grC X) false)∧g.hp 5 = some (.cells (matC X.evs.length (anyM (coX X j))) false)∧5 < g.nx) X.co.length ?_ ?_
 ·refine ⟨0,rfl,Nat.zero_le _,?_⟩
  simp (disch:=omega) only[wp,qa,qb,qc]
  exact ⟨rfl,rfl,by first | omega | (dsimp only;omega)⟩
 ·rintro q e g ⟨j,rfl,hj,e1,e3,e4,hg,hm,hnx⟩
  by_cases hj':j < X.co.length
  ·have hj1:(j:Int) < X.co.length:=by omega
   have hwj:=succ_wrap (k:=j) (by omega)
   have hp:=co_part hj'
   have hs:=coX_succ X j
   obtain ⟨hcl,hcr⟩:=hc j hj'
   generalize X.co.getD j [] = c at hp hs hcl hcr
   generalize coX X j = L at hm hs
   simp (disch:=omega) only[wp,qa,qb,qc,gl,ml,e1,e3,e4,hg,hm,hj1]
   refine W_loop (fun q e g => ∃ i:Nat,q = c.length - i∧i≤c.length∧e 1 = .mp 0 0∧e 3 = .mp 5 0∧e 4 = .i .i64 j∧e 5 = .i .i64 i∧g.hp 0 = some (.cells (grC X) false)∧g.hp 5 = some (.cells (matC X.evs.length (anyM (L ++ coJ c i))) false)∧5 < g.nx) c.length ?_ ?_
   ·refine ⟨0,rfl,Nat.zero_le _,?_⟩
    simp (disch:=omega) only[wp,qa,qb,qc,e1,e3,e4]
    exact ⟨rfl,hg,by rw[hm];simp[coJ],by first | omega | (dsimp only;omega)⟩
   ·rintro q e g ⟨i,rfl,hi,e1,e3,e4,e5,hg,hm,hnx⟩
    by_cases hi':i < c.length
    ·have hi1:(i:Int) < c.length:=by omega
     have hwi:=succ_wrap (k:=i) (by omega)
     have hip:=ints_part hi'
     have hsJ:=coJ_succ c i
     have ⟨ha0,ha1⟩:=hcr i hi'
     generalize hLJ:L ++ coJ c i = LJ at hm
     have hsJ':L ++ coJ c (i + 1) = LJ ++ coI c i c.length:=by rw[hsJ,←List.append_assoc,hLJ]
     simp (disch:=omega) only[wp,qa,qb,qc,gl,ml,e1,e3,e4,e5,hg,hm,hj1,hp,hi1,hwi]
     refine W_loop (fun q e g => ∃ k:Nat,q = c.length - k∧i < k∧k≤c.length∧e 1 = .mp 0 0∧e 3 = .mp 5 0∧e 4 = .i .i64 j∧e 5 = .i .i64 i∧e 6 = .i .i64 k∧g.hp 0 = some (.cells (grC X) false)∧g.hp 5 = some (.cells (matC X.evs.length (anyM (LJ ++ coI c i k))) false)∧5 < g.nx) (c.length - (i + 1)) ?_ ?_
     ·refine ⟨i + 1,rfl,by omega,by omega,?_⟩
      simp (disch:=omega) only[wp,qa,qb,qc,e1,e3,e4,e5,coI_0,List.append_nil]
      exact ⟨hg,hm,by first | omega | (dsimp only;omega)⟩
     ·rintro q e g ⟨k,rfl,hik,hk,e1,e3,e4,e5,e6,hg,hm,hnx⟩
      by_cases hk':k < c.length
      ·have hk1:(k:Int) < c.length:=by omega
       have hwk:=succ_wrap (k:=k) (by omega)
       have hkp:=ints_part hk'
       have hsI:=coI_succ (c:=c) hik
       have ⟨hb0,hb1⟩:=hcr k hk'
       generalize hLI:LJ ++ coI c i k = LI at hm
       have hsI':LJ ++ coI c i (k + 1) = LI ++ [(c.getD i 0,c.getD k 0)]:=by rw[hsI,←List.append_assoc,hLI]
       generalize c.getD i 0 = va at hip ha0 ha1 hsI'
       generalize c.getD k 0 = vb at hkp hb0 hb1 hsI'
       have hadd:=anyM_add LI ha0 hb0
       have hset:=matC_set (n:=X.evs.length) (M:=anyM LI) (a:=va.toNat) (b:=vb.toNat) (x:=true) (by omega)
       rw[hadd,←hsI'] at hset
       simp (disch:=omega) only[wp,qa,qb,qc,gl,ml,e1,e3,e4,e5,e6,hg,hm,hj1,hp,hi1,hk1,hip,hkp,hwk,hset]
       exact ⟨c.length - (k + 1),by omega,k + 1,rfl,by omega,by omega,rfl,rfl,by first | omega | (dsimp only;omega)⟩
      ·obtain rfl:k = c.length:=by omega
       have hk1:¬ ((c.length:Int) < c.length):=by omega
       simp (disch:=omega) only[wp,qa,qb,qc,gl,ml,e1,e3,e4,e5,e6,hg,hm,hj1,hp,hk1,hwi]
       exact ⟨c.length - (i + 1),by omega,i + 1,rfl,by omega,rfl,by rw[hsJ'],by first | omega | (dsimp only;omega)⟩
    ·obtain rfl:i = c.length:=by omega
     have hi1:¬ ((c.length:Int) < c.length):=by omega
     simp (disch:=omega) only[wp,qa,qb,qc,gl,ml,e1,e3,e4,e5,hg,hm,hj1,hp,hi1,hwj]
     exact ⟨X.co.length - (j + 1),by omega,j + 1,rfl,by omega,rfl,by rw[hs],by first | omega | (dsimp only;omega)⟩
  ·obtain rfl:j = X.co.length:=by omega
   have hj1:¬ ((X.co.length:Int) < X.co.length):=by omega
   simp (disch:=omega) only[wp,qa,qb,qc,gl,ml,e1,e3,e4,hg,hm,hj1]
   exact ⟨_,rfl,hm⟩
end Go.Ab
end
section
set_option linter.unusedVariables false
set_option linter.unusedSimpArgs false
namespace Go.Ab
variable {F:Funs}
def frM (n:Nat) (A C:Mx):Mx:=thM (bkM A n n 0) C n n
theorem sp_mFr (h71:F 71 = some A_xref09_Fr) (h27:F 27 = some A_xref01_New) (h32:F 32 = some A_xref01_R_Then) (h33:F 33 = some A_xref01_R_Back) {X:Gr} {n:Nat} (hn:n≤40) {A C:Mx} (hA:pureS F 69 [.agg (grC X)] = some (.ptr (matC n A))) (hC:pureS F 70 [.agg (grC X)] = some (.ptr (matC n C))):pureS F 71 [.agg (grC X)] = some (.ptr (matC n (frM n A C))):=by
 refine pure_of h71 ?_
 simp (disch:=omega) only[A_xref09_Fr,wp,qa,qb,qc,gl,hA,hC,sp_mback h33 h27 hn,sp_mthen h32 h27 hn hn,Nat.max_self]
 rfl
def stU (φ:Nat→Nat→Bool) (n a b:Nat):Mx:=fun i j => if (i < a∧i < j∧j < n)∨(i = a∧i < j∧j < b) then φ i j else false
theorem stU_succ {φ:Nat→Nat→Bool} {n a b:Nat} (h:a < b):upd2 (stU φ n a b) a b (φ a b) = stU φ n a (b + 1):=by
 funext i j
 unfold upd2 stU
 by_cases h1:i = a∧j = b
 ·obtain ⟨rfl,rfl⟩:=h1
  rw[if_pos ⟨rfl,rfl⟩,if_pos (by omega)]
 ·rw[if_neg h1]
  by_cases h2:(i < a∧i < j∧j < n)∨(i = a∧i < j∧j < b)
  ·rw[if_pos h2,if_pos (by omega)]
  ·rw[if_neg h2,if_neg (by omega)]
theorem stU_row (φ:Nat→Nat→Bool) (n a:Nat):stU φ n a n = stU φ n (a + 1) (a + 1 + 1):=by
 funext i j
 unfold stU
 by_cases h2:(i < a∧i < j∧j < n)∨(i = a∧i < j∧j < n)
 ·rw[if_pos h2,if_pos (by omega)]
 ·rw[if_neg h2,if_neg (by omega)]
theorem stU_0 (φ:Nat→Nat→Bool) (n:Nat):stU φ n 0 (0 + 1) = fun _ _ => false:=by
 funext i j;unfold stU;rw[if_neg (by omega)]
def thI (X:Gr) (i:Nat):Int:=(X.evs.getD i ev0).th
def poV (X:Gr) (i j:Nat):Bool:=(thI X i == 0 && decide (0 < thI X j)) || (decide (0 < thI X i) && thI X i == thI X j)
theorem po_W (h27:F 27 = some A_xref01_New) {X:Gr} (hn:X.evs.length≤40):W F A_xref06_Po.body (argEnv [.agg (grC X)]) g0 (retT A_xref06_Po.res (matC X.evs.length (stU (poV X) X.evs.length X.evs.length (X.evs.length + 1)))):=by
 simp (disch:=omega) only[A_xref06_Po,wp,qa,qb,qc,gl,ml,thaw27 h27]
 refine W_loop (fun q e g => ∃ a:Nat,q = X.evs.length - a∧a≤X.evs.length∧e 1 = .mp 0 0∧e 3 = .mp 5 0∧e 4 = .i .i64 a∧g.hp 0 = some (.cells (grC X) false)∧g.hp 5 = some (.cells (matC X.evs.length (stU (poV X) X.evs.length a (a + 1))) false)∧5 < g.nx) X.evs.length ?_ ?_
 ·refine ⟨0,rfl,Nat.zero_le _,?_⟩
  simp (disch:=omega) only[wp,qa,qb,qc]
  exact ⟨rfl,by rw[stU_0],by first | omega | (dsimp only;omega)⟩
 ·rintro q e g ⟨a,rfl,ha,e1,e3,e4,hg,hm,hnx⟩
  by_cases ha':a < X.evs.length
  ·have ha1:(a:Int) < X.evs.length:=by omega
   have hwa:=succ_wrap (k:=a) (by omega)
   simp (disch:=omega) only[wp,qa,qb,qc,gl,ml,e1,e3,e4,hg,hm,ha1,hwa]
   refine W_loop (fun q e g => ∃ b:Nat,q = X.evs.length - b∧a < b∧b≤X.evs.length∧e 1 = .mp 0 0∧e 3 = .mp 5 0∧e 4 = .i .i64 a∧e 5 = .i .i64 b∧g.hp 0 = some (.cells (grC X) false)∧g.hp 5 = some (.cells (matC X.evs.length (stU (poV X) X.evs.length a b)) false)∧5 < g.nx) (X.evs.length - (a + 1)) ?_ ?_
   ·refine ⟨a + 1,rfl,by omega,by omega,?_⟩
    simp (disch:=omega) only[wp,qa,qb,qc,e1,e3,e4]
    exact ⟨hg,hm,by first | omega | (dsimp only;omega)⟩
   ·rintro q e g ⟨b,rfl,hab,hb,e1,e3,e4,e5,hg,hm,hnx⟩
    by_cases hb':b < X.evs.length
    ·have hb1:(b:Int) < X.evs.length:=by omega
     have hwb:=succ_wrap (k:=b) (by omega)
     have tA:=ev_th_at ha'
     have tB:=ev_th_at hb'
     have dA:(List.drop (a * 6) (evsC X.evs)).length = X.evs.length * 6 - a * 6:=by rw[List.length_drop,evsC_len]
     have dB:(List.drop (b * 6) (evsC X.evs)).length = X.evs.length * 6 - b * 6:=by rw[List.length_drop,evsC_len]
     have hv:poV X a b = ((thI X a == 0 && decide (0 < thI X b)) || (decide (0 < thI X a) && thI X a == thI X b)):=rfl
     have hs:=stU_succ (φ:=poV X) (n:=X.evs.length) hab
     have hset:=fun x => matC_set (n:=X.evs.length) (M:=stU (poV X) X.evs.length a b) (a:=a) (b:=b) (x:=x) (by omega)
     unfold thI at hv
     generalize (X.evs.getD a ev0).th = ta at tA hv
     generalize (X.evs.getD b ev0).th = tb at tB hv
     generalize poV X a b = v at hs hv
     have fin:∀ x,x = v→X.evs.length - (b + 1) < X.evs.length - b∧upd2 (stU (poV X) X.evs.length a b) a b x = stU (poV X) X.evs.length a (b + 1):=fun x hx => ⟨by omega,by rw[hx,hs]⟩
     cases c1:(ta == 0)
     case true =>
      by_cases c2:0 < tb
      case pos =>
       simp (disch:=omega) only[wp,qa,qb,qc,gl,ml,e1,e3,e4,e5,hg,hm,hb1,tA,tB,dA,dB,c1,c2,hset,hwb]
       obtain ⟨f1,f2⟩:=fin true (by rw[hv,c1,decide_eq_true c2];rfl)
       exact ⟨_,f1,b + 1,rfl,by omega,by omega,rfl,by rw[f2],by first | omega | (dsimp only;omega)⟩
      have c3:¬ 0 < ta:=by have:ta = 0:=by simpa using c1
                           omega
      simp (disch:=omega) only[wp,qa,qb,qc,gl,ml,e1,e3,e4,e5,hg,hm,hb1,tA,tB,dA,dB,c1,c2,c3,hset,hwb]
      obtain ⟨f1,f2⟩:=fin false (by rw[hv,c1,decide_eq_false c2,decide_eq_false c3];rfl)
      exact ⟨_,f1,b + 1,rfl,by omega,by omega,rfl,by rw[f2],by first | omega | (dsimp only;omega)⟩
     by_cases c3:0 < ta
     case neg =>
      simp (disch:=omega) only[wp,qa,qb,qc,gl,ml,e1,e3,e4,e5,hg,hm,hb1,tA,tB,dA,dB,c1,c3,hset,hwb]
      obtain ⟨f1,f2⟩:=fin false (by rw[hv,c1,decide_eq_false c3];rfl)
      exact ⟨_,f1,b + 1,rfl,by omega,by omega,rfl,by rw[f2],by first | omega | (dsimp only;omega)⟩
     simp (disch:=omega) only[wp,qa,qb,qc,gl,ml,e1,e3,e4,e5,hg,hm,hb1,tA,tB,dA,dB,c1,c3,hset,hwb]
     obtain ⟨f1,f2⟩:=fin (ta == tb) (by rw[hv,c1,decide_eq_true c3];simp)
     exact ⟨_,f1,b + 1,rfl,by omega,by omega,rfl,by rw[f2],by first | omega | (dsimp only;omega)⟩
    ·obtain rfl:b = X.evs.length:=by omega
     have hb1:¬ ((X.evs.length:Int) < X.evs.length):=by omega
     simp (disch:=omega) only[wp,qa,qb,qc,gl,ml,e1,e3,e4,e5,hg,hm,hb1,hwa]
     exact ⟨X.evs.length - (a + 1),by omega,a + 1,rfl,by omega,rfl,by rw[stU_row],by first | omega | (dsimp only;omega)⟩
  ·obtain rfl:a = X.evs.length:=by omega
   have ha1:¬ ((X.evs.length:Int) < X.evs.length):=by omega
   simp (disch:=omega) only[wp,qa,qb,qc,gl,ml,e1,e3,e4,hg,hm,ha1]
   exact ⟨_,rfl,hm⟩
def mpoM (X:Gr):Mx:=stU (poV X) X.evs.length X.evs.length (X.evs.length + 1)
theorem sp_mPo (h84:F 84 = some A_xref06_Po) (h27:F 27 = some A_xref01_New) {X:Gr} (hn:X.evs.length≤40):pureS F 84 [.agg (grC X)] = some (.ptr (matC X.evs.length (mpoM X))):=pure_of_thaw h84 (matC_flat _ _) (po_W h27 hn)
theorem thaw84 (h84:F 84 = some A_xref06_Po) (h27:F 27 = some A_xref01_New) {X:Gr} (hn:X.evs.length≤40) (al:Nat→Bool) (id:Nat) (g:G):vThaw F al id (.fn 84 [] []) [.agg (grC X)] g = some (.mp id 0,⟨upd g.hp id (some (.cells (matC X.evs.length (mpoM X)) false)),g.nx⟩):=
 vThaw_S (bs:=[.agg (grC X)]) (by simp only[frzL_cons,frz_gr,frzL_nil,consO_ok]) (thaw_of h84 (matC_flat _ _) (po_W h27 hn)) (by simp only[List.flatMap_cons,List.flatMap_nil,vis_gr,List.append_nil])
end Go.Ab
end
section
set_option linter.unusedVariables false
set_option linter.unusedSimpArgs false
namespace Go.Ab
variable {F:Funs}
def stK (M:Mx) (φ:Nat→Nat→Bool) (n a b:Nat):Mx:=fun i j => if (i < a∧j < n)∨(i = a∧j < b) then M i j && φ i j else M i j
theorem stK_succ (M φ n a b):upd2 (stK M φ n a b) a b (M a b && φ a b) = stK M φ n a (b + 1):=by
 funext i j
 unfold upd2 stK
 by_cases h1:i = a∧j = b
 ·obtain ⟨rfl,rfl⟩:=h1
  rw[if_pos ⟨rfl,rfl⟩,if_pos (by omega)]
 ·rw[if_neg h1]
  by_cases h2:(i < a∧j < n)∨(i = a∧j < b)
  ·rw[if_pos h2,if_pos (by omega)]
  ·rw[if_neg h2,if_neg (by omega)]
theorem stK_row (M φ n a):stK M φ n a n = stK M φ n (a + 1) 0:=by
 funext i j
 unfold stK
 by_cases h2:(i < a∧j < n)∨(i = a∧j < n)
 ·rw[if_pos h2,if_pos (by omega)]
 ·rw[if_neg h2,if_neg (by omega)]
theorem stK_0 (M φ n):stK M φ n 0 0 = M:=by funext i j;unfold stK;rw[if_neg (by omega)]
theorem stK_at (M φ n a b):stK M φ n a b a b = M a b:=by unfold stK;rw[if_neg (by omega)]
def locV (X:Gr) (i j:Nat):Bool:=(X.evs.getD i ev0).kd != 3 && ((X.evs.getD j ev0).kd != 3 && (X.evs.getD i ev0).lc == (X.evs.getD j ev0).lc)
def locM (X:Gr):Mx:=stK (mpoM X) (locV X) X.evs.length X.evs.length 0
theorem sp_mLoc (h73:F 73 = some A_xref09_Loc) (h84:F 84 = some A_xref06_Po) (h27:F 27 = some A_xref01_New) {X:Gr} (hn:X.evs.length≤40):pureS F 73 [.agg (grC X)] = some (.ptr (matC X.evs.length (locM X))):=by
 refine pure_of_thaw h73 (matC_flat _ _) ?_
 have s6:∀ b1 b2 b3 b4 b5 b6 c1 c2 c3 c4 c5 c6:AV,splice [b1,b2,b3,b4,b5,b6] 0 [c1,c2,c3,c4,c5,c6] = [c1,c2,c3,c4,c5,c6]:=fun _ _ _ _ _ _ _ _ _ _ _ _ => rfl
 simp (disch:=omega) only[A_xref09_Loc,wp,qa,qb,qc,gl,ml,thaw84 h84 h27 hn]
 generalize hM0:mpoM X = M0
 have hloc:locM X = stK M0 (locV X) X.evs.length X.evs.length 0:=by unfold locM;rw[hM0]
 refine W_loop (fun q e g => ∃ a:Nat,q = X.evs.length - a∧a≤X.evs.length∧e 1 = .mp 0 0∧e 3 = .mp 3 0∧e 4 = .i .i64 a∧g.hp 0 = some (.cells (grC X) false)∧g.hp 3 = some (.cells (matC X.evs.length (stK M0 (locV X) X.evs.length a 0)) false)∧3 < g.nx) X.evs.length ?_ ?_
 ·refine ⟨0,rfl,Nat.zero_le _,?_⟩
  simp (disch:=omega) only[wp,qa,qb,qc]
  exact ⟨rfl,by rw[stK_0],by first | omega | (dsimp only;omega)⟩
 ·rintro q e g ⟨a,rfl,ha,e1,e3,e4,hg,hm,hnx⟩
  by_cases ha':a < X.evs.length
  ·have ha1:(a:Int) < X.evs.length:=by omega
   have hwa:=succ_wrap (k:=a) (by omega)
   simp (disch:=omega) only[wp,qa,qb,qc,gl,ml,e1,e3,e4,hg,hm,ha1]
   refine W_loop (fun q e g => ∃ b:Nat,q = X.evs.length - b∧b≤X.evs.length∧e 1 = .mp 0 0∧e 3 = .mp 3 0∧e 4 = .i .i64 a∧e 5 = .i .i64 b∧g.hp 0 = some (.cells (grC X) false)∧g.hp 3 = some (.cells (matC X.evs.length (stK M0 (locV X) X.evs.length a b)) false)∧3 < g.nx) X.evs.length ?_ ?_
   ·refine ⟨0,rfl,Nat.zero_le _,?_⟩
    simp (disch:=omega) only[wp,qa,qb,qc,e1,e3,e4]
    exact ⟨rfl,hg,hm,by first | omega | (dsimp only;omega)⟩
   ·rintro q e g ⟨b,rfl,hb,e1,e3,e4,e5,hg,hm,hnx⟩
    by_cases hb':b < X.evs.length
    ·have hb1:(b:Int) < X.evs.length:=by omega
     have hwb:=succ_wrap (k:=b) (by omega)
     have pa:=ev_part ha'
     have pb:=ev_part hb'
     have hv:locV X a b = ((X.evs.getD a ev0).kd != 3 && ((X.evs.getD b ev0).kd != 3 && (X.evs.getD a ev0).lc == (X.evs.getD b ev0).lc)):=rfl
     have hs:=stK_succ M0 (locV X) X.evs.length a b
     have hat:=stK_at M0 (locV X) X.evs.length a b
     have hset:=fun x => matC_set (n:=X.evs.length) (M:=stK M0 (locV X) X.evs.length a b) (a:=a) (b:=b) (x:=x) (by omega)
     generalize X.evs.getD a ev0 = u at pa hv
     generalize X.evs.getD b ev0 = v at pb hv
     obtain ⟨th,kd,md,lc,vl,ex⟩:=u
     obtain ⟨th',kd',md',lc',vl',ex'⟩:=v
     simp only at hv
     generalize locV X a b = z at hs hv
     have fin:∀ x,x = (M0 a b && z)→X.evs.length - (b + 1) < X.evs.length - b∧upd2 (stK M0 (locV X) X.evs.length a b) a b x = stK M0 (locV X) X.evs.length a (b + 1):=fun x hx => ⟨by omega,by rw[hx,hs]⟩
     cases c0:M0 a b
     case false =>
      rw[c0] at hat
      simp (disch:=omega) only[wp,qa,qb,qc,gl,ml,e1,e3,e4,e5,hg,hm,ha1,hb1,pa,pb,s6,hat,c0,hset,hwb]
      obtain ⟨f1,f2⟩:=fin false (by rw[c0];rfl)
      exact ⟨_,f1,b + 1,rfl,by omega,rfl,by rw[f2],by first | omega | (dsimp only;omega)⟩
     rw[c0] at hat
     cases c1:(kd != 3)
     case false =>
      simp (disch:=omega) only[wp,qa,qb,qc,gl,ml,e1,e3,e4,e5,hg,hm,ha1,hb1,pa,pb,s6,hat,c0,c1,hset,hwb]
      obtain ⟨f1,f2⟩:=fin false (by rw[c0,hv,c1];rfl)
      exact ⟨_,f1,b + 1,rfl,by omega,rfl,by rw[f2],by first | omega | (dsimp only;omega)⟩
     cases c2:(kd' != 3)
     case false =>
      simp (disch:=omega) only[wp,qa,qb,qc,gl,ml,e1,e3,e4,e5,hg,hm,ha1,hb1,pa,pb,s6,hat,c0,c1,c2,hset,hwb]
      obtain ⟨f1,f2⟩:=fin false (by rw[c0,hv,c1,c2];rfl)
      exact ⟨_,f1,b + 1,rfl,by omega,rfl,by rw[f2],by first | omega | (dsimp only;omega)⟩
     simp (disch:=omega) only[wp,qa,qb,qc,gl,ml,e1,e3,e4,e5,hg,hm,ha1,hb1,pa,pb,s6,hat,c0,c1,c2,hset,hwb]
     obtain ⟨f1,f2⟩:=fin (lc == lc') (by rw[c0,hv,c1,c2];simp)
     exact ⟨_,f1,b + 1,rfl,by omega,rfl,by rw[f2],by first | omega | (dsimp only;omega)⟩
    ·obtain rfl:b = X.evs.length:=by omega
     have hb1:¬ ((X.evs.length:Int) < X.evs.length):=by omega
     simp (disch:=omega) only[wp,qa,qb,qc,gl,ml,e1,e3,e4,e5,hg,hm,hb1,hwa]
     exact ⟨X.evs.length - (a + 1),by omega,a + 1,rfl,by omega,rfl,by rw[stK_row],by first | omega | (dsimp only;omega)⟩
  ·obtain rfl:a = X.evs.length:=by omega
   have ha1:¬ ((X.evs.length:Int) < X.evs.length):=by omega
   simp (disch:=omega) only[wp,qa,qb,qc,gl,ml,e1,e3,e4,hg,hm,ha1,hloc]
   exact ⟨_,rfl,hm⟩
def thV (X:Gr) (one:Bool):Mx:=fun i j => (thI X i == thI X j) == one
def prtM (X:Gr) (one:Bool) (A:Mx):Mx:=opM (fun x y => x && y) A (thV X one) X.evs.length
theorem sp_mpart (h85:F 85 = some A_xref09_part) (h27:F 27 = some A_xref01_New) {X:Gr} (hn:X.evs.length≤40) (A:Mx) (one:Bool):pureS F 85 [.agg (grC X),.ptr (matC X.evs.length A),.b one] = some (.ptr (matC X.evs.length (prtM X one A))):=by
 refine pure_of_thaw h85 (matC_flat _ _) ?_
 have fin0:prtM X one A = stM (fun x y => x && y) A (thV X one) X.evs.length X.evs.length 0:=rfl
 simp (disch:=omega) only[A_xref09_part,wp,qa,qb,qc,gl,ml,thaw27 h27]
 generalize hB:thV X one = B at fin0
 refine W_loop (fun q e g => ∃ a:Nat,q = X.evs.length - a∧a≤X.evs.length∧e 1 = .ptr (matC X.evs.length A)∧e 2 = .b one∧e 3 = .mp 0 0∧e 7 = .mp 6 0∧e 8 = .i .i64 a∧g.hp 0 = some (.cells (grC X) false)∧g.hp 6 = some (.cells (matC X.evs.length (stM (fun x y => x && y) A B X.evs.length a 0)) false)∧6 < g.nx) X.evs.length ?_ ?_
 ·refine ⟨0,rfl,Nat.zero_le _,?_⟩
  simp (disch:=omega) only[wp,qa,qb,qc]
  exact ⟨rfl,by rw[stM_0],by first | omega | (dsimp only;omega)⟩
 ·rintro q e g ⟨a,rfl,ha,e1,e2,e3,e7,e8,hg,hm,hnx⟩
  by_cases ha':a < X.evs.length
  ·have ha1:(a:Int) < X.evs.length:=by omega
   have hwa:=succ_wrap (k:=a) (by omega)
   simp (disch:=omega) only[wp,qa,qb,qc,gl,ml,e1,e2,e3,e7,e8,hg,hm,ha1]
   refine W_loop (fun q e g => ∃ b:Nat,q = X.evs.length - b∧b≤X.evs.length∧e 1 = .ptr (matC X.evs.length A)∧e 2 = .b one∧e 3 = .mp 0 0∧e 7 = .mp 6 0∧e 8 = .i .i64 a∧e 9 = .i .i64 b∧g.hp 0 = some (.cells (grC X) false)∧g.hp 6 = some (.cells (matC X.evs.length (stM (fun x y => x && y) A B X.evs.length a b)) false)∧6 < g.nx) X.evs.length ?_ ?_
   ·refine ⟨0,rfl,Nat.zero_le _,?_⟩
    simp (disch:=omega) only[wp,qa,qb,qc,e1,e2,e3,e7,e8]
    exact ⟨rfl,hg,hm,by first | omega | (dsimp only;omega)⟩
   ·rintro q e g ⟨b,rfl,hb,e1,e2,e3,e7,e8,e9,hg,hm,hnx⟩
    by_cases hb':b < X.evs.length
    ·have hb1:(b:Int) < X.evs.length:=by omega
     have hwb:=succ_wrap (k:=b) (by omega)
     have tA:=ev_th_at ha'
     have tB:=ev_th_at hb'
     have dA:(List.drop (a * 6) (evsC X.evs)).length = X.evs.length * 6 - a * 6:=by rw[List.length_drop,evsC_len]
     have dB:(List.drop (b * 6) (evsC X.evs)).length = X.evs.length * 6 - b * 6:=by rw[List.length_drop,evsC_len]
     have hv:B a b = (((X.evs.getD a ev0).th == (X.evs.getD b ev0).th) == one):=by rw[←hB];rfl
     have hs:=stM_succ (fun x y => x && y) A B X.evs.length a b
     have hset:=fun x => matC_set (n:=X.evs.length) (M:=stM (fun x y => x && y) A B X.evs.length a b) (a:=a) (b:=b) (x:=x) (by omega)
     generalize (X.evs.getD a ev0).th = ta at tA hv
     generalize (X.evs.getD b ev0).th = tb at tB hv
     have fin:∀ x,x = (A a b && B a b)→X.evs.length - (b + 1) < X.evs.length - b∧upd2 (stM (fun x y => x && y) A B X.evs.length a b) a b x = stM (fun x y => x && y) A B X.evs.length a (b + 1):=fun x hx => ⟨by omega,by rw[hx];exact hs⟩
     cases c0:A a b
     case false =>
      simp (disch:=omega) only[wp,qa,qb,qc,gl,ml,e1,e2,e3,e7,e8,e9,hg,hm,ha1,hb1,tA,tB,dA,dB,c0,hset,hwb]
      obtain ⟨f1,f2⟩:=fin false (by rw[c0];rfl)
      exact ⟨_,f1,b + 1,rfl,by omega,rfl,by rw[f2],by first | omega | (dsimp only;omega)⟩
     simp (disch:=omega) only[wp,qa,qb,qc,gl,ml,e1,e2,e3,e7,e8,e9,hg,hm,ha1,hb1,tA,tB,dA,dB,c0,hset,hwb]
     obtain ⟨f1,f2⟩:=fin ((ta == tb) == one) (by rw[c0,hv];rfl)
     exact ⟨_,f1,b + 1,rfl,by omega,rfl,by rw[f2],by first | omega | (dsimp only;omega)⟩
    ·obtain rfl:b = X.evs.length:=by omega
     have hb1:¬ ((X.evs.length:Int) < X.evs.length):=by omega
     simp (disch:=omega) only[wp,qa,qb,qc,gl,ml,e1,e2,e3,e7,e8,e9,hg,hm,hb1,hwa]
     exact ⟨X.evs.length - (a + 1),by omega,a + 1,rfl,by omega,rfl,by rw[stM_row],by first | omega | (dsimp only;omega)⟩
  ·obtain rfl:a = X.evs.length:=by omega
   have ha1:¬ ((X.evs.length:Int) < X.evs.length):=by omega
   simp (disch:=omega) only[wp,qa,qb,qc,gl,ml,e1,e2,e3,e7,e8,hg,hm,ha1,fin0]
   exact ⟨_,rfl,hm⟩
theorem sp_mInner (h74:F 74 = some A_xref09_Inner) (h85:F 85 = some A_xref09_part) (h27:F 27 = some A_xref01_New) {X:Gr} (hn:X.evs.length≤40) (A:Mx):pureS F 74 [.agg (grC X),.ptr (matC X.evs.length A)] = some (.ptr (matC X.evs.length (prtM X true A))):=by
 refine pure_of h74 ?_
 simp (disch:=omega) only[A_xref09_Inner,wp,qa,qb,qc,gl,sp_mpart h85 h27 hn]
theorem sp_mOuter (h75:F 75 = some A_xref09_Outer) (h85:F 85 = some A_xref09_part) (h27:F 27 = some A_xref01_New) {X:Gr} (hn:X.evs.length≤40) (A:Mx):pureS F 75 [.agg (grC X),.ptr (matC X.evs.length A)] = some (.ptr (matC X.evs.length (prtM X false A))):=by
 refine pure_of h75 ?_
 simp (disch:=omega) only[A_xref09_Outer,wp,qa,qb,qc,gl,sp_mpart h85 h27 hn]
end Go.Ab
end
section
set_option linter.unusedVariables false
set_option linter.unusedSimpArgs false
namespace Go.Ab
variable {F:Funs}
theorem GraphOk.nOf {X:Gr} (h:GraphOk X):nOf X = X.evs.length:=by
 have:=h.n40
 unfold Go.Ab.nOf clamp;omega
theorem hb_newM {n:Nat} (hn:n≤40) (L:List (Int × Int)) {a b:Nat} (ha:a < n) (hb':b < n):hb (newR n L) a b = anyM L a b:=by
 rw[hb_new hn,decide_eq_true ha,decide_eq_true hb',Bool.true_and,Bool.true_and];rfl
section
variable {X:Gr} (h:GraphOk X)
include h
theorem GraphOk.rfr (i:Nat) (hi:i < X.evs.length):(0≤X.rf.getD i 0↔(X.evs.getD i ev0).kd = 1)∧X.rf.getD i 0 < X.evs.length:=by
 obtain ⟨h1,h2⟩:=h.rf i hi
 by_cases hk:(X.evs.getD i ev0).kd = 1
 ·obtain ⟨h3,h4,_⟩:=h2 hk
  exact ⟨⟨fun _ => hk,fun _ => h3⟩,h4⟩
 ·have:=h1 hk
  exact ⟨⟨fun h => by omega,fun h => absurd h hk⟩,by omega⟩
theorem GraphOk.cor (j:Nat) (hj:j < X.co.length) (i:Nat) (hi:i < (X.co.getD j []).length):0≤(X.co.getD j []).getD i 0∧(X.co.getD j []).getD i 0 < X.evs.length∧(X.evs.getD ((X.co.getD j []).getD i 0).toNat ev0).kd = 2:=by
 obtain ⟨h1,h2,h3,_⟩:=(h.co j hj).wr i hi
 exact ⟨h1,h2,h3⟩
end
end Go.Ab
end
section
set_option linter.unusedVariables false
set_option linter.unusedSimpArgs false
namespace Go.Ab
variable {F:Funs}
def setL (X:Gr) (p:Ev→Bool) (k:Nat):List (Int × Int):=(List.range k).flatMap fun (i:Nat) => if p (X.evs.getD i ev0) then [((i:Int),(i:Int))] else []
theorem setL_succ (X p k):setL X p (k + 1) = setL X p k ++ (if p (X.evs.getD k ev0) then [((k:Int),(k:Int))] else []):=by simp[setL,List.range_succ]
theorem setL_len (X p k):(setL X p k).length≤k:=by
 induction k with
 | zero => simp[setL]
 | succ k ih => rw[setL_succ,List.length_append];split<;>simp<;>omega
theorem mem_setL {X:Gr} {p:Ev→Bool} {k a b:Nat}:((a:Int),(b:Int))∈setL X p k↔a = b∧a < k∧p (X.evs.getD a ev0) = true:=by
 unfold setL
 simp only[List.mem_flatMap,List.mem_range]
 constructor
 ·rintro ⟨i,hi,h⟩
  by_cases hp:p (X.evs.getD i ev0) = true
  ·rw[if_pos hp,List.mem_singleton,Prod.mk.injEq] at h
   have e1:a = i:=by omega
   have e2:b = i:=by omega
   subst e1 e2
   exact ⟨rfl,hi,hp⟩
  ·rw[if_neg hp] at h;cases h
 ·rintro ⟨rfl,hk,hp⟩
  exact ⟨a,hk,by rw[if_pos hp];exact List.mem_singleton.2 rfl⟩
def setR (X:Gr) (p:Ev→Bool):Rw:=newR (nOf X) (setL X p X.evs.length)
def kindK (X:Gr) (q:Ev→Bool) (k:Nat):Mx:=fun a b => decide (a = b) && (decide (a < k) && q (X.evs.getD a ev0))
theorem kindK_succ (X q k):upd2 (kindK X q k) k k (q (X.evs.getD k ev0)) = kindK X q (k + 1):=by
 funext i j
 unfold upd2 kindK
 by_cases h:i = k∧j = k
 ·obtain ⟨rfl,rfl⟩:=h
  rw[if_pos ⟨rfl,rfl⟩];simp
 ·rw[if_neg h]
  by_cases hij:i = j
  ·have:decide (i < k) = decide (i < k + 1):=by rw[decide_eq_decide];omega
   rw[this]
  ·rw[decide_eq_false hij];rfl
theorem kindK_0 (X q):kindK X q 0 = fun _ _ => false:=by funext i j;simp[kindK]
section
variable {X:Gr} (h:GraphOk X)
include h
theorem EqN.set {p q:Ev→Bool} (hq:∀ i,i < X.evs.length→p (X.evs.getD i ev0) = q (X.evs.getD i ev0)):EqN X.evs.length (kindK X q X.evs.length) (setR X p):=by
 unfold setR
 rw[h.nOf]
 refine ⟨wf_new h.n40 _,fun a b ha hb' => ?_⟩
 rw[hb_newM h.n40 _ ha hb',Bool.eq_iff_iff,anyM_mem,mem_setL]
 unfold kindK
 simp only[Bool.and_eq_true,decide_eq_true_eq,hq a ha]
theorem ev_kinds (i:Nat) (hi:i < X.evs.length):((X.evs.getD i ev0).kd = 1∧((X.evs.getD i ev0).md = 0∨(X.evs.getD i ev0).md = 1))∨((X.evs.getD i ev0).kd = 2∧((X.evs.getD i ev0).md = 0∨(X.evs.getD i ev0).md = 2))∨((X.evs.getD i ev0).kd = 3∧1≤(X.evs.getD i ev0).md∧(X.evs.getD i ev0).md≤4):=by
 obtain ⟨h1,h2⟩:=h.ev i hi
 by_cases hl:(i:Int) < X.locs
 ·obtain ⟨_,h3,h4,_⟩:=h1 hl
  exact .inr (.inl ⟨h3,.inl h4⟩)
 ·obtain ⟨_,_,_,h3⟩:=h2 hl
  rcases h3 with ⟨h4,_,_,h5⟩ | ⟨h4,_,_,h5⟩ | ⟨h4,h5,h6,_⟩
  ·exact .inl ⟨h4,h5⟩
  ·exact .inr (.inl ⟨h4,h5⟩)
  ·exact .inr (.inr ⟨h4,h5,h6⟩)
end
end Go.Ab
end
section
set_option linter.unusedVariables false
set_option linter.unusedSimpArgs false
namespace Go.Ab
variable {F:Funs}
theorem o_boxI {c:CS} {al:Nat→Bool} {lo id:Nat} {e:Env} {g:G} (x):opE c al lo id (.boxI x) e g = vBoxI (x.ev e) g:=rfl
noncomputable def bxiD (x:Bool) (cs:Option (List AV)) (g:G):Option (AV × G):=if x then vMapL .ptr g cs else none
theorem vBoxI_S (v g):vBoxI v g = bxiD ((cellsOf v).all one) (frzL (fun _ => none) depth (cellsOf v)) g:=rfl
theorem bxiD_ok (cs g):bxiD true cs g = vMapL .ptr g cs:=rfl
theorem frzL_gr (hp) (X:Gr):frzL hp depth (grC X) = some (grC X):=by
 show frzL hp (8 + 1) _ = _
 simp only[grC,frzL,frz]
theorem sp_setE (h166:F 166 = some A_graph_Set) (h81:F 81 = some A_graph_Of) (pr:Pk_rel F) {X:Gr} (hX:X.evs.length≤1000) {fid:Nat} {caps:List AV} {p:Ev→Bool} (hp:∀ e,pureS F fid (.agg (evC e) :: caps) = some (.b (p e)))
  (hc:∀ hp,frzL hp depth caps = some caps) (hv:∀ hp,caps.flatMap (vis hp depth) = []):pureS F 166 [.agg (grC X),.fn fid [] caps] = some (.ptr (relC (nOf X) (setR X p))):=by
 refine pure_of h166 ?_
 simp (disch:=omega) only[A_graph_Set,wp,qa,qb,qc,gl]
 refine W_loop (fun q e g => ∃ k t,q = X.evs.length - k∧k≤X.evs.length∧e 2 = .mp 0 0∧e 5 = .sl (pairsC (setL X p k)) (setL X p k).length t∧e 6 = .mp 5 0∧e 12 = .sl (evsC X.evs) X.evs.length .non∧e 13 = .i .i64 X.evs.length∧e 14 = .i .i64 k∧Live g 2 t∧g.hp 0 = some (.cells (grC X) false)∧g.hp 5 = some (.cells [.fn fid [] caps] false)∧5 < g.nx) X.evs.length ?_ ?_
 ·refine ⟨0,.rig,rfl,Nat.zero_le _,?_⟩
  simp (disch:=omega) only[wp,qa,qb,qc]
  exact ⟨by rfl,rfl,.inl rfl,by first | omega | (dsimp only;omega)⟩
 ·rintro q e g ⟨k,t,rfl,hk,e2,e5,e6,e12,e13,e14,L,hg,hf,hnx⟩
  by_cases hk':k < X.evs.length
  ·have hk1:(k:Int) < X.evs.length:=by omega
   have hwk:=succ_wrap (k:=k) (by omega)
   have hev:=ev_part hk'
   have hs:=setL_succ X p k
   have hl:=setL_len X p k
   generalize X.evs.getD k ev0 = ev at hev hs
   have hpe:=hp ev
   generalize setL X p k = B at e5 hs hl
   cases hb:p ev with
   | true =>
     rw[hb] at hpe
     rw[hb,if_pos rfl] at hs
     rcases L with rfl | ⟨τ,rfl,hτ,hlt⟩
     ·simp (disch:=omega) only[wp,qa,qb,qc,gl,e2,e5,e6,e12,e13,e14,hg,hf,hk1,hev,hc,hv,hpe,pairsC_len,hwk]
      refine ⟨X.evs.length - (k + 1),by omega,k + 1,?_⟩
      rw[hs,pairsC_app,pairsC_one,List.length_append]
      exact ⟨_,rfl,by omega,rfl,rfl,.inr ⟨_,rfl,upd_same _ _ _,by first | omega | (dsimp only;omega)⟩,by first | omega | (dsimp only;omega)⟩
     ·have n0:τ≠0:=fun h => by rw[h,hg] at hτ;cases hτ
      have n5:τ≠5:=fun h => by rw[h,hf] at hτ;cases hτ
      simp (disch:=omega) only[wp,qa,qb,qc,gl,e2,e5,e6,e12,e13,e14,hg,hf,hk1,hev,hc,hv,hpe,pairsC_len,hwk,hτ]
      refine ⟨X.evs.length - (k + 1),by omega,k + 1,?_⟩
      rw[hs,pairsC_app,pairsC_one,List.length_append]
      exact ⟨_,rfl,by omega,rfl,rfl,.inr ⟨_,rfl,upd_same _ _ _,by first | omega | (dsimp only;omega)⟩,by first | omega | (dsimp only;omega)⟩
   | false =>
     rw[hb] at hpe
     rw[hb,if_neg (by simp),List.append_nil] at hs
     simp (disch:=omega) only[wp,qa,qb,qc,gl,e2,e5,e6,e12,e13,e14,hg,hf,hk1,hev,hc,hv,hpe,hwk]
     refine ⟨X.evs.length - (k + 1),by omega,k + 1,t,rfl,by omega,by rw[hs],rfl,?_,by first | omega | (dsimp only;omega)⟩
     rcases L with rfl | ⟨τ,rfl,hτ,hlt⟩
     ·exact .inl rfl
     ·exact .inr ⟨τ,rfl,by simp (disch:=omega) only[upd_ne];exact hτ,by first | omega | (dsimp only;omega)⟩
  ·obtain rfl:k = X.evs.length:=by omega
   have hk1:¬ ((X.evs.length:Int) < X.evs.length):=by omega
   have hl:=setL_len X p X.evs.length
   have hof:=sp_of h81 pr X (setL X p X.evs.length) .non (by omega)
   simp (disch:=omega) only[wp,qa,qb,qc,gl,e2,e5,e6,e12,e13,e14,hg,hf,hk1,hof]
   rfl
def setP (k:Int) (ms:List Int) (e:Ev):Bool:=e.kd == k && (decide (ms = []) || ms.any fun m => e.md == m)
theorem sp_set1 (h229:F 229 = some A_sync_set_1) (k:Int) (ms:List Int) (hm:ms.length≤1000) (ev:Ev):pureS F 229 [.agg (evC ev),.ptr [.sl (intsC ms) ms.length .non],.ptr [.i .i64 k]] = some (.b (setP k ms ev)):=by
 refine pure_of h229 ?_
 have h0:((ms.length:Int) == 0) = decide (ms = []):=by
  cases ms with
  | nil => rfl
  | cons a l => simp;omega
 simp (disch:=omega) only[A_sync_set_1,wp,qa,qb,qc,gl,h0]
 refine W_loop (fun q e g => ∃ j,q = ms.length - j∧j≤ms.length∧e 2 = .ptr [.i .i64 k]∧e 3 = .mp 0 0∧e 5 = .b (decide (ms = []) || (ms.take j).any fun m => ev.md == m)∧e 11 = .sl (intsC ms) ms.length .non∧e 12 = .i .i64 ms.length∧e 13 = .i .i64 j∧g.hp 0 = some (.cells (evC ev) false)∧0 < g.nx) ms.length ?_ ?_
 ·refine ⟨0,rfl,Nat.zero_le _,?_⟩
  simp (disch:=omega) only[wp,qa,qb,qc]
  exact ⟨by simp,rfl,by first | omega | (dsimp only;omega)⟩
 ·rintro q e g ⟨j,rfl,hj,e2,e3,e5,e11,e12,e13,hg,hnx⟩
  by_cases hj':j < ms.length
  ·have hj1:(j:Int) < ms.length:=by omega
   have hwj:=succ_wrap (k:=j) (by omega)
   have hip:=ints_part hj'
   have hs:(ms.take (j + 1)).any (fun m => ev.md == m) = ((ms.take j).any (fun m => ev.md == m) || ev.md == ms.getD j 0):=by
    rw[List.take_add_one,List.getElem?_eq_getElem hj',List.any_append,List.getD_eq_getElem?_getD,List.getElem?_eq_getElem hj']
    simp
   generalize ms.getD j 0 = m at hip hs
   cases hb:(decide (ms = []) || (ms.take j).any fun m => ev.md == m) with
   | true =>
     rw[hb] at e5
     simp (disch:=omega) only[wp,qa,qb,qc,gl,e2,e3,e5,e11,e12,e13,hg,hj1,hip,hwj]
     exact ⟨ms.length - (j + 1),by omega,j + 1,rfl,by omega,by rw[hs,←Bool.or_assoc,hb];rfl,rfl,by first | omega | (dsimp only;omega)⟩
   | false =>
     rw[hb] at e5
     simp (disch:=omega) only[wp,qa,qb,qc,gl,e2,e3,e5,e11,e12,e13,hg,hj1,hip,hwj]
     exact ⟨ms.length - (j + 1),by omega,j + 1,rfl,by omega,by rw[hs,←Bool.or_assoc,hb];rfl,rfl,by first | omega | (dsimp only;omega)⟩
  ·obtain rfl:j = ms.length:=by omega
   have hj1:¬ ((ms.length:Int) < ms.length):=by omega
   rw[List.take_length] at e5
   unfold setP
   cases hk:(ev.kd == k) with
   | true => simp (disch:=omega) only[wp,qa,qb,qc,gl,e2,e3,e5,e11,e12,e13,hg,hj1,hk]
   | false => simp (disch:=omega) only[wp,qa,qb,qc,gl,e2,e3,e5,e11,e12,e13,hg,hj1,hk]
theorem sp_setS (h178:F 178 = some A_sync_set) (h229:F 229 = some A_sync_set_1) (h166:F 166 = some A_graph_Set) (h81:F 81 = some A_graph_Of) (pr:Pk_rel F) {X:Gr} (hX:X.evs.length≤1000) (k:Int) (ms:List Int) (hm:ms.length≤1000) (t:Tok):pureS F 178 [.agg (grC X),.i .i64 k,.sl (intsC ms) ms.length t] = some (.ptr (relC (nOf X) (setR X (setP k ms)))):=by
 refine pure_of h178 ?_
 have hc:∀ hp,frzL hp depth [.ptr [.sl (intsC ms) ms.length .non],.ptr [.i .i64 k]] = some [.ptr [.sl (intsC ms) ms.length .non],.ptr [.i .i64 k]]:=fun hp => by simp only[frzL_cons,frzL_nil,frz_d_ptr,consO_ok]
 have hv:∀ hp,[AV.ptr [.sl (intsC ms) ms.length .non],.ptr [.i .i64 k]].flatMap (vis hp depth) = []:=fun hp => by simp only[List.flatMap_cons,List.flatMap_nil,vis_ptr,List.append_nil]
 have hset:=sp_setE h166 h81 pr hX (fid:=229) (p:=setP k ms) (fun e => sp_set1 h229 k ms hm e) hc hv
 have hfn:∀ hp,frz hp depth (.fn 229 [] [.ptr [.sl (intsC ms) ms.length .non],.ptr [.i .i64 k]]) = some (.fn 229 [] [.ptr [.sl (intsC ms) ms.length .non],.ptr [.i .i64 k]]):=fun hp => by
  show frz hp (8 + 1) _ = _
  simp only[frz,frzL]
 have hvn:∀ hp,vis hp depth (.fn 229 [] [.ptr [.sl (intsC ms) ms.length .non],.ptr [.i .i64 k]]) = []:=fun hp => by
  show vis hp (8 + 1) _ = _
  simp only[vis,List.flatMap_cons,List.flatMap_nil,List.append_nil]
 simp (disch:=omega) only[A_sync_set,wp,qa,qb,qc,gl,o_boxI,vBoxI_S,bxiD_ok,frzL_gr,vMapL_some,hfn,hvn,hset]
def relsC (n:Nat) (l:List Rw):List AV:=l.map fun R => .ptr (relC n R)
def thenL (n:Nat) (R:Rw) (l:List Rw):Rw:=l.foldl (fun R S => thenR n R S) R
theorem rels_part {n:Nat} {l:List Rw} {k:Nat} (h:k < l.length):part ((relsC n l).drop (k * 1)) 0 none = some (.ptr (relC n (l.getD k fun _ => 0))):=by
 simp only[part,relsC,List.getElem?_drop,Nat.mul_one,Nat.add_zero,List.getElem?_map,List.getElem?_eq_getElem h,Option.map_some,List.getD_eq_getElem?_getD,Option.getD_some]
theorem sp_thenS (h177:F 177 = some A_sync_then) (pr:Pk_rel F) {n:Nat} (hn:n≤40) (R:Rw) (l:List Rw) (hl:l.length≤1000) (t:Tok):pureS F 177 [.ptr (relC n R),.sl (relsC n l) l.length t] = some (.ptr (relC n (thenL n R l))):=by
 refine pure_of h177 ?_
 simp (disch:=omega) only[A_sync_then,wp,qa,qb,qc,gl]
 refine W_loop (fun q e g => ∃ k,q = l.length - k∧k≤l.length∧e 0 = .ptr (relC n (thenL n R (l.take k)))∧e 7 = .sl (relsC n l) l.length t∧e 8 = .i .i64 l.length∧e 9 = .i .i64 k) l.length ?_ ?_
 ·refine ⟨0,rfl,Nat.zero_le _,?_⟩
  simp (disch:=omega) only[wp,qa,qb,qc]
  exact ⟨by rfl,rfl⟩
 ·rintro q e g ⟨k,rfl,hk,e0,e7,e8,e9⟩
  by_cases hk':k < l.length
  ·have hk1:(k:Int) < l.length:=by omega
   have hwk:=succ_wrap (k:=k) (by omega)
   have hp:=rels_part (n:=n) hk'
   have hs:thenL n R (l.take (k + 1)) = thenR n (thenL n R (l.take k)) (l.getD k fun _ => 0):=by
    unfold thenL
    rw[List.take_add_one,List.foldl_append,List.getElem?_eq_getElem hk',List.getD_eq_getElem?_getD,List.getElem?_eq_getElem hk']
    rfl
   generalize thenL n R (l.take k) = A at e0 hs
   generalize (l.getD k fun _ => 0) = B at hp hs
   simp (disch:=omega) only[wp,qa,qb,qc,gl,e0,e7,e8,e9,hk1,hp,sp_then pr hn hn,Nat.max_self,hwk]
   exact ⟨l.length - (k + 1),by omega,k + 1,rfl,by omega,by rw[hs],rfl⟩
  ·obtain rfl:k = l.length:=by omega
   have hk1:¬ ((l.length:Int) < l.length):=by omega
   rw[List.take_length] at e0
   simp (disch:=omega) only[wp,qa,qb,qc,gl,e0,e7,e8,e9,hk1]
end Go.Ab
end
section
set_option linter.unusedVariables false
set_option linter.unusedSimpArgs false
namespace Go.Ab
variable {F:Funs}
theorem sp_then1 (h177:F 177 = some A_sync_then) (pr:Pk_rel F) {n:Nat} (hn:n≤40) (R S:Rw):pureS F 177 [.ptr (relC n R),.sl [.ptr (relC n S)] 1 .non] = some (.ptr (relC n (thenR n R S))):=sp_thenS h177 pr hn R [S] (by simp) .non
theorem sp_then2 (h177:F 177 = some A_sync_then) (pr:Pk_rel F) {n:Nat} (hn:n≤40) (R S T:Rw):pureS F 177 [.ptr (relC n R),.sl [.ptr (relC n S),.ptr (relC n T)] 2 .non] = some (.ptr (relC n (thenR n (thenR n R S) T))):=sp_thenS h177 pr hn R [S,T] (by simp) .non
section
variable (X:Gr)
def locR:Rw:=partR locP X (nOf X) (poR X)
def rfR:Rw:=relE rfS X
def RsP:Rw:=orR (thenR (nOf X) (thenR (nOf X) (setR X (setP 2 [])) (locR X)) (setR X (setP 2 []))) (thenR (nOf X) (setR X (setP 2 [])) (maybeK (nOf X) (plusR (nOf X) (thenR (nOf X) (thenR (nOf X) (maybeK (nOf X) (locR X)) (rfR X)) (newR (nOf X) X.rmw)))))
def ReleaseP:Rw:=thenR (nOf X) (orR (setR X (setP 2 [2])) (thenR (nOf X) (setR X (setP 3 [2,3,4])) (poR X))) (RsP X)
def SwP:Rw:=thenR (nOf X) (thenR (nOf X) (ReleaseP X) (orR (partR inner X (nOf X) (rfR X)) (thenR (nOf X) (maybeK (nOf X) (locR X)) (partR outer X (nOf X) (rfR X))))) (orR (setR X (setP 1 [1])) (thenR (nOf X) (poR X) (setR X (setP 3 [1,3,4]))))
def HbP:Rw:=plusR (nOf X) (orR (poR X) (SwP X))
end
structure SyncF (F:Funs):Prop where
 ps:Pk_sync F
 pe:Pk_eco F
 pr:Pk_rel F
 po:F 60 = some A_graph_Po
 gof:F 81 = some A_graph_Of
 set:F 166 = some A_graph_Set
section
variable (S:SyncF F) {X:Gr} (hX:Few X)
include S hX
theorem sp_setX (k:Int) (ms:List Int) (hm:ms.length≤1000) (t:Tok):pureS F 178 [.agg (grC X),.i .i64 k,.sl (intsC ms) ms.length t] = some (.ptr (relC (nOf X) (setR X (setP k ms)))):=
 sp_setS S.ps.sync_set S.ps.sync_set_1 S.set S.gof S.pr (by have:=hX.1;omega) k ms hm t
theorem sp_set0 (k:Int):pureS F 178 [.agg (grC X),.i .i64 k,.sl [] 0 .non] = some (.ptr (relC (nOf X) (setR X (setP k [])))):=sp_setX S hX k [] (by simp) .non
theorem sp_setA (k a:Int):pureS F 178 [.agg (grC X),.i .i64 k,.sl [.i .i64 a] 1 .non] = some (.ptr (relC (nOf X) (setR X (setP k [a])))):=sp_setX S hX k [a] (by simp) .non
theorem sp_setB (k a b c:Int):pureS F 178 [.agg (grC X),.i .i64 k,.sl [.i .i64 a,.i .i64 b,.i .i64 c] 3 .non] = some (.ptr (relC (nOf X) (setR X (setP k [a,b,c])))):=sp_setX S hX k [a,b,c] (by simp) .non
theorem sp_locX:pureS F 41 [.agg (grC X)] = some (.ptr (relC (nOf X) (locR X))):=sp_Loc S.pe S.po S.gof S.pr (by have:=hX.1;omega)
theorem sp_poX:pureS F 60 [.agg (grC X)] = some (.ptr (relC (nOf X) (poR X))):=sp_Po S.po S.gof S.pr (by have:=hX.1;omega)
theorem sp_rfX:pureS F 48 [.agg (grC X)] = some (.ptr (relC (nOf X) (rfR X))):=sp_Rf S.pe S.gof S.pr hX
omit hX in
theorem sp_ofX (l:List (Int × Int)) (hl:l.length≤1000) (t:Tok):pureS F 81 [.agg (grC X),.sl (pairsC l) l.length t] = some (.ptr (relC (nOf X) (newR (nOf X) l))):=sp_of S.gof S.pr X l t (by omega)
theorem sp_Rs (hr:X.rmw.length≤1000):pureS F 179 [.agg (grC X)] = some (.ptr (relC (nOf X) (RsP X))):=by
 refine pure_of S.ps.sync_Rs ?_
 have hn:=nOf_le X
 simp (disch:=omega) only[A_sync_Rs,wp,qa,qb,qc,gl,sp_set0 S hX,sp_locX S hX,sp_rfX S hX,sp_ofX S,sp_maybe S.pr hn,sp_then2 S.ps.sync_then S.pr hn,sp_then1 S.ps.sync_then S.pr hn,sp_plus S.pr hn,sp_or S.pr hn hn,Nat.max_self]
 rfl
theorem sp_Release (hr:X.rmw.length≤1000):pureS F 149 [.agg (grC X)] = some (.ptr (relC (nOf X) (ReleaseP X))):=by
 refine pure_of S.ps.sync_Release ?_
 have hn:=nOf_le X
 simp (disch:=omega) only[A_sync_Release,wp,qa,qb,qc,gl,sp_setA S hX,sp_setB S hX,sp_poX S hX,sp_Rs S hX hr,sp_then2 S.ps.sync_then S.pr hn,sp_then1 S.ps.sync_then S.pr hn,sp_or S.pr hn hn,Nat.max_self]
 rfl
theorem sp_Sw (hr:X.rmw.length≤1000):pureS F 176 [.agg (grC X)] = some (.ptr (relC (nOf X) (SwP X))):=by
 refine pure_of S.ps.sync_Sw ?_
 have hn:=nOf_le X
 simp (disch:=omega) only[A_sync_Sw,wp,qa,qb,qc,gl,sp_setA S hX,sp_setB S hX,sp_poX S hX,sp_locX S hX,sp_rfX S hX,sp_Inner S.pe S.gof S.pr hn,sp_Outer S.pe S.gof S.pr hn,sp_Release S hX hr,sp_maybe S.pr hn,sp_then2 S.ps.sync_then S.pr hn,sp_then1 S.ps.sync_then S.pr hn,sp_or S.pr hn hn,Nat.max_self]
 rfl
theorem sp_Hb (hr:X.rmw.length≤1000):pureS F 148 [.agg (grC X)] = some (.ptr (relC (nOf X) (HbP X))):=by
 refine pure_of S.ps.sync_Hb ?_
 have hn:=nOf_le X
 simp (disch:=omega) only[A_sync_Hb,wp,qa,qb,qc,gl,sp_poX S hX,sp_Sw S hX hr,sp_or S.pr hn hn,sp_plus S.pr hn,Nat.max_self]
 rfl
end
end Go.Ab
end
section
set_option linter.unusedVariables false
set_option linter.unusedSimpArgs false
namespace Go.Ab
structure Q4 where
 ii:Rw
 ic:Rw
 ci:Rw
 cc:Rw
inductive Pp (q:Q4):Nat→Nat→Nat→Prop
 | b0 {a b}:hb q.ii a b = true→Pp q 0 a b
 | b1 {a b}:hb q.ic a b = true→Pp q 1 a b
 | b2 {a b}:hb q.ci a b = true→Pp q 2 a b
 | b3 {a b}:hb q.cc a b = true→Pp q 3 a b
 | r1 {a b}:Pp q 2 a b→Pp q 0 a b
 | r2 {a c b}:Pp q 1 a c→Pp q 2 c b→Pp q 0 a b
 | r3 {a c b}:Pp q 0 a c→Pp q 0 c b→Pp q 0 a b
 | r4 {a b}:Pp q 0 a b→Pp q 1 a b
 | r5 {a b}:Pp q 3 a b→Pp q 1 a b
 | r6 {a c b}:Pp q 1 a c→Pp q 3 c b→Pp q 1 a b
 | r7 {a c b}:Pp q 0 a c→Pp q 1 c b→Pp q 1 a b
 | r8 {a c b}:Pp q 2 a c→Pp q 0 c b→Pp q 2 a b
 | r9 {a c b}:Pp q 3 a c→Pp q 2 c b→Pp q 2 a b
 | r10 {a b}:Pp q 2 a b→Pp q 3 a b
 | r11 {a c b}:Pp q 2 a c→Pp q 1 c b→Pp q 3 a b
 | r12 {a c b}:Pp q 3 a c→Pp q 3 c b→Pp q 3 a b
structure WfQ (n:Nat) (q:Q4):Prop where
 ii:Wf n q.ii
 ic:Wf n q.ic
 ci:Wf n q.ci
 cc:Wf n q.cc
structure LeQ (q p:Q4):Prop where
 ii:∀ a b,hb q.ii a b = true→hb p.ii a b = true
 ic:∀ a b,hb q.ic a b = true→hb p.ic a b = true
 ci:∀ a b,hb q.ci a b = true→hb p.ci a b = true
 cc:∀ a b,hb q.cc a b = true→hb p.cc a b = true
theorem LeQ.refl (q:Q4):LeQ q q:=⟨fun _ _ h => h,fun _ _ h => h,fun _ _ h => h,fun _ _ h => h⟩
theorem LeQ.trans {p q r:Q4} (h:LeQ p q) (k:LeQ q r):LeQ p r:=⟨fun a b x => k.ii a b (h.ii a b x),fun a b x => k.ic a b (h.ic a b x),fun a b x => k.ci a b (h.ci a b x),fun a b x => k.cc a b (h.cc a b x)⟩
structure InP (q0 q:Q4):Prop where
 ii:∀ a b,hb q.ii a b = true→Pp q0 0 a b
 ic:∀ a b,hb q.ic a b = true→Pp q0 1 a b
 ci:∀ a b,hb q.ci a b = true→Pp q0 2 a b
 cc:∀ a b,hb q.cc a b = true→Pp q0 3 a b
theorem InP.base (q:Q4):InP q q:=⟨fun _ _ h => .b0 h,fun _ _ h => .b1 h,fun _ _ h => .b2 h,fun _ _ h => .b3 h⟩
section
variable {n:Nat} {q:Q4} (w:WfQ n q)
include w
end
end Go.Ab
end
section
namespace Go.Ab
def A_ppo_Ppo:AFun:={ res:=[.t 2],body:=(.seq (.reg false [qo 1 (.box (.t 0)),qo 2 (.mv (.c (.nilp)))])
 (.seq (.reg false [qo 10 (.ld (some 8) (.t 1)),qo 11 (.call .pure (.c (.fn 165 [] [])) [.t 10]),qm 9 11,qo 12 (.ext 0 (.t 9)),qo 13 (.ext 1 (.t 9)),qo 14 (.ext 2 (.t 9)),qo 15 (.ext 3 (.t 9)),qm 3 12,qm 4 13,qm 5 14,qm 6 15])
 (.seq (.reg true [qo 16 (.ld (some 8) (.t 1)),qo 17 (.call .pure (.c (.fn 166 [] [])) [.t 16,.c (.fn 167 [] [])]),qo 18 (.ld (some 8) (.t 1)),qo 19 (.call .pure (.c (.fn 166 [] [])) [.t 18,.c (.fn 168 [] [])]),qm 7 17,qm 8 19])
 (.seq (.reg false [qm 20 7,qm 21 3,qo 22 (.call .pure (.c (.fn 23 [] [])) [.t 20,.t 21]),qm 23 7,qo 24 (.call .pure (.c (.fn 23 [] [])) [.t 22,.t 23]),qm 25 7,qm 26 4,qo 27 (.call .pure (.c (.fn 23 [] [])) [.t 25,.t 26]),qm 28 8,qo 29 (.call .pure (.c (.fn 23 [] [])) [.t 27,.t 28]),qo 30 (.call .pure (.c (.fn 24 [] [])) [.t 24,.t 29]),qm 2 30])
 .ret)))) }
def A_ppo_Rdw:AFun:={ res:=[.t 2],body:=(.seq (.reg false [qo 1 (.box (.t 0)),qo 2 (.mv (.c (.nilp)))])
 (.seq (.reg true [qo 3 (.ld (some 8) (.t 1)),qo 4 (.ld (some 8) (.t 1)),qo 5 (.call .pure (.c (.fn 50 [] [])) [.t 4]),qo 6 (.call .pure (.c (.fn 170 [] [])) [.t 3,.t 5]),qm 2 6])
 .ret)) }
def A_ppo_Detour:AFun:={ res:=[.t 2],body:=(.seq (.reg false [qo 1 (.box (.t 0)),qo 2 (.mv (.c (.nilp)))])
 (.seq (.reg true [qo 3 (.ld (some 8) (.t 1)),qo 4 (.ld (some 8) (.t 1)),qo 5 (.call .pure (.c (.fn 49 [] [])) [.t 4]),qo 6 (.call .pure (.c (.fn 170 [] [])) [.t 3,.t 5]),qm 2 6])
 .ret)) }
def A_ppo_Parts:AFun:={ res:=[.t 2,.t 3,.t 4,.t 5],body:=(.seq (.reg false [qo 1 (.box (.t 0)),qo 2 (.mv (.c (.nilp))),qo 3 (.mv (.c (.nilp))),qo 4 (.mv (.c (.nilp))),qo 5 (.mv (.c (.nilp)))])
 (.scp (.seq (.reg false [qo 14 (.ld (some 8) (.t 1)),qo 15 (.call .pure (.c (.fn 166 [] [])) [.t 14,.c (.fn 219 [] [])]),qm 6 15])
 (.seq (.reg true [qo 16 (.ld (some 8) (.t 1)),qo 17 (.fa 5 (.t 1)),qo 18 (.ld none (.t 17)),qo 19 (.call .pure (.c (.fn 81 [] [])) [.t 16,.t 18]),qo 20 (.ld (some 8) (.t 1)),qo 21 (.fa 6 (.t 1)),qo 22 (.ld none (.t 21)),qo 23 (.call .pure (.c (.fn 81 [] [])) [.t 20,.t 22]),qm 24 6,qo 25 (.call .pure (.c (.fn 23 [] [])) [.t 23,.t 24]),qo 26 (.ld (some 8) (.t 1)),qo 27 (.fa 7 (.t 1)),qo 28 (.ld none (.t 27)),qo 29 (.call .pure (.c (.fn 81 [] [])) [.t 26,.t 28]),qm 30 6,qo 31 (.call .pure (.c (.fn 23 [] [])) [.t 29,.t 30]),qm 7 19,qm 8 25,qm 9 31])
 (.seq (.reg true [qm 32 7,qo 33 (.ld (some 8) (.t 1)),qo 34 (.call .pure (.c (.fn 145 [] [])) [.t 33]),qo 35 (.ld (some 8) (.t 1)),qo 36 (.ld (some 8) (.t 1)),qo 37 (.call .pure (.c (.fn 48 [] [])) [.t 36]),qo 38 (.call .pure (.c (.fn 39 [] [])) [.t 35,.t 37]),qo 39 (.bsl true 2 ([.nilp,.nilp]) [(0,1,.t 34),(1,1,.t 38)]),qo 40 (.call .pure (.c (.fn 220 [] [])) [.t 32,.t 39]),qm 2 40])
 (.seq (.reg false [qo 41 (.fa 1 (.t 1)),qo 42 (.ld none (.t 41)),qo 43 (.len (.t 42)),qo 44 (.call .pure (.c (.fn 11 [] [])) [.t 43,.c (.sl [] 0 .rig)]),qm 3 44])
 (.seq (.reg false [qm 45 9,qo 46 (.ld (some 8) (.t 1)),qo 47 (.call .pure (.c (.fn 146 [] [])) [.t 46]),qo 48 (.bsl true 1 ([.nilp]) [(0,1,.t 47)]),qo 49 (.call .pure (.c (.fn 220 [] [])) [.t 45,.t 48]),qm 4 49])
 (.seq (.reg false [qm 50 7,qo 51 (.ld (some 8) (.t 1)),qo 52 (.call .pure (.c (.fn 221 [] [])) [.t 51]),qm 53 8,qo 54 (.bsl true 2 ([.nilp,.nilp]) [(0,1,.t 52),(1,1,.t 53)]),qo 55 (.call .pure (.c (.fn 220 [] [])) [.t 50,.t 54]),qm 5 55])
 (.seq .lab
 (.seq (.blk 0 (.loop (.blk 1 (.seq (.reg false [qm 56 2,qm 57 4,qm 58 3,qm 59 4,qo 60 (.call .pure (.c (.fn 23 [] [])) [.t 58,.t 59]),qm 61 2,qm 62 2,qo 63 (.call .pure (.c (.fn 23 [] [])) [.t 61,.t 62]),qo 64 (.bsl true 3 ([.nilp,.nilp,.nilp]) [(0,1,.t 57),(1,1,.t 60),(2,1,.t 63)]),qo 65 (.call .pure (.c (.fn 220 [] [])) [.t 56,.t 64]),qm 10 65])
 (.seq (.reg false [qm 66 3,qm 67 2,qm 68 5,qm 69 3,qm 70 5,qo 71 (.call .pure (.c (.fn 23 [] [])) [.t 69,.t 70]),qm 72 2,qm 73 3,qo 74 (.call .pure (.c (.fn 23 [] [])) [.t 72,.t 73]),qo 75 (.bsl true 4 (List.replicate 4 (.nilp)) [(0,1,.t 67),(1,1,.t 68),(2,1,.t 71),(3,1,.t 74)]),qo 76 (.call .pure (.c (.fn 220 [] [])) [.t 66,.t 75]),qm 11 76])
 (.seq (.reg false [qm 77 4,qm 78 4,qm 79 2,qo 80 (.call .pure (.c (.fn 23 [] [])) [.t 78,.t 79]),qm 81 5,qm 82 4,qo 83 (.call .pure (.c (.fn 23 [] [])) [.t 81,.t 82]),qo 84 (.bsl true 2 ([.nilp,.nilp]) [(0,1,.t 80),(1,1,.t 83)]),qo 85 (.call .pure (.c (.fn 220 [] [])) [.t 77,.t 84]),qm 12 85])
 (.seq (.reg false [qm 86 5,qm 87 4,qm 88 4,qm 89 3,qo 90 (.call .pure (.c (.fn 23 [] [])) [.t 88,.t 89]),qm 91 5,qm 92 5,qo 93 (.call .pure (.c (.fn 23 [] [])) [.t 91,.t 92]),qo 94 (.bsl true 3 ([.nilp,.nilp,.nilp]) [(0,1,.t 87),(1,1,.t 90),(2,1,.t 93)]),qo 95 (.call .pure (.c (.fn 220 [] [])) [.t 86,.t 94]),qm 13 95])
 (.seq (.seq (.reg false [qm 96 10,qm 97 2,qo 98 (.call .pure (.c (.fn 22 [] [])) [.t 96,.t 97]),qm 99 98,qg 100 (.mv (.t 11)) 99 true,qg 101 (.mv (.t 3)) 99 true,qg 102 (.call .pure (.c (.fn 22 [] [])) [.t 100,.t 101]) 99 true,qo 103 (.pick (.t 99) (.t 102) (.c (.b false))),qm 104 103,qg 105 (.mv (.t 12)) 104 true,qg 106 (.mv (.t 4)) 104 true,qg 107 (.call .pure (.c (.fn 22 [] [])) [.t 105,.t 106]) 104 true,qo 108 (.pick (.t 104) (.t 107) (.c (.b false))),qm 109 108,qg 110 (.mv (.t 13)) 109 true,qg 111 (.mv (.t 5)) 109 true,qg 112 (.call .pure (.c (.fn 22 [] [])) [.t 110,.t 111]) 109 true,qo 113 (.pick (.t 109) (.t 112) (.c (.b false)))])
 (.cond (.t 113) (.ext 0)
 .skip))
 (.reg false [qm 114 10,qm 115 11,qm 116 12,qm 117 13,qm 2 114,qm 3 115,qm 4 116,qm 5 117])))))))))
 (.seq (.reg false [qm 118 2,qm 119 3,qm 120 4,qm 121 5,qm 2 118,qm 3 119,qm 4 120,qm 5 121])
 .ret))))))))))) }
def A_ppo_isR:AFun:={ res:=[.t 2],body:=(.seq (.reg false [qo 1 (.box (.t 0)),qo 2 (.mv (.c (.b false)))])
 (.seq (.reg false [qo 3 (.fa 1 (.t 1)),qo 4 (.ld none (.t 3)),qo 5 (.bin .eql (.t 4) (.c (.i .i64 1))),qm 2 5])
 .ret)) }
def A_ppo_isW:AFun:={ res:=[.t 2],body:=(.seq (.reg false [qo 1 (.box (.t 0)),qo 2 (.mv (.c (.b false)))])
 (.seq (.reg false [qo 3 (.fa 1 (.t 1)),qo 4 (.ld none (.t 3)),qo 5 (.bin .eql (.t 4) (.c (.i .i64 2))),qm 2 5])
 .ret)) }
def A_ppo_by:AFun:={ res:=[.t 4],body:=(.seq (.reg false [qo 2 (.box (.t 0)),qo 4 (.mv (.c (.nilp)))])
 (.seq (.reg true [qo 5 (.ld (some 8) (.t 2)),qo 6 (.call .pure (.c (.fn 221 [] [])) [.t 5]),qo 7 (.ld (some 8) (.t 2)),qm 8 1,qo 9 (.call .pure (.c (.fn 40 [] [])) [.t 7,.t 8]),qo 10 (.ld (some 8) (.t 2)),qo 11 (.ld (some 8) (.t 2)),qo 12 (.call .pure (.c (.fn 48 [] [])) [.t 11]),qo 13 (.call .pure (.c (.fn 40 [] [])) [.t 10,.t 12]),qo 14 (.call .pure (.c (.fn 23 [] [])) [.t 9,.t 13]),qo 15 (.call .pure (.c (.fn 18 [] [])) [.t 6,.t 14]),qm 4 15])
 .ret)) }
def A_ppo_isM:AFun:={ res:=[.t 2],body:=(.seq (.reg false [qo 1 (.box (.t 0)),qo 2 (.mv (.c (.b false)))])
 (.seq (.reg false [qo 3 (.fa 1 (.t 1)),qo 4 (.ld none (.t 3)),qo 5 (.bin .eql (.t 4) (.c (.i .i64 1))),qm 6 5,qg 7 (.fa 1 (.t 1)) 6 false,qg 8 (.ld none (.t 7)) 6 false,qg 9 (.bin .eql (.t 8) (.c (.i .i64 2))) 6 false,qo 10 (.pick (.t 6) (.c (.b true)) (.t 9)),qm 2 10])
 .ret)) }
def A_ppo_or:AFun:={ res:=[.t 4],body:=(.seq (.reg false [qo 4 (.mv (.c (.nilp)))])
 (.seq (.seq (.reg false [qm 7 1,qo 8 (.len (.t 7)),qo 9 (.mv (.c (.i .i64 0)))])
 (.blk 0 (.loop (.seq (.reg false [qo 10 (.bin .lss (.t 9) (.t 8))])
 (.seq (.cond (.t 10) .skip
 (.ext 0))
 (.seq (.blk 1 (.seq (.reg false [qo 11 (.ia 1 (.t 7) (.t 9)),qo 12 (.ld none (.t 11)),qm 6 12])
 (.reg false [qm 13 0,qm 14 6,qo 15 (.call .pure (.c (.fn 24 [] [])) [.t 13,.t 14]),qm 0 15])))
 (.reg false [qo 16 (.bin .add (.t 9) (.c (.i .i64 1))),qm 9 16])))))))
 (.seq (.reg false [qm 17 0,qm 4 17])
 .ret))) }
def A_ppo_ploc:AFun:={ res:=[.t 2],body:=(.seq (.reg false [qo 1 (.box (.t 0)),qo 2 (.mv (.c (.nilp)))])
 (.seq (.reg false [qo 4 (.ld (some 8) (.t 1)),qo 5 (.call .pure (.c (.fn 166 [] [])) [.t 4,.c (.fn 246 [] [])]),qm 3 5])
 (.seq (.reg true [qm 6 3,qo 7 (.ld (some 8) (.t 1)),qo 8 (.ld (some 8) (.t 1)),qo 9 (.call .pure (.c (.fn 41 [] [])) [.t 8]),qo 10 (.call .pure (.c (.fn 39 [] [])) [.t 7,.t 9]),qo 11 (.call .pure (.c (.fn 23 [] [])) [.t 6,.t 10]),qm 2 11])
 .ret))) }
def A_ppo_ploc_1:AFun:={ res:=[.t 2],body:=(.seq (.reg false [qo 1 (.box (.t 0)),qo 2 (.mv (.c (.b false)))])
 (.seq (.reg false [qo 3 (.fa 0 (.t 1)),qo 4 (.ld none (.t 3)),qo 5 (.bin .neq (.t 4) (.c (.i .i64 0))),qm 2 5])
 .ret)) }
structure Pk_ppo (F:Funs):Prop where
 ppo_Ppo:F 143 = some A_ppo_Ppo
 ppo_Rdw:F 145 = some A_ppo_Rdw
 ppo_Detour:F 146 = some A_ppo_Detour
 ppo_Parts:F 165 = some A_ppo_Parts
 ppo_isR:F 167 = some A_ppo_isR
 ppo_isW:F 168 = some A_ppo_isW
 ppo_by:F 170 = some A_ppo_by
 ppo_isM:F 219 = some A_ppo_isM
 ppo_or:F 220 = some A_ppo_or
 ppo_ploc:F 221 = some A_ppo_ploc
 ppo_ploc_1:F 246 = some A_ppo_ploc_1
end Go.Ab
end
section
set_option linter.unusedVariables false
set_option linter.unusedSimpArgs false
namespace Go.Ab
variable {F:Funs}
structure PpoF (F:Funs):Prop where
 pp:Pk_ppo F
 pe:Pk_eco F
 pr:Pk_rel F
 po:F 60 = some A_graph_Po
 gof:F 81 = some A_graph_Of
 set:F 166 = some A_graph_Set
 ls:RelLs F
section
variable (X:Gr)
end
def orL (R:Rw) (l:List Rw):Rw:=l.foldl orR R
section
variable (S:PpoF F)
include S
variable {X:Gr} (hX:Few X)
include hX
end
end Go.Ab
end
section
set_option linter.unusedVariables false
set_option linter.unusedSimpArgs false
namespace Go.Ab
variable {F:Funs}
structure OrdF (F:Funs):Prop where
 po:Pk_order F
 sy:SyncF F
def oR (e:Ev):Bool:=e.kd == 1
def oW (e:Ev):Bool:=e.kd == 2
def oF (e:Ev):Bool:=e.kd == 3
def oRel (e:Ev):Bool:=e.kd == 2 && e.md == 2
def oAcq (e:Ev):Bool:=e.kd == 1 && e.md == 1
def oSc (e:Ev):Bool:=e.kd == 3 && e.md == 4
def oEx (e:Ev):Bool:=e.kd == 1 && e.ex
section
variable (S:OrdF F)
include S
theorem so_R (e:Ev):pureS F 240 [.agg (evC e)] = some (.b (oR e)):=by
 refine pure_of S.po.order_isR ?_
 simp (disch:=omega) only[A_order_isR,wp,qa,qb,qc,gl]
 rfl
theorem so_W (e:Ev):pureS F 203 [.agg (evC e)] = some (.b (oW e)):=by
 refine pure_of S.po.order_isW ?_
 simp (disch:=omega) only[A_order_isW,wp,qa,qb,qc,gl]
 rfl
theorem so_F (e:Ev):pureS F 200 [.agg (evC e)] = some (.b (oF e)):=by
 refine pure_of S.po.order_isF ?_
 simp (disch:=omega) only[A_order_isF,wp,qa,qb,qc,gl]
 rfl
theorem so_Rel (e:Ev):pureS F 196 [.agg (evC e)] = some (.b (oRel e)):=by
 refine pure_of S.po.order_isRel ?_
 have h:=so_W S e
 unfold oRel
 unfold oW at h
 cases c:(e.kd == 2) with
 | true => rw[c] at h;simp (disch:=omega) only[A_order_isRel,wp,qa,qb,qc,gl,h]
 | false => rw[c] at h;simp (disch:=omega) only[A_order_isRel,wp,qa,qb,qc,gl,h]
theorem so_Acq (e:Ev):pureS F 198 [.agg (evC e)] = some (.b (oAcq e)):=by
 refine pure_of S.po.order_isAcq ?_
 have h:=so_R S e
 unfold oAcq
 unfold oR at h
 cases c:(e.kd == 1) with
 | true => rw[c] at h;simp (disch:=omega) only[A_order_isAcq,wp,qa,qb,qc,gl,h]
 | false => rw[c] at h;simp (disch:=omega) only[A_order_isAcq,wp,qa,qb,qc,gl,h]
theorem so_Sc (e:Ev):pureS F 241 [.agg (evC e)] = some (.b (oSc e)):=by
 refine pure_of S.po.order_isSc ?_
 have h:=so_F S e
 unfold oSc
 unfold oF at h
 cases c:(e.kd == 3) with
 | true => rw[c] at h;simp (disch:=omega) only[A_order_isSc,wp,qa,qb,qc,gl,h]
 | false => rw[c] at h;simp (disch:=omega) only[A_order_isSc,wp,qa,qb,qc,gl,h]
theorem so_Ex (e:Ev):pureS F 245 [.agg (evC e)] = some (.b (oEx e)):=by
 refine pure_of S.po.order_isEx ?_
 have h:=so_R S e
 unfold oEx
 unfold oR at h
 cases c:(e.kd == 1) with
 | true => rw[c] at h;simp (disch:=omega) only[A_order_isEx,wp,qa,qb,qc,gl,h]
 | false => rw[c] at h;simp (disch:=omega) only[A_order_isEx,wp,qa,qb,qc,gl,h]
end
section
variable (X:Gr)
def bobL:List Rw:=[thenR (nOf X) (poR X) (setR X oRel),thenR (nOf X) (setR X oAcq) (poR X),thenR (nOf X) (poR X) (setR X oF),thenR (nOf X) (setR X oF) (poR X),thenR (nOf X) (thenR (nOf X) (setR X oRel) (locR X)) (setR X oW)]
def bobR:Rw:=orL (newR (nOf X) []) (bobL X)
def depsR:Rw:=orL (newR (nOf X) []) [newR (nOf X) X.data,newR (nOf X) X.ctrl,thenR (nOf X) (setR X oEx) (poR X)]
def oppoR:Rw:=thenR (nOf X) (thenR (nOf X) (setR X oR) (plusR (nOf X) (orR (depsR X) (partR inner X (nOf X) (rfR X))))) (setR X oW)
def odetR:Rw:=andR (thenR (nOf X) (partR outer X (nOf X) (relE (coS X.co) X)) (partR outer X (nOf X) (rfR X))) (poR X)
def pscR:Rw:=thenR (nOf X) (thenR (nOf X) (thenR (nOf X) (thenR (nOf X) (setR X oSc) (HbP X)) (ecoR X)) (HbP X)) (setR X oSc)
def arR:Rw:=orL (newR (nOf X) []) [partR outer X (nOf X) (rfR X),bobR X,oppoR X,odetR X,pscR X]
end
def ClosR (F:Funs) (n:Nat) (f:AV) (R:Rw):Prop:=∃ fid caps,f = .fn fid [] caps∧pureS F fid caps = some (.ptr (relC n R))∧(∀ hp,frzL hp depth caps = some caps)∧∀ hp,caps.flatMap (vis hp depth) = []
def ClosL (F:Funs) (n:Nat):List AV→List Rw→Prop
 | [],[] => True
 | f :: fs,R :: Rs => ClosR F n f R∧ClosL F n fs Rs
 | _,_ => False
theorem closL_len {n:Nat}:∀ {fs:List AV} {Rs:List Rw},ClosL F n fs Rs→fs.length = Rs.length
 | [],[],_ => rfl
 | f :: fs,R :: Rs,h => by simp[closL_len h.2]
theorem closL_at {n:Nat}:∀ {fs:List AV} {Rs:List Rw} {k:Nat},ClosL F n fs Rs→(h:k < Rs.length)→∃ f,fs[k]? = some f∧ClosR F n f (Rs.getD k fun _ => 0)
 | [],[],_,_,hk => absurd hk (Nat.not_lt_zero _)
 | [],_ :: _,_,h,_ => h.elim
 | _ :: _,[],_,h,_ => h.elim
 | f :: fs,R :: Rs,0,h,_ => ⟨f,rfl,h.1⟩
 | f :: fs,R :: Rs,k + 1,h,hk => closL_at (k:=k) h.2 (by simpa using hk)
section
variable (S:OrdF F) {X:Gr} (hX:Few X)
include S hX
omit hX in
theorem so_all {fs:List AV} {Rs:List Rw} (h:ClosL F (nOf X) fs Rs) (hl:Rs.length≤1000) (t:Tok):pureS F 193 [.agg (grC X),.sl fs Rs.length t] = some (.ptr (relC (nOf X) (orL (newR (nOf X) []) Rs))):=by
 refine pure_of S.po.order_all ?_
 have hn:=nOf_le X
 have dn:pureS F 11 [.i .i64 X.evs.length,.sl [] 0 .non] = some (.ptr (relC (nOf X) (newR (nOf X) []))):=sp_new S.sy.pr X.evs.length [] .non (by simp)
 have hfl:=closL_len h
 simp (disch:=omega) only[A_order_all,wp,qa,qb,qc,gl,dn]
 refine W_loop (fun q e g => ∃ k,q = Rs.length - k∧k≤Rs.length∧e 5 = .ptr (relC (nOf X) (orL (newR (nOf X) []) (Rs.take k)))∧e 12 = .sl fs Rs.length t∧e 13 = .i .i64 Rs.length∧e 14 = .i .i64 k) Rs.length ?_ ?_
 ·refine ⟨0,rfl,Nat.zero_le _,?_⟩
  simp (disch:=omega) only[wp,qa,qb,qc]
  exact ⟨by rfl,rfl⟩
 ·rintro q e g ⟨k,rfl,hk,e5,e12,e13,e14⟩
  by_cases hk':k < Rs.length
  ·have hk1:(k:Int) < Rs.length:=by omega
   have hwk:=succ_wrap (k:=k) (by omega)
   obtain ⟨f,hf,fid,caps,rfl,hcall,hc,hv⟩:=closL_at h hk'
   have hp:part (fs.drop (k * 1)) 0 none = some (.fn fid [] caps):=by
    simp only[part,List.getElem?_drop,Nat.mul_one,Nat.add_zero,hf]
   have hs:orL (newR (nOf X) []) (Rs.take (k + 1)) = orR (orL (newR (nOf X) []) (Rs.take k)) (Rs.getD k fun _ => 0):=by
    unfold orL
    rw[List.take_add_one,List.foldl_append,List.getElem?_eq_getElem hk',List.getD_eq_getElem?_getD,List.getElem?_eq_getElem hk']
    rfl
   generalize orL (newR (nOf X) []) (Rs.take k) = A at e5 hs
   generalize (Rs.getD k fun _ => 0) = B at hcall hs
   simp (disch:=omega) only[wp,qa,qb,qc,gl,e5,e12,e13,e14,hk1,hp,hc,hv,hcall,sp_or S.sy.pr hn hn,Nat.max_self,hwk]
   exact ⟨Rs.length - (k + 1),by omega,k + 1,rfl,by omega,by rw[hs],rfl⟩
  ·obtain rfl:k = Rs.length:=by omega
   have hk1:¬ ((Rs.length:Int) < Rs.length):=by omega
   rw[List.take_length] at e5
   simp (disch:=omega) only[wp,qa,qb,qc,gl,e5,e12,e13,e14,hk1]
theorem so_set {fid:Nat} {p:Ev→Bool} (hp:∀ e,pureS F fid [.agg (evC e)] = some (.b (p e))):pureS F 195 [.agg (grC X),.fn fid [] []] = some (.ptr (relC (nOf X) (setR X p))):=by
 refine pure_of S.po.order_set ?_
 have hs:=sp_setE S.sy.set S.sy.gof S.sy.pr (X:=X) (by have:=hX.1;omega) hp (fun hp => frzL_nil hp _) (fun hp => rfl)
 simp (disch:=omega) only[A_order_set,wp,qa,qb,qc,gl,hs]
end
end Go.Ab
end
section
set_option linter.unusedVariables false
set_option linter.unusedSimpArgs false
namespace Go.Ab
def Sub (R S:Rw):Prop:=∀ a b,hb R a b = true→hb S a b = true
theorem Sub.same (R:Rw):Sub R R:=fun _ _ h => h
theorem Sub.or {R R' S S':Rw} (h:Sub R R') (k:Sub S S'):Sub (orR R S) (orR R' S'):=fun a b hh => by
 rw[hb_or,Bool.or_eq_true] at hh ⊢
 exact hh.imp (h a b) (k a b)
theorem Sub.and {R R' S S':Rw} (h:Sub R R') (k:Sub S S'):Sub (andR R S) (andR R' S'):=fun a b hh => by
 rw[hb_and,Bool.and_eq_true] at hh ⊢
 exact ⟨h a b hh.1,k a b hh.2⟩
theorem Sub.next {n:Nat} {R R' S S':Rw} (w:Wf n R) (w':Wf n R') (h:Sub R R') (k:Sub S S'):Sub (thenR n R S) (thenR n R' S'):=fun a b hh => by
 rw[hb_then w] at hh
 obtain ⟨c,h1,h2⟩:=hh
 exact (hb_then w' a b).2 ⟨c,h a c h1,k c b h2⟩
theorem Sub.plus {n:Nat} {R R':Rw} (w:Wf n R) (w':Wf n R') (h:Sub R R'):Sub (plusR n R) (plusR n R'):=fun a b hh => by
 rw[hb_plus w] at hh
 rw[hb_plus w']
 induction hh with
 | one k => exact .one (h _ _ k)
 | join _ _ i1 i2 => exact .join i1 i2
theorem sub_new {n:Nat} (hn:n≤40) {l l':List (Int × Int)} (h:∀ p∈l,p∈l'):Sub (newR n l) (newR n l'):=fun a b hh => by
 rw[hb_new hn] at hh ⊢
 simp only[Bool.and_eq_true,List.any_eq_true] at hh ⊢
 obtain ⟨h1,p,hp,he⟩:=hh
 exact ⟨h1,p,h p hp,he⟩
structure Wk (X Y:Gr):Prop where
 len:Y.evs.length = X.evs.length
 rf:Y.rf = X.rf
 co:Y.co = X.co
 rmw:Y.rmw = X.rmw
 ctrl:Y.ctrl = X.ctrl
 data:∀ p∈Y.data,p∈X.data
 th:∀ i,(Y.evs.getD i ev0).th = (X.evs.getD i ev0).th
 kd:∀ i,(Y.evs.getD i ev0).kd = (X.evs.getD i ev0).kd
 lc:∀ i,(Y.evs.getD i ev0).lc = (X.evs.getD i ev0).lc
 ex:∀ i,(Y.evs.getD i ev0).ex = (X.evs.getD i ev0).ex
 md:∀ i,(Y.evs.getD i ev0).md = (X.evs.getD i ev0).md∨((X.evs.getD i ev0).kd≠3∧(Y.evs.getD i ev0).md = 0)∨((X.evs.getD i ev0).kd = 3∧(Y.evs.getD i ev0).md = 2∧2 < (X.evs.getD i ev0).md∧(X.evs.getD i ev0).md≤4)
section
variable {X Y:Gr} (h:Wk X Y)
include h
theorem Wk.n:nOf Y = nOf X:=by unfold nOf;rw[h.len]
theorem wk_po:poR Y = poR X:=by
 have e:∀ k j,poRow Y k j = poRow X k j:=by
  intro k j
  unfold poRow
  congr 1
  refine List.filter_congr fun b _ => ?_
  unfold poB
  rw[h.th k,h.th b]
 unfold poR poK
 rw[h.n,h.len]
 simp only[e]
theorem wk_part {so:Ev→Ev→Bool} (hs:∀ i j,so (Y.evs.getD i ev0) (Y.evs.getD j ev0) = so (X.evs.getD i ev0) (X.evs.getD j ev0)) (n:Nat) (R:Rw):partR so Y n R = partR so X n R:=by
 unfold partR
 rw[h.n]
 congr 1
 refine List.filter_congr fun p _ => ?_
 unfold okP
 rw[h.len,hs]
theorem wk_relE {stp:Int→Int→Ev→List (Int × Int)} (hs:∀ i w k,stp i w (Y.evs.getD k ev0) = stp i w (X.evs.getD k ev0)):relE stp Y = relE stp X:=by
 unfold relE pairsE wOf
 rw[h.n,h.len,h.rf]
 simp only[hs]
theorem wk_rf:rfR Y = rfR X:=wk_relE h fun i w k => by unfold rfS;rw[h.kd]
theorem wk_rf':relE rfS Y = relE rfS X:=wk_rf h
theorem wk_co:relE (coS Y.co) Y = relE (coS X.co) X:=by rw[h.co];exact wk_relE h fun i w k => by unfold coS;rw[h.kd]
theorem wk_fr:relE (frS Y.co) Y = relE (frS X.co) X:=by rw[h.co];exact wk_relE h fun i w k => by unfold frS;rw[h.kd]
theorem wk_eco:ecoR Y = ecoR X:=by unfold ecoR;rw[h.n,wk_rf' h,wk_co h,wk_fr h]
theorem wk_loc:locR Y = locR X:=by
 unfold locR
 rw[h.n,wk_po h]
 exact wk_part h (fun i j => by unfold locP;rw[h.kd,h.kd,h.lc,h.lc]) _ _
theorem wk_in (n R):partR inner Y n R = partR inner X n R:=wk_part h (fun i j => by unfold inner;rw[h.th,h.th]) n R
theorem wk_out (n R):partR outer Y n R = partR outer X n R:=wk_part h (fun i j => by unfold outer;rw[h.th,h.th]) n R
theorem wk_set {p q:Ev→Bool} (hp:∀ i,p (Y.evs.getD i ev0) = true→q (X.evs.getD i ev0) = true):Sub (setR Y p) (setR X q):=by
 unfold setR
 rw[h.n,h.len]
 refine sub_new (nOf_le X) ?_
 intro r hr
 unfold setL at hr ⊢
 simp only[List.mem_flatMap,List.mem_range] at hr ⊢
 obtain ⟨i,hi,hh⟩:=hr
 by_cases hpp:p (Y.evs.getD i ev0) = true
 ·rw[if_pos hpp] at hh
  exact ⟨i,hi,by rw[if_pos (hp i hpp)];exact hh⟩
 ·rw[if_neg hpp] at hh;cases hh
theorem wk_setE {p:Ev→Bool} (hp:∀ i,p (Y.evs.getD i ev0) = p (X.evs.getD i ev0)):setR Y p = setR X p:=by
 unfold setR setL
 rw[h.n,h.len]
 simp only[hp]
theorem wk_rs:RsP Y = RsP X:=by
 unfold RsP
 rw[h.n,wk_loc h,wk_rf h,h.rmw,wk_setE h fun i => by unfold setP;rw[h.kd];simp]
theorem wfP (p:Ev→Bool):Wf (nOf X) (setR X p)∧Wf (nOf X) (setR Y p):=⟨wf_new (nOf_le X) _,by unfold setR;rw[h.n];exact wf_new (nOf_le X) _⟩
omit h in
theorem wf_poX:Wf (nOf X) (poR X):=wf_new (nOf_le X) _
omit h in
theorem wf_locX:Wf (nOf X) (locR X):=wf_new (nOf_le X) _
omit h in
theorem wf_partX (so n R):Wf (nOf X) (partR so X n R):=wf_new (nOf_le X) _
omit h in
theorem wf_rfX:Wf (nOf X) (rfR X):=wf_new (nOf_le X) _
omit h in
theorem wf_rsX:Wf (nOf X) (RsP X):=by
 have s:=fun p => (wf_new (nOf_le X) (setL X p X.evs.length):Wf (nOf X) (setR X p))
 unfold RsP
 exact wf_or (wf_then (wf_then (s _) wf_locX) (s _)) (wf_then (s _) (wf_maybe (nOf_le X) (wf_plus (wf_then (wf_then (wf_maybe (nOf_le X) wf_locX) wf_rfX) (wf_new (nOf_le X) _)))))
theorem md_in {k:Int} {ms:List Int} (hm:k≠3∧(0:Int) ∉ ms∨k = 3∧∀ m:Int,2 < m→m≤4→2∈ms→m∈ms) (hn:ms≠[]) (i:Nat) (hh:setP k ms (Y.evs.getD i ev0) = true):setP k ms (X.evs.getD i ev0) = true:=by
 unfold setP at hh ⊢
 simp only[Bool.and_eq_true,beq_iff_eq,Bool.or_eq_true,decide_eq_true_eq,List.any_eq_true] at hh ⊢
 obtain ⟨h1,h2⟩:=hh
 rw[h.kd] at h1
 refine ⟨h1,.inr ?_⟩
 obtain ⟨m,hmm,he⟩:=h2.resolve_left hn
 rcases h.md i with e | ⟨e1,e2⟩ | ⟨e1,e2,e3,e4⟩
 ·exact ⟨m,hmm,by rw[←e,he]⟩
 ·rcases hm with ⟨_,hm⟩ | ⟨hm,_⟩
  ·exact absurd (by rw[←he,e2] at hmm;exact hmm) hm
  ·omega
 ·rcases hm with ⟨hm,_⟩ | ⟨_,hm⟩
  ·omega
  ·exact ⟨_,hm _ e3 e4 (by rw[←he,e2] at hmm;exact hmm),rfl⟩
theorem sub_rel:Sub (ReleaseP Y) (ReleaseP X)∧Wf (nOf X) (ReleaseP Y)∧Wf (nOf X) (ReleaseP X):=by
 unfold ReleaseP
 rw[h.n,wk_rs h,wk_po h]
 have s:=fun p => wfP h p
 have w1:Wf (nOf X) (orR (setR Y (setP 2 [2])) (thenR (nOf X) (setR Y (setP 3 [2,3,4])) (poR X))):=wf_or (s _).2 (wf_then (s _).2 wf_poX)
 have w2:Wf (nOf X) (orR (setR X (setP 2 [2])) (thenR (nOf X) (setR X (setP 3 [2,3,4])) (poR X))):=wf_or (s _).1 (wf_then (s _).1 wf_poX)
 refine ⟨Sub.next w1 w2 (Sub.or (wk_set h (md_in h (.inl ⟨by decide,by decide⟩) (by simp))) (Sub.next (s _).2 (s _).1 (wk_set h (md_in h (.inr ⟨rfl,fun m m1 m2 _ => ?_⟩) (by simp))) (Sub.same _))) (Sub.same _),wf_then w1 wf_rsX,wf_then w2 wf_rsX⟩
 have:m = 3∨m = 4:=by omega
 rcases this with rfl | rfl<;>simp
theorem sub_sw:Sub (SwP Y) (SwP X)∧Wf (nOf X) (SwP Y)∧Wf (nOf X) (SwP X):=by
 unfold SwP
 rw[h.n,wk_rf h,wk_po h,wk_loc h,wk_in h,wk_out h]
 obtain ⟨r1,r2,r3⟩:=sub_rel h
 have s:=fun p => wfP h p
 have m:Wf (nOf X) (orR (partR inner X (nOf X) (rfR X)) (thenR (nOf X) (maybeK (nOf X) (locR X)) (partR outer X (nOf X) (rfR X)))):=wf_or (wf_partX _ _ _) (wf_then (wf_maybe (nOf_le X) wf_locX) (wf_partX _ _ _))
 refine ⟨Sub.next (wf_then r2 m) (wf_then r3 m) (Sub.next r2 r3 r1 (Sub.same _)) (Sub.or (wk_set h (md_in h (.inl ⟨by decide,by decide⟩) (by simp))) (Sub.next wf_poX wf_poX (Sub.same _) (wk_set h (md_in h (.inr ⟨rfl,fun m m1 m2 hm => ?_⟩) (by simp))))),wf_then (wf_then r2 m) (wf_or (s _).2 (wf_then wf_poX (s _).2)),wf_then (wf_then r3 m) (wf_or (s _).1 (wf_then wf_poX (s _).1))⟩
 exact absurd hm (by decide)
theorem sub_hb:Sub (HbP Y) (HbP X)∧Wf (nOf X) (HbP Y)∧Wf (nOf X) (HbP X):=by
 unfold HbP
 rw[h.n,wk_po h]
 obtain ⟨r1,r2,r3⟩:=sub_sw h
 exact ⟨Sub.plus (wf_or wf_poX r2) (wf_or wf_poX r3) (Sub.or (Sub.same _) r1),wf_plus (wf_or wf_poX r2),wf_plus (wf_or wf_poX r3)⟩
theorem sub_bob:Sub (bobR Y) (bobR X):=by
 unfold bobR bobL orL
 rw[h.n,wk_po h,wk_loc h]
 have s:=fun p => wfP h p
 have hRel:Sub (setR Y oRel) (setR X oRel):=wk_set h fun i hh => by
  have:=md_in h (k:=2) (ms:=[2]) (.inl ⟨by decide,by decide⟩) (by simp) i
  unfold setP at this
  unfold oRel at hh ⊢
  simpa using this (by simpa using hh)
 have hAcq:Sub (setR Y oAcq) (setR X oAcq):=wk_set h fun i hh => by
  have:=md_in h (k:=1) (ms:=[1]) (.inl ⟨by decide,by decide⟩) (by simp) i
  unfold setP at this
  unfold oAcq at hh ⊢
  simpa using this (by simpa using hh)
 have eF:setR Y oF = setR X oF:=wk_setE h fun i => by unfold oF;rw[h.kd]
 have eW:setR Y oW = setR X oW:=wk_setE h fun i => by unfold oW;rw[h.kd]
 rw[eF,eW]
 simp only[List.foldl_cons,List.foldl_nil]
 exact ((((Sub.same _).or ((Sub.same _).next wf_poX wf_poX hRel)).or (hAcq.next (s _).2 (s _).1 (Sub.same _))).or (Sub.same _)).or (Sub.same _) |>.or ((hRel.next (s _).2 (s _).1 (Sub.same _)).next (wf_then (s _).2 wf_locX) (wf_then (s _).1 wf_locX) (Sub.same _))
theorem sub_deps:Sub (depsR Y) (depsR X)∧Wf (nOf X) (depsR Y)∧Wf (nOf X) (depsR X):=by
 unfold depsR orL
 rw[h.n,wk_po h,h.ctrl]
 have s:=fun p => wfP h p
 have eE:setR Y oEx = setR X oEx:=wk_setE h fun i => by unfold oEx;rw[h.kd,h.ex]
 rw[eE]
 simp only[List.foldl_cons,List.foldl_nil]
 have w:=fun l => wf_new (nOf_le X) l
 exact ⟨(((Sub.same _).or (sub_new (nOf_le X) h.data)).or (Sub.same _)).or (Sub.same _),wf_or (wf_or (wf_or (w _) (w _)) (w _)) (wf_then (s _).1 wf_poX),wf_or (wf_or (wf_or (w _) (w _)) (w _)) (wf_then (s _).1 wf_poX)⟩
theorem sub_ppo:Sub (oppoR Y) (oppoR X):=by
 unfold oppoR
 rw[h.n,wk_rf h,wk_in h]
 have s:=fun p => wfP h p
 have eR:setR Y oR = setR X oR:=wk_setE h fun i => by unfold oR;rw[h.kd]
 have eW:setR Y oW = setR X oW:=wk_setE h fun i => by unfold oW;rw[h.kd]
 rw[eR,eW]
 obtain ⟨d1,d2,d3⟩:=sub_deps h
 have p2:=wf_plus (wf_or d2 (wf_partX inner (nOf X) (rfR X)))
 have p3:=wf_plus (wf_or d3 (wf_partX inner (nOf X) (rfR X)))
 exact ((Sub.same _).next (s _).1 (s _).1 ((d1.or (Sub.same _)).plus (wf_or d2 (wf_partX _ _ _)) (wf_or d3 (wf_partX _ _ _)))).next (wf_then (s _).1 p2) (wf_then (s _).1 p3) (Sub.same _)
theorem wk_det:odetR Y = odetR X:=by
 unfold odetR
 rw[h.n,wk_rf h,wk_out h,wk_out h,wk_co h,wk_po h]
theorem sub_psc:Sub (pscR Y) (pscR X):=by
 unfold pscR
 rw[h.n,wk_eco h]
 have s:=fun p => wfP h p
 obtain ⟨b1,b2,b3⟩:=sub_hb h
 have hSc:Sub (setR Y oSc) (setR X oSc):=wk_set h fun i hh => by
  have:=md_in h (k:=3) (ms:=[4]) (.inr ⟨rfl,fun m m1 m2 hm => absurd hm (by decide)⟩) (by simp) i
  unfold setP at this
  unfold oSc at hh ⊢
  simpa using this (by simpa using hh)
 have we:Wf (nOf X) (ecoR X):=wf_plus (wf_or (wf_or (wf_new (nOf_le X) _) (wf_new (nOf_le X) _)) (wf_new (nOf_le X) _))
 exact (((hSc.next (s _).2 (s _).1 b1).next (wf_then (s _).2 b2) (wf_then (s _).1 b3) (Sub.same _)).next (wf_then (wf_then (s _).2 b2) we) (wf_then (wf_then (s _).1 b3) we) b1).next (wf_then (wf_then (wf_then (s _).2 b2) we) b2) (wf_then (wf_then (wf_then (s _).1 b3) we) b3) hSc
theorem sub_ar:Sub (arR Y) (arR X):=by
 unfold arR orL
 rw[h.n,wk_rf h,wk_out h,wk_det h]
 simp only[List.foldl_cons,List.foldl_nil]
 exact (((((Sub.same _).or (Sub.same _)).or (sub_bob h)).or (sub_ppo h)).or (Sub.same _)).or (sub_psc h)
end
theorem wf_arX {X:Gr}:Wf (nOf X) (arR X):=by
 have s:=fun p => (wf_new (nOf_le X) (setL X p X.evs.length):Wf (nOf X) (setR X p))
 have w:=fun l => (wf_new (nOf_le X) l)
 have wp:=@wf_poX X
 have hh:=(sub_hb (X:=X) (Y:=X) ⟨rfl,rfl,rfl,rfl,rfl,fun _ h => h,fun _ => rfl,fun _ => rfl,fun _ => rfl,fun _ => rfl,fun _ => .inl rfl⟩).2.2
 have hd:=(sub_deps (X:=X) (Y:=X) ⟨rfl,rfl,rfl,rfl,rfl,fun _ h => h,fun _ => rfl,fun _ => rfl,fun _ => rfl,fun _ => rfl,fun _ => .inl rfl⟩).2.2
 have we:Wf (nOf X) (ecoR X):=wf_plus (wf_or (wf_or (wf_new (nOf_le X) _) (wf_new (nOf_le X) _)) (wf_new (nOf_le X) _))
 unfold arR orL
 simp only[List.foldl_cons,List.foldl_nil]
 refine wf_or (wf_or (wf_or (wf_or (wf_or (w _) (wf_partX _ _ _)) ?_) ?_) ?_) ?_
 ·unfold bobR bobL orL
  simp only[List.foldl_cons,List.foldl_nil]
  exact wf_or (wf_or (wf_or (wf_or (wf_or (w _) (wf_then wp (s _))) (wf_then (s _) wp)) (wf_then wp (s _))) (wf_then (s _) wp)) (wf_then (wf_then (s _) wf_locX) (s _))
 ·unfold oppoR
  exact wf_then (wf_then (s _) (wf_plus (wf_or hd (wf_partX _ _ _)))) (s _)
 ·unfold odetR
  exact wf_and (wf_then (wf_partX _ _ _) (wf_partX _ _ _))
 ·unfold pscR
  exact wf_then (wf_then (wf_then (wf_then (s _) hh) we) hh) (s _)
end Go.Ab
end
section
set_option linter.unusedVariables false
set_option linter.unusedSimpArgs false
namespace Go.Ab
variable {F:Funs}
theorem fz_p1 (a:List AV) (hp):frzL hp depth [.ptr a] = some [.ptr a]:=by simp only[frzL_cons,frzL_nil,frz_d_ptr,consO_ok]
theorem fz_p2 (a b:List AV) (hp):frzL hp depth [.ptr a,.ptr b] = some [.ptr a,.ptr b]:=by simp only[frzL_cons,frzL_nil,frz_d_ptr,consO_ok]
theorem vs_p1 (a:List AV) (hp):[AV.ptr a].flatMap (vis hp depth) = []:=by simp only[List.flatMap_cons,List.flatMap_nil,vis_ptr,List.append_nil]
theorem vs_p2 (a b:List AV) (hp):[AV.ptr a,.ptr b].flatMap (vis hp depth) = []:=by simp only[List.flatMap_cons,List.flatMap_nil,vis_ptr,List.append_nil]
theorem fzf_1 (f:Nat) (a:List AV) (hp):frz hp depth (.fn f [] [.ptr a]) = some (.fn f [] [.ptr a]):=by
 show frz hp (8 + 1) _ = _
 simp only[frz,frzL]
theorem fzf_2 (f:Nat) (a b:List AV) (hp):frz hp depth (.fn f [] [.ptr a,.ptr b]) = some (.fn f [] [.ptr a,.ptr b]):=by
 show frz hp (8 + 1) _ = _
 simp only[frz,frzL]
theorem vsf_1 (f:Nat) (a:List AV) (hp):vis hp depth (.fn f [] [.ptr a]) = []:=by
 show vis hp (8 + 1) _ = _
 simp only[vis,List.flatMap_cons,List.flatMap_nil,List.append_nil]
theorem vsf_2 (f:Nat) (a b:List AV) (hp):vis hp depth (.fn f [] [.ptr a,.ptr b]) = []:=by
 show vis hp (8 + 1) _ = _
 simp only[vis,List.flatMap_cons,List.flatMap_nil,List.append_nil]
theorem closR_1 {n:Nat} {f:Nat} {a:List AV} {R:Rw} (h:pureS F f [.ptr a] = some (.ptr (relC n R))):ClosR F n (.fn f [] [.ptr a]) R:=⟨f,_,rfl,h,fz_p1 a,vs_p1 a⟩
theorem closR_2 {n:Nat} {f:Nat} {a b:List AV} {R:Rw} (h:pureS F f [.ptr a,.ptr b] = some (.ptr (relC n R))):ClosR F n (.fn f [] [.ptr a,.ptr b]) R:=⟨f,_,rfl,h,fz_p2 a b,vs_p2 a b⟩
section
variable (S:OrdF F) {X:Gr} (hX:Few X)
include S hX
omit hX in
theorem so_deps1 (hd:X.data.length≤1000):pureS F 242 [.ptr (grC X)] = some (.ptr (relC (nOf X) (newR (nOf X) X.data))):=by
 refine pure_of S.po.order_Deps_1 ?_
 have h5:part (List.drop 5 (grC X)) 0 none = some (.sl (pairsC X.data) X.data.length .non):=rfl
 simp (disch:=omega) only[A_order_Deps_1,wp,qa,qb,qc,gl,h5,sp_ofX S.sy]
omit hX in
theorem so_deps2 (hd:X.ctrl.length≤1000):pureS F 243 [.ptr (grC X)] = some (.ptr (relC (nOf X) (newR (nOf X) X.ctrl))):=by
 refine pure_of S.po.order_Deps_2 ?_
 have h5:part (List.drop 6 (grC X)) 0 none = some (.sl (pairsC X.ctrl) X.ctrl.length .non):=rfl
 simp (disch:=omega) only[A_order_Deps_2,wp,qa,qb,qc,gl,h5,sp_ofX S.sy]
theorem so_deps3:pureS F 244 [.ptr (grC X)] = some (.ptr (relC (nOf X) (thenR (nOf X) (setR X oEx) (poR X)))):=by
 refine pure_of S.po.order_Deps_3 ?_
 have hn:=nOf_le X
 simp (disch:=omega) only[A_order_Deps_3,wp,qa,qb,qc,gl,so_set S hX (so_Ex S),sp_poX S.sy hX,sp_then S.sy.pr hn hn,Nat.max_self]
theorem so_deps (hd:X.data.length≤1000) (hc:X.ctrl.length≤1000):pureS F 213 [.agg (grC X)] = some (.ptr (relC (nOf X) (depsR X))):=by
 refine pure_of S.po.order_Deps ?_
 have d:=so_all S (X:=X) (fs:=[.fn 242 [] [.ptr (grC X)],.fn 243 [] [.ptr (grC X)],.fn 244 [] [.ptr (grC X)]]) (Rs:=[newR (nOf X) X.data,newR (nOf X) X.ctrl,thenR (nOf X) (setR X oEx) (poR X)]) ⟨closR_1 (so_deps1 S hd),closR_1 (so_deps2 S hc),closR_1 (so_deps3 S hX),trivial⟩ (by simp) .non
 simp only[List.length_cons,List.length_nil,Nat.reduceAdd] at d
 simp (disch:=omega) only[A_order_Deps,wp,qa,qb,qc,gl,o_boxI,vBoxI_S,bxiD_ok,frzL_gr,vMapL_some,fzf_1,vsf_1,d]
 rfl
theorem so_bob1:pureS F 194 [.ptr [.ptr (relC (nOf X) (poR X))],.ptr (grC X)] = some (.ptr (relC (nOf X) (thenR (nOf X) (poR X) (setR X oRel)))):=by
 refine pure_of S.po.order_Bob_1 ?_
 have hn:=nOf_le X
 simp (disch:=omega) only[A_order_Bob_1,wp,qa,qb,qc,gl,so_set S hX (so_Rel S),sp_then S.sy.pr hn hn,Nat.max_self]
theorem so_bob2:pureS F 197 [.ptr (grC X),.ptr [.ptr (relC (nOf X) (poR X))]] = some (.ptr (relC (nOf X) (thenR (nOf X) (setR X oAcq) (poR X)))):=by
 refine pure_of S.po.order_Bob_2 ?_
 have hn:=nOf_le X
 simp (disch:=omega) only[A_order_Bob_2,wp,qa,qb,qc,gl,so_set S hX (so_Acq S),sp_then S.sy.pr hn hn,Nat.max_self]
theorem so_bob3:pureS F 199 [.ptr [.ptr (relC (nOf X) (poR X))],.ptr (grC X)] = some (.ptr (relC (nOf X) (thenR (nOf X) (poR X) (setR X oF)))):=by
 refine pure_of S.po.order_Bob_3 ?_
 have hn:=nOf_le X
 simp (disch:=omega) only[A_order_Bob_3,wp,qa,qb,qc,gl,so_set S hX (so_F S),sp_then S.sy.pr hn hn,Nat.max_self]
theorem so_bob4:pureS F 201 [.ptr (grC X),.ptr [.ptr (relC (nOf X) (poR X))]] = some (.ptr (relC (nOf X) (thenR (nOf X) (setR X oF) (poR X)))):=by
 refine pure_of S.po.order_Bob_4 ?_
 have hn:=nOf_le X
 simp (disch:=omega) only[A_order_Bob_4,wp,qa,qb,qc,gl,so_set S hX (so_F S),sp_then S.sy.pr hn hn,Nat.max_self]
theorem so_bob5:pureS F 202 [.ptr (grC X)] = some (.ptr (relC (nOf X) (thenR (nOf X) (thenR (nOf X) (setR X oRel) (locR X)) (setR X oW)))):=by
 refine pure_of S.po.order_Bob_5 ?_
 have hn:=nOf_le X
 simp (disch:=omega) only[A_order_Bob_5,wp,qa,qb,qc,gl,so_set S hX (so_Rel S),so_set S hX (so_W S),sp_locX S.sy hX,sp_then S.sy.pr hn hn,Nat.max_self]
theorem so_bob:pureS F 155 [.agg (grC X)] = some (.ptr (relC (nOf X) (bobR X))):=by
 refine pure_of S.po.order_Bob ?_
 have d:=so_all S (X:=X) (fs:=[.fn 194 [] [.ptr [.ptr (relC (nOf X) (poR X))],.ptr (grC X)],.fn 197 [] [.ptr (grC X),.ptr [.ptr (relC (nOf X) (poR X))]],.fn 199 [] [.ptr [.ptr (relC (nOf X) (poR X))],.ptr (grC X)],.fn 201 [] [.ptr (grC X),.ptr [.ptr (relC (nOf X) (poR X))]],.fn 202 [] [.ptr (grC X)]]) (Rs:=bobL X) ⟨closR_2 (so_bob1 S hX),closR_2 (so_bob2 S hX),closR_2 (so_bob3 S hX),closR_2 (so_bob4 S hX),closR_1 (so_bob5 S hX),trivial⟩ (by simp[bobL]) .non
 simp only[bobL,List.length_cons,List.length_nil,Nat.reduceAdd] at d
 simp (disch:=omega) only[A_order_Bob,wp,qa,qb,qc,gl,o_boxI,vBoxI_S,bxiD_ok,frzL_gr,vMapL_some,sp_poX S.sy hX]
 refine W_immM (fun e g => e 1 = .ptr (grC X)∧e 3 = .mp 4 0∧g.hp 4 = some (.cells [.ptr (relC (nOf X) (poR X))] false)∧4 < g.nx) ?_ ?_
 ·simp (disch:=omega) only[wp,qa,qb,qc,gl]
  trivial
 ·have r5:∀ x:AV,List.replicate 5 x = [x,x,x,x,x]:=fun _ => rfl
  rintro e g ⟨e1,e3,hg,hnx⟩
  have hfz:frz g.hp depth (e 3) = some (.ptr [.ptr (relC (nOf X) (poR X))]):=by
   rw[e3]
   refine frz_d_mp hg ?_
   show frzL g.hp (7 + 1) [AV.ptr (relC (nOf X) (poR X))] = _
   simp only[frzL,frz]
  rw[W_imm hfz]
  simp (disch:=omega) only[wp,qa,qb,qc,gl,e1,r5,fzf_1,vsf_1,fzf_2,vsf_2,d]
  rfl
theorem so_ppo (hd:X.data.length≤1000) (hc:X.ctrl.length≤1000):pureS F 207 [.agg (grC X)] = some (.ptr (relC (nOf X) (oppoR X))):=by
 refine pure_of S.po.order_Ppo ?_
 have hn:=nOf_le X
 simp (disch:=omega) only[A_order_Ppo,wp,qa,qb,qc,gl,so_deps S hX hd hc,so_set S hX (so_R S),so_set S hX (so_W S),sp_rfX S.sy hX,sp_Inner S.sy.pe S.sy.gof S.sy.pr hn,sp_or S.sy.pr hn hn,sp_plus S.sy.pr hn,sp_then S.sy.pr hn hn,Nat.max_self]
 rfl
theorem so_detour:pureS F 209 [.agg (grC X)] = some (.ptr (relC (nOf X) (odetR X))):=by
 refine pure_of S.po.order_Detour ?_
 have hn:=nOf_le X
 simp (disch:=omega) only[A_order_Detour,wp,qa,qb,qc,gl,sp_rfX S.sy hX,sp_poX S.sy hX,sp_Co S.sy.pe S.sy.gof S.sy.pr hX,sp_Outer S.sy.pe S.sy.gof S.sy.pr hn,sp_and S.sy.pr hn hn,sp_then S.sy.pr hn hn,Nat.max_self]
 rfl
theorem so_psc (hr:X.rmw.length≤1000):pureS F 211 [.agg (grC X)] = some (.ptr (relC (nOf X) (pscR X))):=by
 refine pure_of S.po.order_Psc ?_
 have hn:=nOf_le X
 simp (disch:=omega) only[A_order_Psc,wp,qa,qb,qc,gl,so_set S hX (so_Sc S),sp_Hb S.sy hX hr,sp_Eco S.sy.pe S.sy.gof S.sy.pr hX,sp_then S.sy.pr hn hn,Nat.max_self]
 rfl
theorem so_ar1:pureS F 204 [.ptr (grC X)] = some (.ptr (relC (nOf X) (partR outer X (nOf X) (rfR X)))):=by
 refine pure_of S.po.order_Ar_1 ?_
 have hn:=nOf_le X
 simp (disch:=omega) only[A_order_Ar_1,wp,qa,qb,qc,gl,sp_rfX S.sy hX,sp_Outer S.sy.pe S.sy.gof S.sy.pr hn]
theorem so_ar2:pureS F 205 [.ptr (grC X)] = some (.ptr (relC (nOf X) (bobR X))):=by
 refine pure_of S.po.order_Ar_2 ?_
 simp (disch:=omega) only[A_order_Ar_2,wp,qa,qb,qc,gl,so_bob S hX]
theorem so_ar3 (hd:X.data.length≤1000) (hc:X.ctrl.length≤1000):pureS F 206 [.ptr (grC X)] = some (.ptr (relC (nOf X) (oppoR X))):=by
 refine pure_of S.po.order_Ar_3 ?_
 simp (disch:=omega) only[A_order_Ar_3,wp,qa,qb,qc,gl,so_ppo S hX hd hc]
theorem so_ar4:pureS F 208 [.ptr (grC X)] = some (.ptr (relC (nOf X) (odetR X))):=by
 refine pure_of S.po.order_Ar_4 ?_
 simp (disch:=omega) only[A_order_Ar_4,wp,qa,qb,qc,gl,so_detour S hX]
theorem so_ar5 (hr:X.rmw.length≤1000):pureS F 210 [.ptr (grC X)] = some (.ptr (relC (nOf X) (pscR X))):=by
 refine pure_of S.po.order_Ar_5 ?_
 simp (disch:=omega) only[A_order_Ar_5,wp,qa,qb,qc,gl,so_psc S hX hr]
theorem so_ar (hd:X.data.length≤1000) (hc:X.ctrl.length≤1000) (hr:X.rmw.length≤1000):pureS F 156 [.agg (grC X)] = some (.ptr (relC (nOf X) (arR X))):=by
 refine pure_of S.po.order_Ar ?_
 have d:=so_all S (X:=X) (fs:=[.fn 204 [] [.ptr (grC X)],.fn 205 [] [.ptr (grC X)],.fn 206 [] [.ptr (grC X)],.fn 208 [] [.ptr (grC X)],.fn 210 [] [.ptr (grC X)]]) (Rs:=[partR outer X (nOf X) (rfR X),bobR X,oppoR X,odetR X,pscR X]) ⟨closR_1 (so_ar1 S hX),closR_1 (so_ar2 S hX),closR_1 (so_ar3 S hX hd hc),closR_1 (so_ar4 S hX),closR_1 (so_ar5 S hX hr),trivial⟩ (by simp) .non
 simp only[List.length_cons,List.length_nil,Nat.reduceAdd] at d
 have r5:∀ x:AV,List.replicate 5 x = [x,x,x,x,x]:=fun _ => rfl
 simp (disch:=omega) only[A_order_Ar,wp,qa,qb,qc,gl,r5,o_boxI,vBoxI_S,bxiD_ok,frzL_gr,vMapL_some,fzf_1,vsf_1,d]
 rfl
end
end Go.Ab
end
section
set_option linter.unusedVariables false
set_option linter.unusedSimpArgs false
namespace Go.Ab
variable {F:Funs}
theorem om_slice {c:CS} {al:Nat→Bool} {lo id:Nat} {e:Env} {g:G} (esz x l h m):opE c al lo id (.slice esz x l h m) e g = vSlice esz (x.ev e) (evo e l) (evo e h) (evo e m) g:=rfl
theorem om_none (e:Env):evo e none = none:=rfl
theorem om_some (e:Env) (x:Opd):evo e (some x) = some (x.ev e):=rfl
theorem om_to {esz n k:Nat} {cs:List AV} {g:G} (h:k≤n):vSlice esz (.sl cs n .non) none (some (.i .i64 ((k:Nat):Int))) none g = some (.sl (cs.take (k * esz)) k .non,g):=by
 simp only[vSlice,bnd]
 rw[if_pos ⟨by omega,by omega,by omega⟩]
 simp
theorem om_from {esz n k:Nat} {cs:List AV} {g:G} (h:k≤n):vSlice esz (.sl cs n .non) (some (.i .i64 ((k:Nat):Int))) none none g = some (.sl ((cs.drop (k * esz)).take ((n - k) * esz)) (n - k) .non,g):=by
 simp only[vSlice,bnd]
 rw[if_pos ⟨by omega,by omega,by omega⟩]
 simp
def setMd (X:Gr) (k:Nat) (m:Int):List Ev:=X.evs.set k { X.evs.getD k ev0 with md:=m }
theorem evs_at {l:List Ev} {k j:Nat} (h:k < l.length) (hj:j < 6):(evsC l)[k * 6 + j]? = (evC (l.getD k ev0))[j]?:=by
 rw[←List.getElem?_drop,evs_drop h,List.getElem?_append_left (by rw[evC_len];exact hj)]
theorem evs_set:∀ {l:List Ev} {k:Nat} (m:Int),k < l.length→splice (evsC l) (k * 6 + 2) [.i .i64 m] = evsC (l.set k { l.getD k ev0 with md:=m })
 | x :: l,0,m,_ => by simp[splice,evsC,evC]
 | x :: l,k + 1,m,h => by
   have ih:=evs_set (l:=l) (k:=k) m (by simpa using h)
   simp only[splice,evsC,List.flatMap_cons,List.set_cons_succ,List.getD_cons_succ] at ih ⊢
   rw[List.set_append,if_neg (by rw[evC_len];omega),evC_len,show (k + 1) * 6 + 2 - 6 = k * 6 + 2 by omega,ih]
theorem evs_one (l:List Ev):(evsC l).all one = true:=by
 rw[List.all_eq_true]
 intro v hv
 obtain ⟨x,_,hx⟩:=List.mem_flatMap.1 hv
 exact List.all_eq_true.1 (evC_one x) v hx
def omG (Y:Gr) (evs:List Ev) (D:List (Int × Int)):Gr:={ Y with evs:=evs,data:=D }
def omC (Y:Gr) (id:Nat) (D:List (Int × Int)) (t:Tok):List AV:=[.i .i64 Y.locs,.ms id 0 Y.evs.length,.sl (intsC Y.rf) Y.rf.length .non,.sl (coC Y.co) Y.co.length .non,.sl (pairsC Y.rmw) Y.rmw.length .non,.sl (pairsC D) D.length t,.sl (pairsC Y.ctrl) Y.ctrl.length .non,.sl (pairsC Y.ctrli) Y.ctrli.length .non]
structure OmS (Y:Gr) (B C M:Nat) (D:List (Int × Int)) (t:Tok) (at':Int) (e:Env) (g:G):Prop where
 e2:e 2 = .i .i64 at'
 e9:e 9 = .ptr (relC (nOf Y) (arR Y))
 e10:e 10 = .mp C 0
 hc:g.hp C = some (.cells (omC Y M D t) false)
 hm:g.hp M = some (.cells (evsC Y.evs) false)
 ne:C≠M
 nx:C < g.nx∧M < g.nx
 sub:∀ p∈D,p∈Y.data
 len:D.length≤Y.data.length
structure OmT (Y:Gr) (C M:Nat) (D:List (Int × Int)) (t:Tok) (evs2:List Ev) (e:Env) (g:G):Prop where
 e9:e 9 = .ptr (relC (nOf Y) (arR Y))
 e10:e 10 = .mp C 0
 hc:g.hp C = some (.cells (omC Y M D t) false)
 hm:g.hp M = some (.cells (evsC evs2) false)
 ne:C≠M
 nx1:C < g.nx
 nx2:M < g.nx
 wk:Wk Y (omG Y evs2 D)
theorem getD_set (l:List Ev) (k i:Nat) (v:Ev) (hk:k < l.length):(l.set k v).getD i ev0 = if i = k then v else l.getD i ev0:=by
 rw[List.getD_eq_getElem?_getD,List.getElem?_set,List.getD_eq_getElem?_getD]
 by_cases h:k = i
 ·subst h;simp[hk]
 ·rw[if_neg h,if_neg (fun h' => h h'.symm)]
theorem wk_same {Y:Gr} {D:List (Int × Int)} (hs:∀ p∈D,p∈Y.data):Wk Y (omG Y Y.evs D):=
 ⟨rfl,rfl,rfl,rfl,rfl,hs,fun _ => rfl,fun _ => rfl,fun _ => rfl,fun _ => rfl,fun _ => .inl rfl⟩
theorem wk_setMd {Y:Gr} {D:List (Int × Int)} (hs:∀ p∈D,p∈Y.data) {k:Nat} (hk:k < Y.evs.length) {m:Int} (hm:((Y.evs.getD k ev0).kd≠3∧m = 0)∨((Y.evs.getD k ev0).kd = 3∧m = 2∧2 < (Y.evs.getD k ev0).md∧(Y.evs.getD k ev0).md≤4)):Wk Y (omG Y (setMd Y k m) D):=by
 have key:∀ i,((setMd Y k m).getD i ev0) = if i = k then { Y.evs.getD k ev0 with md:=m } else Y.evs.getD i ev0:=fun i => getD_set _ _ _ _ hk
 refine ⟨by show (setMd Y k m).length = _;simp[setMd],rfl,rfl,rfl,rfl,hs,fun i => ?_,fun i => ?_,fun i => ?_,fun i => ?_,fun i => ?_⟩
 ·show ((setMd Y k m).getD i ev0).th = _
  rw[key];split<;>simp_all
 ·show ((setMd Y k m).getD i ev0).kd = _
  rw[key];split<;>simp_all
 ·show ((setMd Y k m).getD i ev0).lc = _
  rw[key];split<;>simp_all
 ·show ((setMd Y k m).getD i ev0).ex = _
  rw[key];split<;>simp_all
 ·show ((setMd Y k m).getD i ev0).md = _∨(_∧((setMd Y k m).getD i ev0).md = _)∨(_∧((setMd Y k m).getD i ev0).md = _∧_)
  rw[key]
  by_cases hik:i = k
  ·subst hik
   rw[if_pos rfl]
   exact .inr hm
  ·rw[if_neg hik];exact .inl rfl
theorem sp_orderMore (A:NumF F) (S:OrdF F) (ls:RelLs F) (h472:F 472 = some A_xlaw11_OrderMore) (h477:F 477 = some A_xlaw09_one) (aw:pureS F 157 [] = some (.b true))
  (l:List Int) (hl:(l.length:Int)≤9223372036854775807) (pick at':Int) (tl:Tok):pureS F 472 [.sl (intsC l) l.length tl,.i .i64 pick,.i .i64 at'] = some (.b true):=by
 refine pure_of h472 ?_
 obtain ⟨Y,b,ho,hq⟩:=sp_oneW A h477 l hl pick
 have l7:∀ x:AV,List.replicate 7 x = [x,x,x,x,x,x,x]:=fun _ => rfl
 have s8:∀ b1 b2 b3 b4 b5 b6 b7 b8 c1 c2 c3 c4 c5 c6 c7 c8:AV,splice [b1,b2,b3,b4,b5,b6,b7,b8] 0 [c1,c2,c3,c4,c5,c6,c7,c8] = [c1,c2,c3,c4,c5,c6,c7,c8]:=fun _ _ _ _ _ _ _ _ _ _ _ _ _ _ _ _ => rfl
 have p8:∀ c1 c2 c3 c4 c5 c6 c7 c8:AV,part [c1,c2,c3,c4,c5,c6,c7,c8] 0 (some 8) = some (.agg [c1,c2,c3,c4,c5,c6,c7,c8]):=fun _ _ _ _ _ _ _ _ => rfl
 have fg:∀ hp,frz hp depth (.agg (grC Y)) = some (.agg (grC Y)):=fun hp => frz_gr hp Y
 have vg:∀ hp,vis hp depth (.agg (grC Y)) = []:=fun hp => vis_gr hp Y
 cases b with
 | false =>
   rw[grC] at ho
   simp (disch:=omega) only[A_xlaw11_OrderMore,wp,qa,qb,qc,gl,ho,aw,l7,s8,List.getElem?_cons_zero,List.getElem?_cons_succ]
 | true =>
   obtain ⟨hX,h⟩:=(hq rfl).ok
   have hF:Few Y:=hX.few
   have hd:=hX.data
   have hct:=hX.ctrl
   have hrm:=hX.rmw
   have hev:=hX.evs
   have r1:=so_ar S hF (by omega) (by omega) (by omega)
   have n1:1≤Y.evs.length:=by have:=h.nl;have:=h.locs1;omega
   have hel:(evsC Y.evs).length = Y.evs.length * 6:=evsC_len _
   have heo:=evs_one Y.evs
   have k1:∀ (id:Nat) (g:G),apmR id 6 48 Y.evs.length (Y.evs.length * 6) (evsC Y.evs) g true = some (.ms id 0 Y.evs.length,⟨upd g.hp id (some (.cells (evsC Y.evs) false)),g.nx⟩):=fun id g => apmR_ok ⟨n1,by omega,by omega,rfl⟩
   rw[grC] at ho r1 fg vg
   simp (disch:=omega) only[A_xlaw11_OrderMore,wp,qa,qb,qc,gl,ho,aw,l7,s8,p8,fg,vg,r1,o_appM,vAppM_rig,heo,k1,List.getElem?_cons_zero,List.getElem?_cons_succ]
   refine sel_cut (fun e g => ∃ D t,OmS Y 7 16 20 D t at' e g) ?_ ?_
   ·by_cases c1:(0:Int) < ((Y.data.length:Nat):Int)
    ·have hpl:=sp_place A.pg.place (v:=at') (n:=((Y.data.length:Nat):Int)) (by omega) (by omega)
     obtain ⟨p0,p1⟩:=place_lt (v:=at') (n:=((Y.data.length:Nat):Int)) (by omega)
     obtain ⟨k,hk⟩:∃ k:Nat,place at' ((Y.data.length:Nat):Int) = (k:Int):=⟨(place at' ((Y.data.length:Nat):Int)).toNat,by omega⟩
     rw[hk] at hpl p1
     have hwk:=succ_wrap (k:=k) (by omega)
     have t1:(pairsC (Y.data.take k)).length = k * 2:=by rw[pairsC_len,List.length_take];omega
     simp (disch:=omega) only[wp,qa,qb,qc,gl,c1,l7,s8,hpl,om_slice,om_none,om_some,om_to,pairsC_take]
     refine bindO_app (.inl rfl) (fun i h => by cases h) ⟨by omega,by omega,rfl,t1⟩ ?_
     intro t1 hp1 ar1
     have q7:hp1 7 = some (.cells (grC Y) false):=by rw[ar1.keep 7 (by omega) (fun e h => by cases h)];rfl
     have q16:hp1 16 = some (.cells (omC Y 20 Y.data .non) false):=by rw[ar1.keep 16 (by omega) (fun e h => by cases h)];rfl
     have q20:hp1 20 = some (.cells (evsC Y.evs) false):=by rw[ar1.keep 20 (by omega) (fun e h => by cases h)];rfl
     have t2:(pairsC (List.take (Y.data.length - (k + 1)) (Y.data.drop (k + 1)))).length = (Y.data.length - (k + 1)) * 2:=by rw[pairsC_len,List.length_take,List.length_drop];omega
     have t3:(pairsC (Y.data.take k)).length = k * 2:=by rw[pairsC_len,List.length_take];omega
     simp (disch:=omega) only[wp,qa,qb,qc,gl,hwk,q7,om_slice,om_none,om_some,om_from,pairsC_drop,pairsC_take]
     refine bindO_app (esz:=2) (ar1.ok (by first | omega | (dsimp only;omega))) ?_ ⟨by omega,by omega,t3,t2⟩ ?_
     ·intro i2 h2
      rcases ar1.tok with h | ⟨h,_⟩
      ·rw[h] at h2;cases h2
      ·rw[h] at h2;cases h2
       exact allow_hd _ rfl
     intro t4 hp2 ar2
     have own:∀ i,i < 33→∀ e,t1≠.own i e:=fun i hi e he => by
      rcases ar1.tok with h | ⟨h,_⟩
      ·rw[h] at he;cases he
      ·rw[h] at he;cases he;omega
     have u16:hp2 16 = some (.cells (omC Y 20 Y.data .non) false):=by rw[ar2.keep 16 (by omega) (own 16 (by omega))];exact q16
     have u20:hp2 20 = some (.cells (evsC Y.evs) false):=by rw[ar2.keep 20 (by omega) (own 20 (by omega))];exact q20
     unfold omC at u16
     simp (disch:=omega) only[wp,qa,qb,qc,gl,u16]
     refine ⟨Y.data.take k ++ List.take (Y.data.length - (k + 1)) (Y.data.drop (k + 1)),t4,rfl,rfl,rfl,?_,?_,by omega,by first | omega | (dsimp only;omega),fun p hp => ?_,?_⟩
     ·dsimp only
      rw[upd_same]
      have el:(Y.data.take k ++ List.take (Y.data.length - (k + 1)) (Y.data.drop (k + 1))).length = k + (Y.data.length - (k + 1)):=by rw[List.length_append,List.length_take,List.length_take,List.length_drop];omega
      unfold omC
      rw[pairsC_app,el]
     ·dsimp only
      rw[upd_ne _ _ (show (20:Nat)≠16 by omega)]
      exact u20
     ·rcases List.mem_append.1 hp with hp | hp
      ·exact List.mem_of_mem_take hp
      ·exact List.mem_of_mem_drop (List.mem_of_mem_take hp)
     ·rw[List.length_append,List.length_take,List.length_take,List.length_drop];omega
    ·have c1':¬ (0:Int) < ((Y.data.length:Nat):Int):=c1
     simp (disch:=omega) only[wp,qa,qb,qc,gl,c1']
     exact ⟨Y.data,.non,rfl,rfl,rfl,rfl,rfl,by omega,by first | omega | (dsimp only;omega),fun p hp => hp,Nat.le_refl _⟩
   ·rintro e g ⟨D,t,O⟩
    obtain ⟨e2,e9,e10,hc,hm,hne,⟨hnx1,hnx2⟩,hsub,hlen⟩:=O
    have hpl:=sp_place A.pg.place (v:=at') (n:=((Y.evs.length:Nat):Int)) (by omega) (by omega)
    obtain ⟨p0,p1⟩:=place_lt (v:=at') (n:=((Y.evs.length:Nat):Int)) (by omega)
    obtain ⟨k,hk⟩:∃ k:Nat,place at' ((Y.evs.length:Nat):Int) = (k:Int):=⟨(place at' ((Y.evs.length:Nat):Int)).toNat,by omega⟩
    rw[hk] at hpl p1
    have hkl:k < Y.evs.length:=by omega
    have c1:((k:Nat):Int) < ((Y.evs.length:Nat):Int):=by omega
    have pk1:part (evsC Y.evs) (k * 6 + 1) none = some (.i .i64 (Y.evs.getD k ev0).kd):=by
     show (evsC _)[_]? = _
     rw[evs_at hkl (by omega)];rfl
    have pk2:part (evsC Y.evs) (k * 6 + 2) none = some (.i .i64 (Y.evs.getD k ev0).md):=by
     show (evsC _)[_]? = _
     rw[evs_at hkl (by omega)];rfl
    have hc':=hc
    unfold omC at hc'
    have wst:=fun m => evs_set (l:=Y.evs) (k:=k) m hkl
    simp (disch:=omega) only[wp,qa,qb,qc,gl,e2,e10,hc',hm,hpl,c1,pk1]
    refine sel_cut (fun e g => ∃ evs2,OmT Y 16 20 D t evs2 e g) ?_ ?_
    ·cases cK:((Y.evs.getD k ev0).kd != 3) with
     | true =>
       simp (disch:=omega) only[wp,qa,qb,qc,gl,e10,hc',hm,c1,wst]
       exact ⟨setMd Y k 0,e9,e10,by dsimp only;rw[upd_ne _ _ (show (16:Nat)≠20 by omega)];exact hc,by dsimp only;rw[upd_same];rfl,by omega,by first | omega | (dsimp only;omega),by first | omega | (dsimp only;omega),wk_setMd hsub hkl (.inl ⟨by simpa using cK,rfl⟩)⟩
     | false =>
       by_cases cM:2 < (Y.evs.getD k ev0).md
       ·simp (disch:=omega) only[wp,qa,qb,qc,gl,e10,hc',hm,c1,pk2,cM,wst]
        have k3:(Y.evs.getD k ev0).kd = 3:=by simpa using cK
        have k4:=ev_kinds h k hkl
        exact ⟨setMd Y k 2,e9,e10,by dsimp only;rw[upd_ne _ _ (show (16:Nat)≠20 by omega)];exact hc,by dsimp only;rw[upd_same];rfl,by omega,by first | omega | (dsimp only;omega),by first | omega | (dsimp only;omega),wk_setMd hsub hkl (.inr ⟨k3,rfl,cM,by omega⟩)⟩
       ·simp (disch:=omega) only[wp,qa,qb,qc,gl,e10,hc',hm,c1,pk2,cM]
        exact ⟨Y.evs,e9,e10,hc,hm,by omega,by first | omega | (dsimp only;omega),by first | omega | (dsimp only;omega),wk_same hsub⟩
    ·rintro e g ⟨evs2,e9,e10,hc,hm,hne,hnx1,hnx2,hw⟩
     have l2:evs2.length = Y.evs.length:=hw.len
     have nY:nOf (omG Y evs2 D) = nOf Y:=hw.n
     have r2:=so_ar S (X:=omG Y evs2 D) ⟨by show evs2.length≤_;rw[l2];exact hF.1,hF.2.1,hF.2.2⟩ (by show D.length≤_;omega) (by show Y.ctrl.length≤_;omega) (by show Y.rmw.length≤_;omega)
     rw[nY] at r2
     have n40:=nOf_le Y
     have w2:=sp_in ls S.sy.pr n40 n40 (arR (omG Y evs2 D)) (arR Y)
     have hin:noneR (lessR (arR (omG Y evs2 D)) (arR Y)) = true:=(in_iff n40 (by rw[←nY];exact wf_arX)).2 (sub_ar hw)
     rw[hin] at w2
     simp only[W_seq]
     rw[W_lck]
     have l16:(lckG g (e 10)).hp 16 = some (.cells (omC Y 20 D t) true):=lck_hit hc (fun _ => by
      rw[e10];show 16∈vis g.hp (8 + 1) _
      simp only[vis,hc];simp)
     have l20:(lckG g (e 10)).hp 20 = some (.cells (evsC evs2) true):=lck_hit hm (fun _ => by
      rw[e10];show 20∈vis g.hp (8 + 1) _
      simp only[vis,hc,omC,List.drop_zero,List.flatMap_cons,hm];simp)
     have lnx:16 < (lckG g (e 10)).nx∧20 < (lckG g (e 10)).nx:=⟨hnx1,hnx2⟩
     generalize lckG g (e 10) = g2 at l16 l20 lnx
     have hfr:∀ hp:Nat→Option Blk,hp 20 = some (.cells (evsC evs2) true)→frz hp depth (.agg (omC Y 20 D t)) = some (.agg (grC (omG Y evs2 D))):=fun hp hh => by
      refine frz_d_agg ?_
      show frzL hp (7 + 1) _ = _
      have fl:frzL hp 7 (evsC evs2) = some (evsC evs2):=frzL_flat (d:=6) (by
       rw[List.all_eq_true]
       intro v hv
       obtain ⟨x,_,hx⟩:=List.mem_flatMap.1 hv
       exact List.all_eq_true.1 (evC_flat x) v hx)
      simp only[omC,frzL,frz,hh,fl,List.drop_zero,Option.map_some,grC,omG,l2]
     have hvi:∀ hp:Nat→Option Blk,hp 20 = some (.cells (evsC evs2) true)→vis hp depth (.agg (omC Y 20 D t)) = []:=fun hp hh => by
      show vis hp (8 + 1) _ = _
      have:∀ v∈evsC evs2,vis hp 7 v = []:=fun v hv => by
       obtain ⟨x,_,hx⟩:=List.mem_flatMap.1 hv
       simp only[evC,List.mem_cons,List.not_mem_nil,or_false] at hx
       rcases hx with rfl | rfl | rfl | rfl | rfl | rfl<;>rfl
      simp only[vis,omC,hh,List.drop_zero,List.flatMap_cons,List.flatMap_nil,List.nil_append,List.append_nil,if_true]
      exact List.flatMap_eq_nil_iff.2 this
     have rdt:∀ (g:G) (b:Nat) (pre:List Nat),rd g (allow false b pre) = g.hp:=fun g b pre => by funext i;exact rd_ok rfl
     have ga:part (omC Y 20 D t) 0 (some 8) = some (.agg (omC Y 20 D t)):=rfl
     have gl:(omC Y 20 D t).length = 8:=rfl
     have f1:=hfr g2.hp l20
     have v1:=hvi g2.hp l20
     generalize omC Y 20 D t = C at l16 ga gl f1 v1
     simp (disch:=omega) only[wp,qa,qb,qc,gl,e9,e10,l16,ga,gl,f1,v1,rdt,r2,w2,aw,Nat.max_self]
end Go.Ab
end
section
namespace Go.Ab
def A_xref10_Rs:AFun:={ res:=[.t 2],body:=(.seq (.reg false [qo 1 (.box (.t 0)),qo 2 (.mv (.c (.nilp)))])
 (.seq (.reg true [qo 6 (.ld (some 8) (.t 1)),qo 7 (.call .pure (.c (.fn 230 [] [])) [.t 6]),qo 8 (.ld (some 8) (.t 1)),qo 9 (.call .pure (.c (.fn 73 [] [])) [.t 8]),qm 3 7,qm 4 9])
 (.seq (.reg true [qm 10 4,qo 11 (.call .pure (.c (.fn 35 [] [])) [.t 10]),qo 12 (.ld (some 8) (.t 1)),qo 13 (.call .pure (.c (.fn 69 [] [])) [.t 12]),qo 14 (.call .pure (.c (.fn 32 [] [])) [.t 11,.t 13]),qo 15 (.ld (some 8) (.t 1)),qo 16 (.fa 4 (.t 1)),qo 17 (.ld none (.t 16)),qo 18 (.call .pure (.c (.fn 223 [] [])) [.t 15,.t 17]),qo 19 (.call .pure (.c (.fn 32 [] [])) [.t 14,.t 18]),qm 5 19])
 (.seq (.reg false [qm 20 3,qm 21 4,qo 22 (.call .pure (.c (.fn 32 [] [])) [.t 20,.t 21]),qm 23 3,qo 24 (.call .pure (.c (.fn 32 [] [])) [.t 22,.t 23]),qm 25 3,qm 26 5,qo 27 (.call .pure (.c (.fn 231 [] [])) [.t 26]),qo 28 (.call .pure (.c (.fn 32 [] [])) [.t 25,.t 27]),qo 29 (.call .pure (.c (.fn 29 [] [])) [.t 24,.t 28]),qm 2 29])
 .ret)))) }
def A_xref10_Release:AFun:={ res:=[.t 2],body:=(.seq (.reg false [qo 1 (.box (.t 0)),qo 2 (.mv (.c (.nilp)))])
 (.seq (.reg true [qo 3 (.ld (some 8) (.t 1)),qo 4 (.call .pure (.c (.fn 232 [] [])) [.t 3]),qo 5 (.ld (some 8) (.t 1)),qo 6 (.call .pure (.c (.fn 233 [] [])) [.t 5]),qo 7 (.ld (some 8) (.t 1)),qo 8 (.call .pure (.c (.fn 84 [] [])) [.t 7]),qo 9 (.call .pure (.c (.fn 32 [] [])) [.t 6,.t 8]),qo 10 (.call .pure (.c (.fn 29 [] [])) [.t 4,.t 9]),qo 11 (.ld (some 8) (.t 1)),qo 12 (.call .pure (.c (.fn 182 [] [])) [.t 11]),qo 13 (.call .pure (.c (.fn 32 [] [])) [.t 10,.t 12]),qm 2 13])
 .ret)) }
def A_xref10_Sw:AFun:={ res:=[.t 2],body:=(.seq (.reg false [qo 1 (.box (.t 0)),qo 2 (.mv (.c (.nilp)))])
 (.seq (.reg false [qo 5 (.ld (some 8) (.t 1)),qo 6 (.call .pure (.c (.fn 69 [] [])) [.t 5]),qm 3 6])
 (.seq (.reg true [qo 7 (.ld (some 8) (.t 1)),qm 8 3,qo 9 (.call .pure (.c (.fn 74 [] [])) [.t 7,.t 8]),qo 10 (.ld (some 8) (.t 1)),qo 11 (.call .pure (.c (.fn 73 [] [])) [.t 10]),qo 12 (.call .pure (.c (.fn 35 [] [])) [.t 11]),qo 13 (.ld (some 8) (.t 1)),qm 14 3,qo 15 (.call .pure (.c (.fn 75 [] [])) [.t 13,.t 14]),qo 16 (.call .pure (.c (.fn 32 [] [])) [.t 12,.t 15]),qo 17 (.call .pure (.c (.fn 29 [] [])) [.t 9,.t 16]),qm 4 17])
 (.seq (.reg true [qo 18 (.ld (some 8) (.t 1)),qo 19 (.call .pure (.c (.fn 183 [] [])) [.t 18]),qm 20 4,qo 21 (.call .pure (.c (.fn 32 [] [])) [.t 19,.t 20]),qo 22 (.ld (some 8) (.t 1)),qo 23 (.call .pure (.c (.fn 234 [] [])) [.t 22]),qo 24 (.ld (some 8) (.t 1)),qo 25 (.call .pure (.c (.fn 84 [] [])) [.t 24]),qo 26 (.ld (some 8) (.t 1)),qo 27 (.call .pure (.c (.fn 235 [] [])) [.t 26]),qo 28 (.call .pure (.c (.fn 32 [] [])) [.t 25,.t 27]),qo 29 (.call .pure (.c (.fn 29 [] [])) [.t 23,.t 28]),qo 30 (.call .pure (.c (.fn 32 [] [])) [.t 21,.t 29]),qm 2 30])
 .ret)))) }
def A_xref10_Hb:AFun:={ res:=[.t 2],body:=(.seq (.reg false [qo 1 (.box (.t 0)),qo 2 (.mv (.c (.nilp)))])
 (.seq (.reg true [qo 3 (.ld (some 8) (.t 1)),qo 4 (.call .pure (.c (.fn 84 [] [])) [.t 3]),qo 5 (.ld (some 8) (.t 1)),qo 6 (.call .pure (.c (.fn 184 [] [])) [.t 5]),qo 7 (.call .pure (.c (.fn 29 [] [])) [.t 4,.t 6]),qo 8 (.call .pure (.c (.fn 34 [] [])) [.t 7]),qm 2 8])
 .ret)) }
def A_xref10_W:AFun:={ res:=[.t 2],body:=(.seq (.reg false [qo 1 (.box (.t 0)),qo 2 (.mv (.c (.nilp)))])
 (.seq (.reg false [qo 3 (.ld (some 8) (.t 1)),qo 4 (.call .pure (.c (.fn 225 [] [])) [.t 3,.c (.i .i64 2),.c (.i .i64 0),.c (.i .i64 2)]),qm 2 4])
 .ret)) }
def A_xref10_Wrel:AFun:={ res:=[.t 2],body:=(.seq (.reg false [qo 1 (.box (.t 0)),qo 2 (.mv (.c (.nilp)))])
 (.seq (.reg false [qo 3 (.ld (some 8) (.t 1)),qo 4 (.call .pure (.c (.fn 225 [] [])) [.t 3,.c (.i .i64 2),.c (.i .i64 2),.c (.i .i64 2)]),qm 2 4])
 .ret)) }
def A_xref10_Frel:AFun:={ res:=[.t 2],body:=(.seq (.reg false [qo 1 (.box (.t 0)),qo 2 (.mv (.c (.nilp)))])
 (.seq (.reg false [qo 3 (.ld (some 8) (.t 1)),qo 4 (.call .pure (.c (.fn 225 [] [])) [.t 3,.c (.i .i64 3),.c (.i .i64 2),.c (.i .i64 4)]),qm 2 4])
 .ret)) }
def A_xref10_Racq:AFun:={ res:=[.t 2],body:=(.seq (.reg false [qo 1 (.box (.t 0)),qo 2 (.mv (.c (.nilp)))])
 (.seq (.reg false [qo 3 (.ld (some 8) (.t 1)),qo 4 (.call .pure (.c (.fn 225 [] [])) [.t 3,.c (.i .i64 1),.c (.i .i64 1),.c (.i .i64 1)]),qm 2 4])
 .ret)) }
def A_xref10_Facq:AFun:={ res:=[.t 2],body:=(.seq (.reg false [qo 1 (.box (.t 0)),qo 2 (.mv (.c (.nilp)))])
 (.seq (.reg true [qo 3 (.ld (some 8) (.t 1)),qo 4 (.call .pure (.c (.fn 225 [] [])) [.t 3,.c (.i .i64 3),.c (.i .i64 1),.c (.i .i64 1)]),qo 5 (.ld (some 8) (.t 1)),qo 6 (.call .pure (.c (.fn 225 [] [])) [.t 5,.c (.i .i64 3),.c (.i .i64 3),.c (.i .i64 4)]),qo 7 (.call .pure (.c (.fn 29 [] [])) [.t 4,.t 6]),qm 2 7])
 .ret)) }
structure Pk_xref10 (F:Funs):Prop where
 xref10_Rs:F 182 = some A_xref10_Rs
 xref10_Release:F 183 = some A_xref10_Release
 xref10_Sw:F 184 = some A_xref10_Sw
 xref10_Hb:F 185 = some A_xref10_Hb
 xref10_W:F 230 = some A_xref10_W
 xref10_Wrel:F 232 = some A_xref10_Wrel
 xref10_Frel:F 233 = some A_xref10_Frel
 xref10_Racq:F 234 = some A_xref10_Racq
 xref10_Facq:F 235 = some A_xref10_Facq
end Go.Ab
end
section
set_option linter.unusedVariables false
set_option linter.unusedSimpArgs false
namespace Go.Ab
variable {F:Funs}
def kindQ (k f t:Int) (e:Ev):Bool:=e.kd == k && (decide (f≤e.md) && decide (e.md≤t))
theorem sp_kind (h225:F 225 = some A_xref06_Kind) (h27:F 27 = some A_xref01_New) {X:Gr} (hn:X.evs.length≤40) (k f t:Int):pureS F 225 [.agg (grC X),.i .i64 k,.i .i64 f,.i .i64 t] = some (.ptr (matC X.evs.length (kindK X (kindQ k f t) X.evs.length))):=by
 refine pure_of_thaw h225 (matC_flat _ _) ?_
 have s6:∀ b1 b2 b3 b4 b5 b6 c1 c2 c3 c4 c5 c6:AV,splice [b1,b2,b3,b4,b5,b6] 0 [c1,c2,c3,c4,c5,c6] = [c1,c2,c3,c4,c5,c6]:=fun _ _ _ _ _ _ _ _ _ _ _ _ => rfl
 simp (disch:=omega) only[A_xref06_Kind,wp,qa,qb,qc,gl,ml,thaw27 h27]
 refine W_loop (fun q e g => ∃ a:Nat,q = X.evs.length - a∧a≤X.evs.length∧e 1 = .i .i64 k∧e 2 = .i .i64 f∧e 3 = .i .i64 t∧e 4 = .mp 0 0∧e 9 = .mp 5 0∧e 10 = .i .i64 a∧g.hp 0 = some (.cells (grC X) false)∧g.hp 5 = some (.cells (matC X.evs.length (kindK X (kindQ k f t) a)) false)∧5 < g.nx) X.evs.length ?_ ?_
 ·refine ⟨0,rfl,Nat.zero_le _,?_⟩
  simp (disch:=omega) only[wp,qa,qb,qc]
  exact ⟨rfl,by rw[kindK_0],by first | omega | (dsimp only;omega)⟩
 ·rintro q e g ⟨a,rfl,ha,e1,e2,e3,e4,e9,e10,hg,hm,hnx⟩
  by_cases ha':a < X.evs.length
  ·have ha1:(a:Int) < X.evs.length:=by omega
   have hwa:=succ_wrap (k:=a) (by omega)
   have hp:=ev_part ha'
   have hs:=kindK_succ X (kindQ k f t) a
   have hset:=fun x => matC_set (n:=X.evs.length) (M:=kindK X (kindQ k f t) a) (a:=a) (b:=a) (x:=x) (by omega)
   generalize X.evs.getD a ev0 = ev at hp hs
   obtain ⟨th,kd,md,lc,vl,ex⟩:=ev
   have hq:kindQ k f t ⟨th,kd,md,lc,vl,ex⟩ = (kd == k && (decide (f≤md) && decide (md≤t))):=rfl
   have fin:∀ x,x = kindQ k f t ⟨th,kd,md,lc,vl,ex⟩→X.evs.length - (a + 1) < X.evs.length - a∧upd2 (kindK X (kindQ k f t) a) a a x = kindK X (kindQ k f t) (a + 1):=fun x hx => ⟨by omega,by rw[hx,hs]⟩
   cases c1:(kd == k)
   case false =>
    simp (disch:=omega) only[wp,qa,qb,qc,gl,ml,e1,e2,e3,e4,e9,e10,hg,hm,ha1,hp,s6,c1,hset,hwa]
    obtain ⟨f1,f2⟩:=fin false (by rw[hq,c1];rfl)
    exact ⟨_,f1,a + 1,rfl,by omega,rfl,by rw[f2],by first | omega | (dsimp only;omega)⟩
   by_cases c2:f≤md
   case neg =>
    simp (disch:=omega) only[wp,qa,qb,qc,gl,ml,e1,e2,e3,e4,e9,e10,hg,hm,ha1,hp,s6,c1,c2,hset,hwa]
    obtain ⟨f1,f2⟩:=fin false (by rw[hq,c1,decide_eq_false c2];rfl)
    exact ⟨_,f1,a + 1,rfl,by omega,rfl,by rw[f2],by first | omega | (dsimp only;omega)⟩
   simp (disch:=omega) only[wp,qa,qb,qc,gl,ml,e1,e2,e3,e4,e9,e10,hg,hm,ha1,hp,s6,c1,c2,hset,hwa]
   obtain ⟨f1,f2⟩:=fin (decide (md≤t)) (by rw[hq,c1,decide_eq_true c2];simp)
   exact ⟨_,f1,a + 1,rfl,by omega,rfl,by rw[f2],by first | omega | (dsimp only;omega)⟩
  ·obtain rfl:a = X.evs.length:=by omega
   have ha1:¬ ((X.evs.length:Int) < X.evs.length):=by omega
   simp (disch:=omega) only[wp,qa,qb,qc,gl,ml,e1,e2,e3,e4,e9,e10,hg,hm,ha1]
   exact ⟨_,rfl,hm⟩
structure RefF (F:Funs):Prop where
 px:Pk_xref01 F
 star:F 231 = some A_xref01_R_Star
 p9:Pk_xref09 F
 p6:Pk_xref06 F
 kind:F 225 = some A_xref06_Kind
 of:F 223 = some A_xref06_Of
section
variable (S:RefF F) {X:Gr} (h:GraphOk X)
include S h
theorem RefF.k (k f t:Int):pureS F 225 [.agg (grC X),.i .i64 k,.i .i64 f,.i .i64 t] = some (.ptr (matC X.evs.length (kindK X (kindQ k f t) X.evs.length))):=sp_kind S.kind S.px.xref01_New h.n40 k f t
theorem RefF.ofL (l:List (Int × Int)) (hl:l.length≤1000) (t:Tok):pureS F 223 [.agg (grC X),.sl (pairsC l) l.length t] = some (.ptr (matC X.evs.length (newM X.evs.length l))):=by
 refine pure_of S.of ?_
 have n40:=h.n40
 have d2:=sp_newM S.px.xref01_New (X.evs.length:Int) l .non (by omega)
 rw[show clamp (X.evs.length:Int) = X.evs.length by unfold clamp;omega] at d2
 simp (disch:=omega) only[A_xref06_Of,wp,qa,qb,qc,gl,d2]
theorem RefF.st (A:Mx):pureS F 231 [.ptr (matC X.evs.length A)] = some (.ptr (matC X.evs.length (mbM (plM X.evs.length A X.evs.length) X.evs.length))):=by
 refine pure_of S.star ?_
 simp (disch:=omega) only[A_xref01_R_Star,wp,qa,qb,qc,gl,sp_mplus S.px.xref01_R_Plus S.px.xref01_New h.n40,sp_mmaybe S.px.xref01_R_Maybe S.px.xref01_New h.n40]
theorem RefF.rf:pureS F 69 [.agg (grC X)] = some (.ptr (matC X.evs.length (anyM (rfL X X.rf.length)))):=by
 have n40:=h.n40
 have hrl:=h.rfl
 exact sp_mRf S.p9.xref09_Rf S.px.xref01_New (X:=X) n40 (by omega) (fun i hi => by have:=(h.rfr i (by omega)).2;omega)
theorem RefF.po:pureS F 84 [.agg (grC X)] = some (.ptr (matC X.evs.length (mpoM X))):=sp_mPo S.p6.xref06_Po S.px.xref01_New h.n40
theorem RefF.loc:pureS F 73 [.agg (grC X)] = some (.ptr (matC X.evs.length (locM X))):=sp_mLoc S.p9.xref09_Loc S.p6.xref06_Po S.px.xref01_New h.n40
theorem RefF.inner (A:Mx):pureS F 74 [.agg (grC X),.ptr (matC X.evs.length A)] = some (.ptr (matC X.evs.length (prtM X true A))):=sp_mInner S.p9.xref09_Inner S.p9.xref09_part S.px.xref01_New h.n40 A
theorem RefF.outer (A:Mx):pureS F 75 [.agg (grC X),.ptr (matC X.evs.length A)] = some (.ptr (matC X.evs.length (prtM X false A))):=sp_mOuter S.p9.xref09_Outer S.p9.xref09_part S.px.xref01_New h.n40 A
theorem RefF.then (A B:Mx):pureS F 32 [.ptr (matC X.evs.length A),.ptr (matC X.evs.length B)] = some (.ptr (matC X.evs.length (thM A B X.evs.length X.evs.length))):=by
 have:=sp_mthen S.px.xref01_R_Then S.px.xref01_New h.n40 h.n40 A B
 rwa [Nat.max_self] at this
theorem RefF.or (A B:Mx):pureS F 29 [.ptr (matC X.evs.length A),.ptr (matC X.evs.length B)] = some (.ptr (matC X.evs.length (opM (fun x y => x || y) A B X.evs.length))):=by
 have:=sp_mor S.px.xref01_R_Or S.px.xref01_New h.n40 h.n40 A B
 rwa [Nat.max_self] at this
theorem RefF.and (A B:Mx):pureS F 30 [.ptr (matC X.evs.length A),.ptr (matC X.evs.length B)] = some (.ptr (matC X.evs.length (opM (fun x y => x && y) A B X.evs.length))):=by
 have:=sp_mand S.px.xref01_R_And S.px.xref01_New h.n40 h.n40 A B
 rwa [Nat.max_self] at this
theorem RefF.plus (A:Mx):pureS F 34 [.ptr (matC X.evs.length A)] = some (.ptr (matC X.evs.length (plM X.evs.length A X.evs.length))):=sp_mplus S.px.xref01_R_Plus S.px.xref01_New h.n40 A
end
section
variable {X:Gr} (h:GraphOk X)
include h
end
section
variable (S:RefF F) (p10:Pk_xref10 F) {X:Gr} (h:GraphOk X)
include S p10 h
end
end Go.Ab
end
section
namespace Go.Ab
def A_xref19_Parts:AFun:={ res:=[.cell 2 (some 4)],body:=(.seq (.reg false [qo 1 (.box (.t 0)),qo 2 (.new (List.replicate 4 (.nilp)))])
 (.seq (.reg false [qo 12 (.ld (some 8) (.t 1)),qo 13 (.call .pure (.c (.fn 222 [] [])) [.t 12]),qm 3 13])
 (.seq (.reg false [qo 14 (.ld (some 8) (.t 1)),qo 15 (.fa 5 (.t 1)),qo 16 (.ld none (.t 15)),qo 17 (.call .pure (.c (.fn 223 [] [])) [.t 14,.t 16]),qm 4 17])
 (.seq (.reg true [qo 18 (.ld (some 8) (.t 1)),qo 19 (.fa 6 (.t 1)),qo 20 (.ld none (.t 19)),qo 21 (.call .pure (.c (.fn 223 [] [])) [.t 18,.t 20]),qm 22 3,qo 23 (.call .pure (.c (.fn 32 [] [])) [.t 21,.t 22]),qo 24 (.ld (some 8) (.t 1)),qo 25 (.fa 7 (.t 1)),qo 26 (.ld none (.t 25)),qo 27 (.call .pure (.c (.fn 223 [] [])) [.t 24,.t 26]),qm 28 3,qo 29 (.call .pure (.c (.fn 32 [] [])) [.t 27,.t 28]),qm 5 23,qm 6 29])
 (.seq (.reg true [qo 30 (.ld (some 8) (.t 1)),qo 31 (.ld (some 8) (.t 1)),qo 32 (.call .pure (.c (.fn 69 [] [])) [.t 31]),qo 33 (.call .pure (.c (.fn 74 [] [])) [.t 30,.t 32]),qm 7 33])
 (.seq (.reg false [qo 34 (.fa 1 (.t 1)),qo 35 (.ld none (.t 34)),qo 36 (.len (.t 35)),qo 37 (.call .pure (.c (.fn 27 [] [])) [.t 36,.c (.sl [] 0 .rig)]),qm 8 37])
 (.seq (.reg true [qm 38 4,qo 39 (.ld (some 8) (.t 1)),qo 40 (.call .pure (.c (.fn 174 [] [])) [.t 39]),qo 41 (.call .pure (.c (.fn 29 [] [])) [.t 38,.t 40]),qm 42 7,qo 43 (.call .pure (.c (.fn 29 [] [])) [.t 41,.t 42]),qm 44 8,qm 45 6,qo 46 (.ld (some 8) (.t 1)),qo 47 (.call .pure (.c (.fn 175 [] [])) [.t 46]),qo 48 (.call .pure (.c (.fn 29 [] [])) [.t 45,.t 47]),qm 49 4,qo 50 (.ld (some 8) (.t 1)),qo 51 (.call .pure (.c (.fn 224 [] [])) [.t 50]),qo 52 (.call .pure (.c (.fn 29 [] [])) [.t 49,.t 51]),qm 53 5,qo 54 (.call .pure (.c (.fn 29 [] [])) [.t 52,.t 53]),qo 55 (.build (List.replicate 4 (.nilp)) [(0,1,.t 43),(1,1,.t 44),(2,1,.t 48),(3,1,.t 54)]),qo 9 (.new (List.replicate 4 (.nilp))),qnp (.stL 4 (.t 9) (.t 55)) [18]])
 (.seq (.reg false [qo 56 (.ld (some 4) (.t 9)),qo 10 (.new (List.replicate 4 (.nilp))),qn (.st 4 (.t 10) (.t 56))])
 (.blk 0 (.loop (.blk 1 (.seq (.reg true [qo 57 (.fa 0 (.t 9)),qo 58 (.ld none (.t 57)),qo 59 (.fa 2 (.t 10)),qo 60 (.ld none (.t 59)),qo 61 (.call .pure (.c (.fn 29 [] [])) [.t 58,.t 60]),qo 62 (.fa 1 (.t 10)),qo 63 (.ld none (.t 62)),qo 64 (.fa 2 (.t 10)),qo 65 (.ld none (.t 64)),qo 66 (.call .pure (.c (.fn 32 [] [])) [.t 63,.t 65]),qo 67 (.call .pure (.c (.fn 29 [] [])) [.t 61,.t 66]),qo 68 (.fa 0 (.t 10)),qo 69 (.ld none (.t 68)),qo 70 (.fa 0 (.t 10)),qo 71 (.ld none (.t 70)),qo 72 (.call .pure (.c (.fn 32 [] [])) [.t 69,.t 71]),qo 73 (.call .pure (.c (.fn 29 [] [])) [.t 67,.t 72]),qo 74 (.fa 0 (.t 10)),qo 75 (.ld none (.t 74)),qo 76 (.fa 3 (.t 10)),qo 77 (.ld none (.t 76)),qo 78 (.call .pure (.c (.fn 29 [] [])) [.t 75,.t 77]),qo 79 (.fa 1 (.t 10)),qo 80 (.ld none (.t 79)),qo 81 (.fa 3 (.t 10)),qo 82 (.ld none (.t 81)),qo 83 (.call .pure (.c (.fn 32 [] [])) [.t 80,.t 82]),qo 84 (.call .pure (.c (.fn 29 [] [])) [.t 78,.t 83]),qo 85 (.fa 0 (.t 10)),qo 86 (.ld none (.t 85)),qo 87 (.fa 1 (.t 10)),qo 88 (.ld none (.t 87)),qo 89 (.call .pure (.c (.fn 32 [] [])) [.t 86,.t 88]),qo 90 (.call .pure (.c (.fn 29 [] [])) [.t 84,.t 89]),qo 91 (.fa 2 (.t 9)),qo 92 (.ld none (.t 91)),qo 93 (.fa 2 (.t 10)),qo 94 (.ld none (.t 93)),qo 95 (.fa 0 (.t 10)),qo 96 (.ld none (.t 95)),qo 97 (.call .pure (.c (.fn 32 [] [])) [.t 94,.t 96]),qo 98 (.call .pure (.c (.fn 29 [] [])) [.t 92,.t 97]),qo 99 (.fa 3 (.t 10)),qo 100 (.ld none (.t 99)),qo 101 (.fa 2 (.t 10)),qo 102 (.ld none (.t 101)),qo 103 (.call .pure (.c (.fn 32 [] [])) [.t 100,.t 102]),qo 104 (.call .pure (.c (.fn 29 [] [])) [.t 98,.t 103]),qo 105 (.fa 3 (.t 9)),qo 106 (.ld none (.t 105)),qo 107 (.fa 2 (.t 10)),qo 108 (.ld none (.t 107)),qo 109 (.call .pure (.c (.fn 29 [] [])) [.t 106,.t 108]),qo 110 (.fa 2 (.t 10)),qo 111 (.ld none (.t 110)),qo 112 (.fa 1 (.t 10)),qo 113 (.ld none (.t 112)),qo 114 (.call .pure (.c (.fn 32 [] [])) [.t 111,.t 113]),qo 115 (.call .pure (.c (.fn 29 [] [])) [.t 109,.t 114]),qo 116 (.fa 3 (.t 10)),qo 117 (.ld none (.t 116)),qo 118 (.fa 3 (.t 10)),qo 119 (.ld none (.t 118)),qo 120 (.call .pure (.c (.fn 32 [] [])) [.t 117,.t 119]),qo 121 (.call .pure (.c (.fn 29 [] [])) [.t 115,.t 120]),qo 122 (.build (List.replicate 4 (.nilp)) [(0,1,.t 73),(1,1,.t 90),(2,1,.t 104),(3,1,.t 121)]),qo 11 (.new (List.replicate 4 (.nilp))),qnp (.stL 4 (.t 11) (.t 122)) [66]])
 (.seq (.reg true [qo 123 (.fa 0 (.t 11)),qo 124 (.ld none (.t 123)),qo 125 (.fa 0 (.t 10)),qo 126 (.ld none (.t 125)),qo 127 (.call .pure (.c (.fn 29 [] [])) [.t 124,.t 126]),qo 128 (.fa 1 (.t 11)),qo 129 (.ld none (.t 128)),qo 130 (.fa 1 (.t 10)),qo 131 (.ld none (.t 130)),qo 132 (.call .pure (.c (.fn 29 [] [])) [.t 129,.t 131]),qo 133 (.fa 2 (.t 11)),qo 134 (.ld none (.t 133)),qo 135 (.fa 2 (.t 10)),qo 136 (.ld none (.t 135)),qo 137 (.call .pure (.c (.fn 29 [] [])) [.t 134,.t 136]),qo 138 (.fa 3 (.t 11)),qo 139 (.ld none (.t 138)),qo 140 (.fa 3 (.t 10)),qo 141 (.ld none (.t 140)),qo 142 (.call .pure (.c (.fn 29 [] [])) [.t 139,.t 141]),qo 143 (.build (List.replicate 4 (.nilp)) [(0,1,.t 127),(1,1,.t 132),(2,1,.t 137),(3,1,.t 142)]),qn (.st 4 (.t 11) (.t 143))])
 (.seq (.seq (.reg false [qo 144 (.fa 0 (.t 11)),qo 145 (.ld none (.t 144)),qo 146 (.fa 0 (.t 10)),qo 147 (.ld none (.t 146)),qo 148 (.call .pure (.c (.fn 36 [] [])) [.t 145,.t 147]),qm 149 148,qg 150 (.fa 1 (.t 11)) 149 true,qg 151 (.ld none (.t 150)) 149 true,qg 152 (.fa 1 (.t 10)) 149 true,qg 153 (.ld none (.t 152)) 149 true,qg 154 (.call .pure (.c (.fn 36 [] [])) [.t 151,.t 153]) 149 true,qo 155 (.pick (.t 149) (.t 154) (.c (.b false))),qm 156 155,qg 157 (.fa 2 (.t 11)) 156 true,qg 158 (.ld none (.t 157)) 156 true,qg 159 (.fa 2 (.t 10)) 156 true,qg 160 (.ld none (.t 159)) 156 true,qg 161 (.call .pure (.c (.fn 36 [] [])) [.t 158,.t 160]) 156 true,qo 162 (.pick (.t 156) (.t 161) (.c (.b false))),qm 163 162,qg 164 (.fa 3 (.t 11)) 163 true,qg 165 (.ld none (.t 164)) 163 true,qg 166 (.fa 3 (.t 10)) 163 true,qg 167 (.ld none (.t 166)) 163 true,qg 168 (.call .pure (.c (.fn 36 [] [])) [.t 165,.t 167]) 163 true,qo 169 (.pick (.t 163) (.t 168) (.c (.b false)))])
 (.cond (.t 169) (.seq (.reg false [qo 170 (.ld (some 4) (.t 11)),qn (.st 4 (.t 2) (.t 170))])
 .ret)
 .skip))
 (.reg false [qo 171 (.ld (some 4) (.t 11)),qn (.st 4 (.t 10) (.t 171))]))))))))))))))) }
def A_xref19_Ppo:AFun:={ res:=[.t 2],body:=(.seq (.reg false [qo 1 (.box (.t 0)),qo 2 (.mv (.c (.nilp)))])
 (.seq (.reg false [qo 6 (.ld (some 8) (.t 1)),qo 7 (.call .pure (.c (.fn 171 [] [])) [.t 6]),qo 3 (.new (List.replicate 4 (.nilp))),qn (.st 4 (.t 3) (.t 7))])
 (.seq (.reg true [qo 8 (.ld (some 8) (.t 1)),qo 9 (.call .pure (.c (.fn 225 [] [])) [.t 8,.c (.i .i64 1),.c (.i .i64 0),.c (.i .i64 4)]),qo 10 (.ld (some 8) (.t 1)),qo 11 (.call .pure (.c (.fn 225 [] [])) [.t 10,.c (.i .i64 2),.c (.i .i64 0),.c (.i .i64 4)]),qm 4 9,qm 5 11])
 (.seq (.reg true [qm 12 4,qo 13 (.fa 0 (.t 3)),qo 14 (.ld none (.t 13)),qo 15 (.call .pure (.c (.fn 32 [] [])) [.t 12,.t 14]),qm 16 4,qo 17 (.call .pure (.c (.fn 32 [] [])) [.t 15,.t 16]),qm 18 4,qo 19 (.fa 1 (.t 3)),qo 20 (.ld none (.t 19)),qo 21 (.call .pure (.c (.fn 32 [] [])) [.t 18,.t 20]),qm 22 5,qo 23 (.call .pure (.c (.fn 32 [] [])) [.t 21,.t 22]),qo 24 (.call .pure (.c (.fn 29 [] [])) [.t 17,.t 23]),qm 2 24])
 .ret)))) }
def A_xref19_Rdw:AFun:={ res:=[.t 2],body:=(.seq (.reg false [qo 1 (.box (.t 0)),qo 2 (.mv (.c (.nilp)))])
 (.seq (.reg true [qo 3 (.ld (some 8) (.t 1)),qo 4 (.call .pure (.c (.fn 224 [] [])) [.t 3]),qo 5 (.ld (some 8) (.t 1)),qo 6 (.call .pure (.c (.fn 226 [] [])) [.t 5]),qo 7 (.ld (some 8) (.t 1)),qo 8 (.call .pure (.c (.fn 227 [] [])) [.t 7]),qo 9 (.call .pure (.c (.fn 32 [] [])) [.t 6,.t 8]),qo 10 (.call .pure (.c (.fn 30 [] [])) [.t 4,.t 9]),qm 2 10])
 .ret)) }
def A_xref19_Detour:AFun:={ res:=[.t 2],body:=(.seq (.reg false [qo 1 (.box (.t 0)),qo 2 (.mv (.c (.nilp)))])
 (.seq (.reg true [qo 3 (.ld (some 8) (.t 1)),qo 4 (.call .pure (.c (.fn 224 [] [])) [.t 3]),qo 5 (.ld (some 8) (.t 1)),qo 6 (.call .pure (.c (.fn 228 [] [])) [.t 5]),qo 7 (.ld (some 8) (.t 1)),qo 8 (.call .pure (.c (.fn 227 [] [])) [.t 7]),qo 9 (.call .pure (.c (.fn 32 [] [])) [.t 6,.t 8]),qo 10 (.call .pure (.c (.fn 30 [] [])) [.t 4,.t 9]),qm 2 10])
 .ret)) }
def A_xref19_M:AFun:={ res:=[.t 2],body:=(.seq (.reg false [qo 1 (.box (.t 0)),qo 2 (.mv (.c (.nilp)))])
 (.seq (.reg true [qo 3 (.ld (some 8) (.t 1)),qo 4 (.call .pure (.c (.fn 225 [] [])) [.t 3,.c (.i .i64 1),.c (.i .i64 0),.c (.i .i64 4)]),qo 5 (.ld (some 8) (.t 1)),qo 6 (.call .pure (.c (.fn 225 [] [])) [.t 5,.c (.i .i64 2),.c (.i .i64 0),.c (.i .i64 4)]),qo 7 (.call .pure (.c (.fn 29 [] [])) [.t 4,.t 6]),qm 2 7])
 .ret)) }
def A_xref19_Ploc:AFun:={ res:=[.t 2],body:=(.seq (.reg false [qo 1 (.box (.t 0)),qo 2 (.mv (.c (.nilp)))])
 (.seq (.reg true [qo 3 (.ld (some 8) (.t 1)),qo 4 (.ld (some 8) (.t 1)),qo 5 (.call .pure (.c (.fn 73 [] [])) [.t 4]),qo 6 (.call .pure (.c (.fn 247 [] [])) [.t 3,.t 5]),qm 2 6])
 .ret)) }
def A_xref19_fre:AFun:={ res:=[.t 2],body:=(.seq (.reg false [qo 1 (.box (.t 0)),qo 2 (.mv (.c (.nilp)))])
 (.seq (.reg true [qo 3 (.ld (some 8) (.t 1)),qo 4 (.ld (some 8) (.t 1)),qo 5 (.call .pure (.c (.fn 71 [] [])) [.t 4]),qo 6 (.call .pure (.c (.fn 75 [] [])) [.t 3,.t 5]),qm 2 6])
 .ret)) }
def A_xref19_rfe:AFun:={ res:=[.t 2],body:=(.seq (.reg false [qo 1 (.box (.t 0)),qo 2 (.mv (.c (.nilp)))])
 (.seq (.reg true [qo 3 (.ld (some 8) (.t 1)),qo 4 (.ld (some 8) (.t 1)),qo 5 (.call .pure (.c (.fn 69 [] [])) [.t 4]),qo 6 (.call .pure (.c (.fn 75 [] [])) [.t 3,.t 5]),qm 2 6])
 .ret)) }
def A_xref19_coe:AFun:={ res:=[.t 2],body:=(.seq (.reg false [qo 1 (.box (.t 0)),qo 2 (.mv (.c (.nilp)))])
 (.seq (.reg true [qo 3 (.ld (some 8) (.t 1)),qo 4 (.ld (some 8) (.t 1)),qo 5 (.call .pure (.c (.fn 70 [] [])) [.t 4]),qo 6 (.call .pure (.c (.fn 75 [] [])) [.t 3,.t 5]),qm 2 6])
 .ret)) }
def A_xref19_Mine:AFun:={ res:=[.t 4],body:=(.seq (.reg false [qo 2 (.box (.t 0)),qo 4 (.mv (.c (.nilp)))])
 (.seq (.reg false [qm 8 1,qo 9 (.nilck (.t 8)),qo 10 (.fa 0 (.t 9)),qo 11 (.ld none (.t 10)),qo 12 (.call .thaw (.c (.fn 27 [] [])) [.t 11,.c (.sl [] 0 .rig)]),qm 5 12])
 (.seq (.seq (.reg false [qo 6 (.mv (.c (.i .i64 0)))])
 (.blk 0 (.loop (.seq (.seq (.reg false [qm 13 6,qm 14 1,qo 15 (.nilck (.t 14)),qo 16 (.fa 0 (.t 15)),qo 17 (.ld none (.t 16)),qo 18 (.bin .lss (.t 13) (.t 17))])
 (.cond (.t 18) .skip
 (.ext 0)))
 (.seq (.blk 1 (.seq (.reg false [qo 7 (.mv (.c (.i .i64 0)))])
 (.blk 2 (.loop (.seq (.seq (.reg false [qm 21 7,qm 22 1,qo 23 (.nilck (.t 22)),qo 24 (.fa 0 (.t 23)),qo 25 (.ld none (.t 24)),qo 26 (.bin .lss (.t 21) (.t 25))])
 (.cond (.t 26) .skip
 (.ext 2)))
 (.seq (.blk 3 (.reg true [qm 29 5,qm 30 6,qm 31 7,qm 32 1,qm 33 6,qm 34 7,qo 35 (.nilck (.t 32)),qo 36 (.fa 1 (.t 35)),qo 37 (.iaa 40 40 (.t 36) (.t 33)),qo 38 (.iaa 40 1 (.t 37) (.t 34)),qo 39 (.ld none (.t 38)),qm 40 39,qg 41 (.fa 1 (.t 2)) 40 true,qg 42 (.ld none (.t 41)) 40 true,qg 43 (.mv (.t 6)) 40 true,qg 44 (.ia 6 (.t 42) (.t 43)) 40 true,qg 45 (.fa 0 (.t 44)) 40 true,qg 46 (.ld none (.t 45)) 40 true,qg 47 (.bin .gtr (.t 46) (.c (.i .i64 0))) 40 true,qo 48 (.pick (.t 40) (.t 47) (.c (.b false))),qm 49 48,qg 50 (.fa 1 (.t 2)) 49 true,qg 51 (.ld none (.t 50)) 49 true,qg 52 (.mv (.t 6)) 49 true,qg 53 (.ia 6 (.t 51) (.t 52)) 49 true,qg 54 (.fa 0 (.t 53)) 49 true,qg 55 (.ld none (.t 54)) 49 true,qg 56 (.fa 1 (.t 2)) 49 true,qg 57 (.ld none (.t 56)) 49 true,qg 58 (.mv (.t 7)) 49 true,qg 59 (.ia 6 (.t 57) (.t 58)) 49 true,qg 60 (.fa 0 (.t 59)) 49 true,qg 61 (.ld none (.t 60)) 49 true,qg 62 (.bin .eql (.t 55) (.t 61)) 49 true,qo 63 (.pick (.t 49) (.t 62) (.c (.b false))),qo 64 (.nilck (.t 29)),qo 65 (.fa 1 (.t 64)),qo 66 (.iaa 40 40 (.t 65) (.t 30)),qo 67 (.iaa 40 1 (.t 66) (.t 31)),qn (.st 1 (.t 67) (.t 63))]))
 (.reg false [qm 27 7,qo 28 (.bin .add (.t 27) (.c (.i .i64 1))),qm 7 28])))))))
 (.reg false [qm 19 6,qo 20 (.bin .add (.t 19) (.c (.i .i64 1))),qm 6 20]))))))
 (.seq (.reg false [qm 68 5,qm 4 68])
 .ret)))) }
structure Pk_xref19 (F:Funs):Prop where
 xref19_Parts:F 171 = some A_xref19_Parts
 xref19_Ppo:F 173 = some A_xref19_Ppo
 xref19_Rdw:F 174 = some A_xref19_Rdw
 xref19_Detour:F 175 = some A_xref19_Detour
 xref19_M:F 222 = some A_xref19_M
 xref19_Ploc:F 224 = some A_xref19_Ploc
 xref19_fre:F 226 = some A_xref19_fre
 xref19_rfe:F 227 = some A_xref19_rfe
 xref19_coe:F 228 = some A_xref19_coe
 xref19_Mine:F 247 = some A_xref19_Mine
end Go.Ab
end
section
set_option linter.unusedVariables false
set_option linter.unusedSimpArgs false
namespace Go.Ab
variable {F:Funs}
theorem RefF.co (S:RefF F) {X:Gr} (hX:FewG X) (h:GraphOk X):pureS F 70 [.agg (grC X)] = some (.ptr (matC X.evs.length (anyM (coX X X.co.length)))):=
 sp_mCo S.p9.xref09_Co S.px.xref01_New (X:=X) h.n40 (by have:=hX.co;omega) (fun j hj => by
  have hm:X.co.getD j []∈X.co:=by
   rw[List.getD_eq_getElem?_getD,List.getElem?_eq_getElem hj];exact List.getElem_mem hj
  have:=hX.cos _ hm
  have n40:=h.n40
  exact ⟨by omega,fun i hi => by have:=h.cor j hj i hi;omega⟩)
theorem RefF.fr (S:RefF F) {X:Gr} (hX:FewG X) (h:GraphOk X):pureS F 71 [.agg (grC X)] = some (.ptr (matC X.evs.length (frM X.evs.length (anyM (rfL X X.rf.length)) (anyM (coX X X.co.length))))):=
 sp_mFr S.p9.xref09_Fr S.px.xref01_New S.px.xref01_R_Then S.px.xref01_R_Back h.n40 (S.rf h) (S.co hX h)
section
variable {X:Gr} (h:GraphOk X)
include h
end
section
variable {X:Gr} (h:GraphOk X)
include h
end
section
variable (S:RefF F) (p:Pk_xref19 F) {X:Gr} (hX:FewG X) (h:GraphOk X)
include S p hX h
end
end Go.Ab
end
section
namespace Go.Ab
def A_xref11_Bob:AFun:={ res:=[.t 2],body:=(.seq (.reg false [qo 1 (.box (.t 0)),qo 2 (.mv (.c (.nilp)))])
 (.seq (.reg true [qo 6 (.ld (some 8) (.t 1)),qo 7 (.call .pure (.c (.fn 84 [] [])) [.t 6]),qo 8 (.ld (some 8) (.t 1)),qo 9 (.call .pure (.c (.fn 225 [] [])) [.t 8,.c (.i .i64 3),.c (.i .i64 1),.c (.i .i64 4)]),qm 3 7,qm 4 9])
 (.seq (.reg true [qm 10 3,qo 11 (.ld (some 8) (.t 1)),qo 12 (.call .pure (.c (.fn 232 [] [])) [.t 11]),qo 13 (.call .pure (.c (.fn 32 [] [])) [.t 10,.t 12]),qo 14 (.ld (some 8) (.t 1)),qo 15 (.call .pure (.c (.fn 234 [] [])) [.t 14]),qm 16 3,qo 17 (.call .pure (.c (.fn 32 [] [])) [.t 15,.t 16]),qo 18 (.call .pure (.c (.fn 29 [] [])) [.t 13,.t 17]),qm 19 3,qm 20 4,qo 21 (.call .pure (.c (.fn 32 [] [])) [.t 19,.t 20]),qo 22 (.call .pure (.c (.fn 29 [] [])) [.t 18,.t 21]),qm 23 4,qm 24 3,qo 25 (.call .pure (.c (.fn 32 [] [])) [.t 23,.t 24]),qo 26 (.call .pure (.c (.fn 29 [] [])) [.t 22,.t 25]),qm 5 26])
 (.seq (.reg true [qm 27 5,qo 28 (.ld (some 8) (.t 1)),qo 29 (.call .pure (.c (.fn 232 [] [])) [.t 28]),qo 30 (.ld (some 8) (.t 1)),qo 31 (.call .pure (.c (.fn 73 [] [])) [.t 30]),qo 32 (.call .pure (.c (.fn 32 [] [])) [.t 29,.t 31]),qo 33 (.ld (some 8) (.t 1)),qo 34 (.call .pure (.c (.fn 230 [] [])) [.t 33]),qo 35 (.call .pure (.c (.fn 32 [] [])) [.t 32,.t 34]),qo 36 (.call .pure (.c (.fn 29 [] [])) [.t 27,.t 35]),qm 2 36])
 .ret)))) }
def A_xref11_Deps:AFun:={ res:=[.t 2],body:=(.seq (.reg false [qo 1 (.box (.t 0)),qo 2 (.mv (.c (.nilp)))])
 (.seq (.reg true [qo 6 (.ld (some 8) (.t 1)),qo 7 (.fa 5 (.t 1)),qo 8 (.ld none (.t 7)),qo 9 (.call .pure (.c (.fn 223 [] [])) [.t 6,.t 8]),qo 10 (.ld (some 8) (.t 1)),qo 11 (.fa 6 (.t 1)),qo 12 (.ld none (.t 11)),qo 13 (.call .pure (.c (.fn 223 [] [])) [.t 10,.t 12]),qo 14 (.call .pure (.c (.fn 29 [] [])) [.t 9,.t 13]),qm 3 14])
 (.seq (.reg false [qo 15 (.fa 1 (.t 1)),qo 16 (.ld none (.t 15)),qo 17 (.len (.t 16)),qo 18 (.call .thaw (.c (.fn 27 [] [])) [.t 17,.c (.sl [] 0 .rig)]),qm 4 18])
 (.seq (.seq (.reg false [qo 5 (.mv (.c (.i .i64 0)))])
 (.blk 0 (.loop (.seq (.seq (.reg false [qm 19 5,qo 20 (.fa 1 (.t 1)),qo 21 (.ld none (.t 20)),qo 22 (.len (.t 21)),qo 23 (.bin .lss (.t 19) (.t 22))])
 (.cond (.t 23) .skip
 (.ext 0)))
 (.seq (.blk 1 (.reg true [qm 26 4,qm 27 5,qm 28 5,qo 29 (.fa 1 (.t 1)),qo 30 (.ld none (.t 29)),qm 31 5,qo 32 (.ia 6 (.t 30) (.t 31)),qo 33 (.fa 1 (.t 32)),qo 34 (.ld none (.t 33)),qo 35 (.bin .eql (.t 34) (.c (.i .i64 1))),qm 36 35,qg 37 (.fa 1 (.t 1)) 36 true,qg 38 (.ld none (.t 37)) 36 true,qg 39 (.mv (.t 5)) 36 true,qg 40 (.ia 6 (.t 38) (.t 39)) 36 true,qg 41 (.fa 5 (.t 40)) 36 true,qg 42 (.ld none (.t 41)) 36 true,qo 43 (.pick (.t 36) (.t 42) (.c (.b false))),qo 44 (.nilck (.t 26)),qo 45 (.fa 1 (.t 44)),qo 46 (.iaa 40 40 (.t 45) (.t 27)),qo 47 (.iaa 40 1 (.t 46) (.t 28)),qn (.st 1 (.t 47) (.t 43))]))
 (.reg false [qm 24 5,qo 25 (.bin .add (.t 24) (.c (.i .i64 1))),qm 5 25]))))))
 (.seq (.imm 4 (.reg false [qm 48 3,qm 49 4,qo 50 (.ld (some 8) (.t 1)),qo 51 (.call .pure (.c (.fn 84 [] [])) [.t 50]),qo 52 (.call .pure (.c (.fn 32 [] [])) [.t 49,.t 51]),qo 53 (.call .pure (.c (.fn 29 [] [])) [.t 48,.t 52]),qm 2 53]))
 .ret))))) }
def A_xref11_Ppo:AFun:={ res:=[.t 2],body:=(.seq (.reg false [qo 1 (.box (.t 0)),qo 2 (.mv (.c (.nilp)))])
 (.seq (.reg false [qo 5 (.ld (some 8) (.t 1)),qo 6 (.call .pure (.c (.fn 225 [] [])) [.t 5,.c (.i .i64 1),.c (.i .i64 0),.c (.i .i64 1)]),qm 3 6])
 (.seq (.reg true [qo 7 (.ld (some 8) (.t 1)),qo 8 (.ld (some 8) (.t 1)),qo 9 (.call .pure (.c (.fn 69 [] [])) [.t 8]),qo 10 (.call .pure (.c (.fn 74 [] [])) [.t 7,.t 9]),qm 4 10])
 (.seq (.reg true [qm 11 3,qo 12 (.ld (some 8) (.t 1)),qo 13 (.call .pure (.c (.fn 256 [] [])) [.t 12]),qm 14 4,qo 15 (.call .pure (.c (.fn 29 [] [])) [.t 13,.t 14]),qo 16 (.call .pure (.c (.fn 34 [] [])) [.t 15]),qo 17 (.call .pure (.c (.fn 32 [] [])) [.t 11,.t 16]),qo 18 (.ld (some 8) (.t 1)),qo 19 (.call .pure (.c (.fn 230 [] [])) [.t 18]),qo 20 (.call .pure (.c (.fn 32 [] [])) [.t 17,.t 19]),qm 2 20])
 .ret)))) }
def A_xref11_Detour:AFun:={ res:=[.t 2],body:=(.seq (.reg false [qo 1 (.box (.t 0)),qo 2 (.mv (.c (.nilp)))])
 (.seq (.reg true [qo 5 (.ld (some 8) (.t 1)),qo 6 (.ld (some 8) (.t 1)),qo 7 (.call .pure (.c (.fn 70 [] [])) [.t 6]),qo 8 (.call .pure (.c (.fn 75 [] [])) [.t 5,.t 7]),qo 9 (.ld (some 8) (.t 1)),qo 10 (.ld (some 8) (.t 1)),qo 11 (.call .pure (.c (.fn 69 [] [])) [.t 10]),qo 12 (.call .pure (.c (.fn 75 [] [])) [.t 9,.t 11]),qm 3 8,qm 4 12])
 (.seq (.reg true [qm 13 3,qm 14 4,qo 15 (.call .pure (.c (.fn 32 [] [])) [.t 13,.t 14]),qo 16 (.ld (some 8) (.t 1)),qo 17 (.call .pure (.c (.fn 84 [] [])) [.t 16]),qo 18 (.call .pure (.c (.fn 30 [] [])) [.t 15,.t 17]),qm 2 18])
 .ret))) }
def A_xref11_Psc:AFun:={ res:=[.t 2],body:=(.seq (.reg false [qo 1 (.box (.t 0)),qo 2 (.mv (.c (.nilp)))])
 (.seq (.reg true [qo 5 (.ld (some 8) (.t 1)),qo 6 (.call .pure (.c (.fn 225 [] [])) [.t 5,.c (.i .i64 3),.c (.i .i64 4),.c (.i .i64 4)]),qo 7 (.ld (some 8) (.t 1)),qo 8 (.call .pure (.c (.fn 185 [] [])) [.t 7]),qm 3 6,qm 4 8])
 (.seq (.reg true [qm 9 3,qm 10 4,qo 11 (.call .pure (.c (.fn 32 [] [])) [.t 9,.t 10]),qo 12 (.ld (some 8) (.t 1)),qo 13 (.call .pure (.c (.fn 72 [] [])) [.t 12]),qo 14 (.call .pure (.c (.fn 32 [] [])) [.t 11,.t 13]),qm 15 4,qo 16 (.call .pure (.c (.fn 32 [] [])) [.t 14,.t 15]),qm 17 3,qo 18 (.call .pure (.c (.fn 32 [] [])) [.t 16,.t 17]),qm 2 18])
 .ret))) }
def A_xref11_Ar:AFun:={ res:=[.t 2],body:=(.seq (.reg false [qo 1 (.box (.t 0)),qo 2 (.mv (.c (.nilp)))])
 (.seq (.reg true [qo 4 (.ld (some 8) (.t 1)),qo 5 (.ld (some 8) (.t 1)),qo 6 (.call .pure (.c (.fn 69 [] [])) [.t 5]),qo 7 (.call .pure (.c (.fn 75 [] [])) [.t 4,.t 6]),qm 3 7])
 (.seq (.reg true [qm 8 3,qo 9 (.ld (some 8) (.t 1)),qo 10 (.call .pure (.c (.fn 255 [] [])) [.t 9]),qo 11 (.call .pure (.c (.fn 29 [] [])) [.t 8,.t 10]),qo 12 (.ld (some 8) (.t 1)),qo 13 (.call .pure (.c (.fn 257 [] [])) [.t 12]),qo 14 (.call .pure (.c (.fn 29 [] [])) [.t 11,.t 13]),qo 15 (.ld (some 8) (.t 1)),qo 16 (.call .pure (.c (.fn 258 [] [])) [.t 15]),qo 17 (.call .pure (.c (.fn 29 [] [])) [.t 14,.t 16]),qo 18 (.ld (some 8) (.t 1)),qo 19 (.call .pure (.c (.fn 259 [] [])) [.t 18]),qo 20 (.call .pure (.c (.fn 29 [] [])) [.t 17,.t 19]),qm 2 20])
 .ret))) }
structure Pk_xref11 (F:Funs):Prop where
 xref11_Bob:F 255 = some A_xref11_Bob
 xref11_Deps:F 256 = some A_xref11_Deps
 xref11_Ppo:F 257 = some A_xref11_Ppo
 xref11_Detour:F 258 = some A_xref11_Detour
 xref11_Psc:F 259 = some A_xref11_Psc
 xref11_Ar:F 260 = some A_xref11_Ar
end Go.Ab
end
section
set_option linter.unusedVariables false
set_option linter.unusedSimpArgs false
namespace Go.Ab
variable {F:Funs}
def r11 (X:Gr):Mx:=opM (fun x y => x || y) (newM X.evs.length X.data) (newM X.evs.length X.ctrl) X.evs.length
theorem EqN.z {n:Nat} (hn:n≤40) {A:Mx} {R:Rw} (h:EqN n A R):EqN n A (orR (newR n []) R):=
 ⟨wf_or (wf_new hn _) h.1,fun a b ha hb' => by
  have hz:=(EqN.new hn []).2 a b ha hb'
  rw[h.2 a b ha hb',hb_or,←hz]
  simp[newM]⟩
section
variable {X:Gr} (h:GraphOk X)
include h
end
section
variable (S:RefF F) (p:Pk_xref11 F) (p10:Pk_xref10 F) {X:Gr} (hX:FewG X) (h:GraphOk X)
include S p p10 hX h
omit S p p10 h in
theorem FewG.l1:X.data.length≤1000∧X.ctrl.length≤1000∧X.rmw.length≤1000:=by
 have h1:=hX.data
 have h2:=hX.ctrl
 have h3:=hX.rmw
 omega
end
end Go.Ab
end
section
set_option linter.unusedVariables false
set_option linter.unusedSimpArgs false
namespace Go.Ab
variable {F:Funs}
theorem splice_s (a:AV) (cs:List AV) (k:Nat) (v w:AV) (vs:List AV):splice (a :: cs) (k + 1) (v :: w :: vs) = a :: splice cs k (v :: w :: vs):=by
 simp only[splice,List.take_succ_cons,List.cons_append,List.length_cons]
 rw[show k + 1 + (vs.length + 1 + 1) = (k + (vs.length + 1 + 1)) + 1 by omega,List.drop_succ_cons]
theorem splice_6 (b1 b2 b3 b4 b5 b6 c1 c2 c3 c4 c5 c6:AV) (cs:List AV):splice (b1 :: b2 :: b3 :: b4 :: b5 :: b6 :: cs) 0 [c1,c2,c3,c4,c5,c6] = c1 :: c2 :: c3 :: c4 :: c5 :: c6 :: cs:=rfl
end Go.Ab
end
section
set_option linter.unusedVariables false
set_option linter.unusedSimpArgs false
namespace Go.Ab
variable {F:Funs}
def aftG (data ctrl:List (Int × Int)):Gr:=⟨2,[⟨0,2,0,0,0,false⟩,⟨0,2,0,1,0,false⟩,⟨1,1,0,0,0,false⟩,⟨1,2,0,1,0,false⟩],[-1,-1,0,-1],[[0],[1,3]],[],data,ctrl,[]⟩
def aftH (h:Int):Gr:=if h = 0 then aftG [(2,3)] [] else if h = 1 then aftG [] [(2,3)] else aftG [] []
theorem aft_few (h:Int):Few (aftH h):=by
 unfold aftH
 have key:∀ d c,Few (aftG d c):=by
  intro d c
  refine ⟨by simp[aftG],by simp[aftG],?_⟩
  intro x hx
  simp only[aftG,List.mem_cons,List.not_mem_nil,or_false] at hx
  rcases hx with rfl | rfl<;>decide
 split
 ·exact key _ _
 ·split<;>exact key _ _
end Go.Ab
end
section
set_option linter.unusedVariables false
set_option linter.unusedSimpArgs false
namespace Go.Ab
variable {F:Funs}
def aftB (b:Bool):Gr:=if b then aftH 0 else aftH 2
theorem so_after (h212:F 212 = some A_xlaw11_after) (b:Bool):pureS F 212 [.b b] = some (.agg (grC (aftB b))):=by
 refine pure_of h212 ?_
 have r5:∀ x:AV,List.replicate 5 x = [x,x,x,x,x]:=fun _ => rfl
 have r4:∀ x:AV,List.replicate 4 x = [x,x,x,x]:=fun _ => rfl
 have r7:∀ x:AV,List.replicate 7 x = [x,x,x,x,x,x,x]:=fun _ => rfl
 have s8:∀ a1 a2 a3 a4 a5 a6 a7 a8 c1 c2 c3 c4 c5 c6 c7 c8:AV,splice [a1,a2,a3,a4,a5,a6,a7,a8] 0 [c1,c2,c3,c4,c5,c6,c7,c8] = [c1,c2,c3,c4,c5,c6,c7,c8]:=fun _ _ _ _ _ _ _ _ _ _ _ _ _ _ _ _ => rfl
 have p8:∀ a1 a2 a3 a4 a5 a6 a7 a8:AV,part [a1,a2,a3,a4,a5,a6,a7,a8] 0 (some 8) = some (.agg [a1,a2,a3,a4,a5,a6,a7,a8]):=fun _ _ _ _ _ _ _ _ => rfl
 cases b
 ·simp (disch:=omega) only[A_xlaw11_after,wp,qa,qb,qc,gl,res_cell,resC,r5,r4,r7,s8,p8,splice_s,splice_6,List.length_set]
  refine frz_d_agg ?_
  show frzL _ (7 + 1) _ = _
  simp only[frzL,frz]
  rfl
 ·simp (disch:=omega) only[A_xlaw11_after,wp,qa,qb,qc,gl,res_cell,resC,r5,r4,r7,s8,p8,splice_s,splice_6,List.length_set]
  refine frz_d_agg ?_
  show frzL _ (7 + 1) _ = _
  simp only[frzL,frz]
  rfl
theorem afb_few (b:Bool):Few (aftB b):=by cases b;exact aft_few 2;exact aft_few 0
theorem afb_1:has (nOf (aftB true)) (oppoR (aftB true)) 2 3 = true:=by decide +kernel
theorem afb_2:has (nOf (aftB true)) (arR (aftB true)) 2 3 = true:=by decide +kernel
theorem afb_3:has (nOf (aftB false)) (arR (aftB false)) 2 3 = false:=by decide +kernel
theorem afb_4:has (nOf (aftB true)) (depsR (aftB true)) 2 3 = true:=by decide +kernel
theorem so_awake (h157:F 157 = some A_xlaw11_awake) (h212:F 212 = some A_xlaw11_after) (S:OrdF F):pureS F 157 [] = some (.b true):=by
 refine pure_of h157 ?_
 have a0:=so_after h212 true
 have a1:=so_after h212 false
 have n0:=nOf_le (aftB true)
 have n1:=nOf_le (aftB false)
 have p0:=so_ppo S (afb_few true) (by decide) (by decide)
 have p1:=so_ar S (afb_few true) (by decide) (by decide) (by decide)
 have p2:=so_ar S (afb_few false) (by decide) (by decide) (by decide)
 have p3:=so_deps S (afb_few true) (by decide) (by decide)
 simp (disch:=omega) only[A_xlaw11_awake,wp,qa,qb,qc,gl,a0,a1,p0,p1,p2,p3,sp_has S.sy.pr n0,sp_has S.sy.pr n1,afb_1,afb_2,afb_3,afb_4]
end Go.Ab
end
section
set_option linter.unusedVariables false
set_option maxRecDepth 100000
namespace Go.Proofs.YthafjhelijmpcaaGreat
open Go.Ab
theorem exF:ExF funs:=⟨rfl,rfl,rfl,rfl,rfl⟩
theorem chF:ChF funs:=⟨exF,rfl,rfl,rfl,rfl,rfl,rfl,rfl⟩
theorem runF:RunF funs:=⟨rfl,rfl,rfl,rfl,rfl,rfl,rfl,rfl,rfl,rfl,rfl,rfl⟩
theorem enF:EnF funs:=⟨chF,runF,rfl,rfl,rfl,rfl,rfl,rfl,rfl,rfl,rfl,rfl,rfl,rfl,rfl⟩
theorem numF:NumF funs:=⟨enF,⟨rfl,rfl,rfl,rfl,rfl,rfl⟩,rfl,rfl,rfl,rfl⟩
theorem ordF:OrdF funs:=⟨pk_order,⟨pk_sync,pk_eco,pk_rel,rfl,rfl,rfl⟩⟩
theorem relLs:RelLs funs:=⟨rfl,rfl,rfl⟩
theorem orderMore_law (l:List Int) (hl:l.length≤Go.maxLen) (pick at':Int) (tl:Tok):pureS funs 472 [.sl (intsC l) l.length tl,.i .i64 pick,.i .i64 at'] = some (.b true):=
 sp_orderMore numF ordF relLs rfl rfl (so_awake rfl rfl ordF) l (by simp only[Go.maxLen] at hl;omega) pick at' tl
end Go.Proofs.YthafjhelijmpcaaGreat
end
