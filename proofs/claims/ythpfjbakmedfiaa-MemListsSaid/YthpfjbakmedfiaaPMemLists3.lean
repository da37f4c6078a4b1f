/- What MemLists rests on, part 3: lemmas, no claim of its own. -/
import Derived.Test.YthpfjbakmedfiaaChecked
import Derived.KernelRfl
import Derived.Test.YthpfjbakmedfiaaPMemLists2
set_option maxRecDepth 100000
set_option maxHeartbeats 16000000
open Nat renaming reduceAdd → qa, reduceMul → qb, reduceSub → qc
section
set_option linter.unusedVariables false
set_option linter.unusedSimpArgs false
namespace Go.Ab
inductive ET where
 | leaf
 | node (v:Option AV) (l r:ET)
noncomputable def ET.get (t:ET):Nat→Option AV:=
 ET.rec (motive:=fun _ => Nat→Option AV) (fun _ => none) (fun v _ _ gl gr n => Nat.rec (motive:=fun _ => Option AV) v (fun m _ => Bool.rec (motive:=fun _ => Option AV) (gr (Nat.div m 2)) (gl (Nat.div m 2)) (Nat.beq (Nat.mod m 2) 0)) n) t
theorem ET.get_succ (v l r) (m:Nat):(ET.node v l r).get (m + 1) = if m % 2 = 0 then l.get (m / 2) else r.get (m / 2):=by
 show Bool.rec (motive:=fun _ => Option AV) (r.get (m / 2)) (l.get (m / 2)) (Nat.beq (m % 2) 0) = _
 cases h:Nat.beq (m % 2) 0 with
 | true => rw[if_pos (Nat.eq_of_beq_eq_true h)]
 | false => rw[if_neg (Nat.ne_of_beq_eq_false h)]
section
variable {α:Type}
noncomputable def ET.putK (v:AV) (fuel:Nat):ET→Nat→(ET→α)→α:=
 Nat.rec (motive:=fun _ => ET→Nat→(ET→α)→α) (fun t _ k => k t)
  (fun _ ih t n k => ET.rec (motive:=fun _ => α)
   (Nat.rec (motive:=fun _ => α) (k (.node (some v) .leaf .leaf)) (fun m _ => Bool.rec (motive:=fun _ => α) (ih .leaf (Nat.div m 2) fun r' => k (.node none .leaf r')) (ih .leaf (Nat.div m 2) fun l' => k (.node none l' .leaf)) (Nat.beq (Nat.mod m 2) 0)) n)
   (fun w l r _ _ => Nat.rec (motive:=fun _ => α) (k (.node (some v) l r)) (fun m _ => Bool.rec (motive:=fun _ => α) (ih r (Nat.div m 2) fun r' => k (.node w l r')) (ih l (Nat.div m 2) fun l' => k (.node w l' r)) (Nat.beq (Nat.mod m 2) 0)) n) t) fuel
theorem ET.putK_ok (v:AV):∀ (fuel:Nat) (t:ET) (n:Nat) (k:ET→α),n < fuel→∃ t',ET.putK v fuel t n k = k t'∧∀ j,t'.get j = if j = n then some v else t.get j
 | 0,_,_,_,h => absurd h (Nat.not_lt_zero _)
 | f + 1,t,0,k,_ => by
   cases t with
   | leaf =>
     refine ⟨.node (some v) .leaf .leaf,rfl,fun j => ?_⟩
     cases j with
     | zero => rfl
     | succ j => rw[ET.get_succ,if_neg (Nat.succ_ne_zero j)];split<;>rfl
   | node w l r =>
     refine ⟨.node (some v) l r,rfl,fun j => ?_⟩
     cases j with
     | zero => rfl
     | succ j => rw[ET.get_succ,if_neg (Nat.succ_ne_zero j),ET.get_succ]
 | f + 1,t,m + 1,k,h => by
   have hd:m / 2 < f:=by omega
   cases t with
   | leaf =>
     cases hb:Nat.beq (m % 2) 0 with
     | true =>
       have hm:=Nat.eq_of_beq_eq_true hb
       obtain ⟨t',h1,h2⟩:=ET.putK_ok v f .leaf (m / 2) (fun l' => k (.node none l' .leaf)) hd
       refine ⟨.node none t' .leaf,?_,fun j => ?_⟩
       ·show Bool.rec (motive:=fun _ => α) _ (ET.putK v f .leaf (m / 2) fun l' => k (.node none l' .leaf)) (Nat.beq (m % 2) 0) = _
        rw[hb];exact h1
       ·cases j with
        | zero => rw[if_neg (by omega)];rfl
        | succ j =>
          rw[ET.get_succ]
          by_cases hj:j % 2 = 0
          ·rw[if_pos hj,h2]
           by_cases e:j / 2 = m / 2
           ·rw[if_pos e,if_pos (by omega)]
           ·rw[if_neg e,if_neg (by omega)];rfl
          ·rw[if_neg hj,if_neg (by omega)];rfl
     | false =>
       have hm:=Nat.ne_of_beq_eq_false hb
       obtain ⟨t',h1,h2⟩:=ET.putK_ok v f .leaf (m / 2) (fun r' => k (.node none .leaf r')) hd
       refine ⟨.node none .leaf t',?_,fun j => ?_⟩
       ·show Bool.rec (motive:=fun _ => α) (ET.putK v f .leaf (m / 2) fun r' => k (.node none .leaf r')) _ (Nat.beq (m % 2) 0) = _
        rw[hb];exact h1
       ·cases j with
        | zero => rw[if_neg (by omega)];rfl
        | succ j =>
          rw[ET.get_succ]
          by_cases hj:j % 2 = 0
          ·rw[if_pos hj,if_neg (by omega)];rfl
          ·rw[if_neg hj,h2]
           by_cases e:j / 2 = m / 2
           ·rw[if_pos e,if_pos (by omega)]
           ·rw[if_neg e,if_neg (by omega)];rfl
   | node w l r =>
     cases hb:Nat.beq (m % 2) 0 with
     | true =>
       have hm:=Nat.eq_of_beq_eq_true hb
       obtain ⟨t',h1,h2⟩:=ET.putK_ok v f l (m / 2) (fun l' => k (.node w l' r)) hd
       refine ⟨.node w t' r,?_,fun j => ?_⟩
       ·show Bool.rec (motive:=fun _ => α) _ (ET.putK v f l (m / 2) fun l' => k (.node w l' r)) (Nat.beq (m % 2) 0) = _
        rw[hb];exact h1
       ·cases j with
        | zero => rw[if_neg (by omega)];rfl
        | succ j =>
          rw[ET.get_succ,ET.get_succ]
          by_cases hj:j % 2 = 0
          ·rw[if_pos hj,if_pos hj,h2]
           by_cases e:j / 2 = m / 2
           ·rw[if_pos e,if_pos (by omega)]
           ·rw[if_neg e,if_neg (by omega)]
          ·rw[if_neg hj,if_neg hj,if_neg (by omega)]
     | false =>
       have hm:=Nat.ne_of_beq_eq_false hb
       obtain ⟨t',h1,h2⟩:=ET.putK_ok v f r (m / 2) (fun r' => k (.node w l r')) hd
       refine ⟨.node w l t',?_,fun j => ?_⟩
       ·show Bool.rec (motive:=fun _ => α) (ET.putK v f r (m / 2) fun r' => k (.node w l r')) _ (Nat.beq (m % 2) 0) = _
        rw[hb];exact h1
       ·cases j with
        | zero => rw[if_neg (by omega)];rfl
        | succ j =>
          rw[ET.get_succ,ET.get_succ]
          by_cases hj:j % 2 = 0
          ·rw[if_pos hj,if_pos hj,if_neg (by omega)]
          ·rw[if_neg hj,if_neg hj,h2]
           by_cases e:j / 2 = m / 2
           ·rw[if_pos e,if_pos (by omega)]
           ·rw[if_neg e,if_neg (by omega)]
noncomputable def frcN (n:Nat) (k:Nat→α):α:=Nat.rec (motive:=fun _ => α) (k 0) (fun m _ => k (Nat.add m 1)) n
theorem frcN_ok (n:Nat) (k:Nat→α):frcN n k = k n:=by cases n<;>rfl
noncomputable def frcI (n:Int) (k:Int→α):α:=Int.rec (motive:=fun _ => α) (fun m => frcN m fun m => k (.ofNat m)) (fun m => frcN m fun m => k (.negSucc m)) n
theorem frcI_ok (n:Int) (k:Int→α):frcI n k = k n:=by
 cases n with
 | ofNat m => exact frcN_ok m fun m => k (.ofNat m)
 | negSucc m => exact frcN_ok m fun m => k (.negSucc m)
noncomputable def frcB (x:Bool) (k:Bool→α):α:=Bool.rec (motive:=fun _ => α) (k false) (k true) x
theorem frcB_ok (x:Bool) (k:Bool→α):frcB x k = k x:=by cases x<;>rfl
noncomputable def frc1 (v:AV) (k:AV→α):α:=match v with
 | .i s n => frcI n fun n => k (.i s n)
 | .b x => frcB x fun x => k (.b x)
 | v => k v
theorem frc1_ok (v:AV) (k:AV→α):frc1 v k = k v:=by
 cases v with
 | i s n => exact frcI_ok n fun n => k (.i s n)
 | b x => exact frcB_ok x fun x => k (.b x)
 | _ => rfl
noncomputable def frcL (cs:List AV):(List AV→α)→α:=List.rec (motive:=fun _ => (List AV→α)→α) (fun k => k []) (fun c _ ih k => frc1 c fun c => ih fun cs => k (c :: cs)) cs
theorem frcL_ok:∀ (cs:List AV) (k:List AV→α),frcL cs k = k cs
 | [],_ => rfl
 | c :: cs,k => by
   show frc1 c (fun c => frcL cs fun cs => k (c :: cs)) = _
   rw[frc1_ok,frcL_ok cs]
noncomputable def frcV (v:AV) (k:AV→α):α:=match v with
 | .i s n => frcI n fun n => k (.i s n)
 | .b x => frcB x fun x => k (.b x)
 | .sl cs n t => frcL cs fun cs => frcN n fun n => k (.sl cs n t)
 | .agg cs => frcL cs fun cs => k (.agg cs)
 | .ptr cs => frcL cs fun cs => k (.ptr cs)
 | .mp a o => frcN a fun a => frcN o fun o => k (.mp a o)
 | .ms a o n => frcN a fun a => frcN o fun o => frcN n fun n => k (.ms a o n)
 | .mc a o e n => frcN a fun a => frcN o fun o => frcN e fun e => frcN n fun n => k (.mc a o e n)
 | v => k v
theorem frcV_ok (v:AV) (k:AV→α):frcV v k = k v:=by
 cases v with
 | i s n => exact frcI_ok n fun n => k (.i s n)
 | b x => exact frcB_ok x fun x => k (.b x)
 | sl cs n t =>
   show frcL cs (fun cs => frcN n fun n => k (.sl cs n t)) = _
   rw[frcL_ok,frcN_ok]
 | agg cs => exact frcL_ok cs fun cs => k (.agg cs)
 | ptr cs => exact frcL_ok cs fun cs => k (.ptr cs)
 | mp a o =>
   show frcN a (fun a => frcN o fun o => k (.mp a o)) = _
   rw[frcN_ok,frcN_ok]
 | ms a o n =>
   show frcN a (fun a => frcN o fun o => frcN n fun n => k (.ms a o n)) = _
   rw[frcN_ok,frcN_ok,frcN_ok]
 | mc a o e n =>
   show frcN a (fun a => frcN o fun o => frcN e fun e => frcN n fun n => k (.mc a o e n)) = _
   rw[frcN_ok,frcN_ok,frcN_ok,frcN_ok]
 | _ => rfl
end
noncomputable def mapO (f:AV→Option AV) (cs:List AV):Option (List AV):=List.rec (motive:=fun _ => Option (List AV)) (some []) (fun c _ ih => match f c with
 | some c => (match ih with | some cs => some (c :: cs) | none => none)
 | none => none) cs
noncomputable def frzK (hp:Nat→Option Blk) (k:Nat):AV→Option AV:=Nat.rec (motive:=fun _ => AV→Option AV) (fun _ => none) (fun _ ih v => match v with
 | .agg cs => (match mapO ih cs with | some cs => some (.agg cs) | none => none)
 | .tup cs => (match mapO ih cs with | some cs => some (.tup cs) | none => none)
 | .sl cs n _ => some (.sl cs n .non)
 | .mp id off => (match hp id with
   | some (.cells cs _) => (match mapO ih (cs.drop off) with | some cs => some (.ptr cs) | none => none)
   | _ => none)
 | .ms id off n => (match hp id with
   | some (.cells cs _) => (match mapO ih (cs.drop off) with | some cs => some (.sl cs n .non) | none => none)
   | _ => none)
 | .fn f a b => (match mapO ih a with
   | some a => (match mapO ih b with | some b => some (.fn f a b) | none => none)
   | none => none)
 | .ifc t v => (match ih v with | some v => some (.ifc t v) | none => none)
 | .mm _ => none
 | .mc _ _ _ _ => none
 | v => some v) k
noncomputable def frzLK (hp:Nat→Option Blk) (k:Nat) (cs:List AV):Option (List AV):=mapO (frzK hp k) cs
theorem mapO_cons (f c cs):mapO f (c :: cs) = (match f c with
 | some c => (match mapO f cs with | some cs => some (c :: cs) | none => none)
 | none => none):=rfl
theorem mapO_frz (hp:Nat→Option Blk) (k:Nat) (h:∀ v,frzK hp k v = frz hp k v):∀ cs,mapO (frzK hp k) cs = frzL hp k cs
 | [] => by simp only[frzL];rfl
 | c :: cs => by
   rw[mapO_cons,mapO_frz hp k h cs,h c]
   simp only[frzL]
   cases frz hp k c<;>cases frzL hp k cs<;>rfl
theorem frzK_ok (hp:Nat→Option Blk):∀ (k:Nat) (v:AV),frzK hp k v = frz hp k v
 | 0,v => by simp only[frz];rfl
 | k + 1,v => by
   have hl:=mapO_frz hp k (frzK_ok hp k)
   have e:frzK hp (k + 1) v = (match v with
    | .agg cs => (match mapO (frzK hp k) cs with | some cs => some (.agg cs) | none => none)
    | .tup cs => (match mapO (frzK hp k) cs with | some cs => some (.tup cs) | none => none)
    | .sl cs n _ => some (.sl cs n .non)
    | .mp id off => (match hp id with
      | some (.cells cs _) => (match mapO (frzK hp k) (cs.drop off) with | some cs => some (.ptr cs) | none => none)
      | _ => none)
    | .ms id off n => (match hp id with
      | some (.cells cs _) => (match mapO (frzK hp k) (cs.drop off) with | some cs => some (.sl cs n .non) | none => none)
      | _ => none)
    | .fn f a b => (match mapO (frzK hp k) a with
      | some a => (match mapO (frzK hp k) b with | some b => some (.fn f a b) | none => none)
      | none => none)
    | .ifc t v => (match frzK hp k v with | some v => some (.ifc t v) | none => none)
    | .mm _ => none
    | .mc _ _ _ _ => none
    | v => some v):=rfl
   rw[e]
   simp only[hl,frzK_ok hp k]
   cases v with
   | agg cs => simp only[frz];cases frzL hp k cs<;>rfl
   | tup cs => simp only[frz];cases frzL hp k cs<;>rfl
   | mp id off =>
     simp only[frz]
     cases hp id with
     | none => rfl
     | some b =>
       cases b with
       | cells cs ro => simp only;cases frzL hp k (cs.drop off)<;>rfl
       | _ => rfl
   | ms id off n =>
     simp only[frz]
     cases hp id with
     | none => rfl
     | some b =>
       cases b with
       | cells cs ro => simp only;cases frzL hp k (cs.drop off)<;>rfl
       | _ => rfl
   | fn f a b =>
     simp only[frz]
     cases frzL hp k a<;>cases frzL hp k b<;>rfl
   | ifc t v => simp only[frz];cases frz hp k v<;>rfl
   | _ => simp only[frz]
theorem frzLK_ok (hp:Nat→Option Blk) (k:Nat) (cs:List AV):frzLK hp k cs = frzL hp k cs:=mapO_frz hp k (frzK_ok hp k) cs
noncomputable def kBoxI (v:AV) (g:G):Option (AV × G):=
 if (cellsOf v).all one then vMapL .ptr g (frzLK (fun _ => none) depth (cellsOf v)) else none
noncomputable def kBsl (id:Nat) (imm:Bool) (n:Nat) (cs:Option (List AV)) (g:G):Option (AV × G):=match cs with
 | none => none
 | some cs =>
   if imm then vMapL (fun cs => .sl cs n .rig) g (frzLK (fun _ => none) depth cs)
   else some (.ms id 0 n,⟨upd g.hp id (some (.cells cs false)),g.nx⟩)
noncomputable def kSrc (al:Nat→Bool) (esz:Nat) (y:AV) (g:G):Option (List AV × Nat):=match y with
 | .sl ds m _ => some (ds,m)
 | .ms b off m => match rd g al b with
   | some (.cells ds _) => match frzLK (fun _ => none) depth ((ds.drop off).take (m * esz)) with
     | some ds => some (ds,m)
     | none => none
   | _ => none
 | _ => none
noncomputable def kApp (al:Nat→Bool) (id esz bytes:Nat) (x y:AV) (g:G):Option (AV × G):=match x with
 | .sl cs n t => match kSrc al esz y g with
   | none => none
   | some (ds,m) =>
     if (n + m) * bytes≤2 ^ 46∧n + m≤2 ^ 62∧cs.length = n * esz∧ds.length = m * esz then
      match t with
      | .non => none
      | .rig => if m = 0 then some (.sl cs n .rig,g) else some (.sl (cs ++ ds) (n + m) (.own id esz),⟨upd g.hp id (some (.tok true)),g.nx⟩)
      | .own tk e => match rd g al tk with
        | some (.tok true) => if e = esz then some (.sl (cs ++ ds) (n + m) (.own id esz),⟨upd (upd g.hp tk (some (.tok false))) id (some (.tok true)),g.nx⟩) else none
        | _ => none
     else none
 | _ => none
theorem kSrc_ok (al esz y g):kSrc al esz y g = vSrc al esz y g:=by unfold kSrc vSrc;simp only[frzLK_ok];rfl
theorem kApp_ok (al id esz bytes x y g):kApp al id esz bytes x y g = vApp al id esz bytes x y g:=by
 unfold kApp vApp
 simp only[kSrc_ok]
 rfl
theorem kBsl_ok (id imm n cs g):kBsl id imm n cs g = vBsl id imm n cs g:=by unfold kBsl vBsl;simp only[frzLK_ok];first | done | rfl
theorem kBoxI_ok (v g):kBoxI v g = vBoxI v g:=by unfold kBoxI vBoxI;simp only[frzLK_ok];first | done | rfl
noncomputable def kCall (call:CS) (al:Nat→Bool) (id:Nat) (m:Mode) (f:AV) (args:List AV) (g:G):Option (AV × G):=match f with
 | .fn fid fst caps => match m with
   | .raw => call fid (fst ++ args ++ caps) g
   | .see => seeR g (call fid (fst ++ args ++ caps) g)
   | .pure => match frzLK (rd g al) depth (fst ++ args ++ caps) with
     | none => none
     | some bs => match call fid bs ⟨fun _ => none,0⟩ with
       | none => none
       | some (v,g') => match frzK g'.hp depth v with
         | none => none
         | some v => if flat v || ((fst ++ args ++ caps).flatMap (vis (rd g al) depth)).isEmpty then some (v,g) else none
   | .lock => match frzLK (rd g al) depth (fst ++ args ++ caps) with
     | none => none
     | some bs => match call fid bs ⟨fun _ => none,0⟩ with
       | none => none
       | some (v,g') => match frzK g'.hp depth v with
         | none => none
         | some v => some (v,⟨lock g.hp ((fst ++ args ++ caps).flatMap (vis (rd g al) depth)),g.nx⟩)
   | .thaw => match frzLK (rd g al) depth (fst ++ args ++ caps) with
     | none => none
     | some bs => match call fid bs ⟨fun _ => none,0⟩ with
       | some (.mp b 0,g') => match g'.hp b with
         | some (.cells cs false) => match frzLK g'.hp depth cs with
           | some cs' =>
             if ((fst ++ args ++ caps).flatMap (vis (rd g al) depth)).isEmpty && !(cs.flatMap (vis g'.hp depth)).contains b then some (.mp id 0,⟨upd g.hp id (some (.cells cs' false)),g.nx⟩) else none
           | none => none
         | _ => none
       | _ => none
   | .melt => match frzLK (rd g al) depth (fst ++ args ++ caps) with
     | none => none
     | some bs => match call fid bs ⟨fun _ => none,0⟩ with
       | some (.ms b 0 n,g') => match g'.hp b with
         | some (.cells cs false) => match frzLK g'.hp depth cs with
           | some cs' =>
             if ((fst ++ args ++ caps).flatMap (vis (rd g al) depth)).isEmpty && !(cs.flatMap (vis g'.hp depth)).contains b then some (.ms id 0 n,⟨upd g.hp id (some (.cells cs' false)),g.nx⟩) else none
           | none => none
         | _ => none
       | _ => none
 | _ => none
theorem kCall_ok (call al id m f args g):kCall call al id m f args g = vCall call al id m f args g:=by
 unfold kCall vCall
 simp only[frzLK_ok,frzK_ok]
 rfl
abbrev Orc:=Nat→List AV→Option AV
noncomputable def kev (b:Env) (t:ET):Env:=fun n => match t.get n with | some v => v | none => b n
noncomputable def putO {α:Type} (d:Option Nat) (v:AV) (t:ET) (k:ET→α):α:=match d with
 | some d => ET.putK v (d + 1) t d k
 | none => k t
theorem putO_ok {α:Type} (b:Env) (d:Option Nat) (v:AV) (t:ET) (k:ET→α):∃ t',putO d v t k = k t'∧kev b t' = put (kev b t) d v:=by
 cases d with
 | none => exact ⟨t,rfl,rfl⟩
 | some d =>
   obtain ⟨t',h1,h2⟩:=ET.putK_ok v (d + 1) t d k (by omega)
   refine ⟨t',h1,?_⟩
   funext j
   simp only[kev,put,upd,h2]
   by_cases e:j = d
   ·simp only[if_pos e]
   ·simp only[if_neg e]
noncomputable def ltI (a b:Int):Bool:=Int.rec (motive:=fun _ => Bool) (fun m => Int.rec (motive:=fun _ => Bool) (fun n => Nat.ble (Nat.add m 1) n) (fun _ => false) b) (fun m => Int.rec (motive:=fun _ => Bool) (fun _ => true) (fun n => Nat.ble (Nat.add n 1) m) b) a
theorem ble_dec (m n:Nat):Nat.ble m n = decide (m≤n):=by
 cases h:Nat.ble m n with
 | true => exact (decide_eq_true (Nat.le_of_ble_eq_true h)).symm
 | false => exact (decide_eq_false (fun hh => by rw[Nat.ble_eq_true_of_le hh] at h;cases h)).symm
theorem ltI_ok (a b:Int):ltI a b = decide (a < b):=by
 cases a with
 | ofNat m =>
   cases b with
   | ofNat n =>
     show Nat.ble (m + 1) n = _
     rw[ble_dec,decide_eq_decide]
     show m + 1≤n↔(m:Int) < (n:Int)
     omega
   | negSucc n =>
     show false = _
     refine (decide_eq_false ?_).symm
     show ¬ (m:Int) < Int.negSucc n
     omega
 | negSucc m =>
   cases b with
   | ofNat n =>
     show true = _
     refine (decide_eq_true ?_).symm
     show Int.negSucc m < (n:Int)
     omega
   | negSucc n =>
     show Nat.ble (n + 1) m = _
     rw[ble_dec,decide_eq_decide]
     omega
noncomputable def eqI (a b:Int):Bool:=Int.rec (motive:=fun _ => Bool) (fun m => Int.rec (motive:=fun _ => Bool) (fun n => Nat.beq m n) (fun _ => false) b) (fun m => Int.rec (motive:=fun _ => Bool) (fun _ => false) (fun n => Nat.beq m n) b) a
theorem beq_dec (m n:Nat):Nat.beq m n = decide (m = n):=by
 cases h:Nat.beq m n with
 | true => exact (decide_eq_true (Nat.eq_of_beq_eq_true h)).symm
 | false => exact (decide_eq_false (Nat.ne_of_beq_eq_false h)).symm
theorem eqI_ok (a b:Int):eqI a b = (a == b):=by
 have e:(a == b) = decide (a = b):=by rw[Bool.eq_iff_iff];simp
 rw[e]
 cases a with
 | ofNat m =>
   cases b with
   | ofNat n =>
     show Nat.beq m n = _
     rw[beq_dec,decide_eq_decide]
     show m = n↔(m:Int) = (n:Int)
     omega
   | negSucc n => exact (decide_eq_false (fun h => by cases h)).symm
 | negSucc m =>
   cases b with
   | ofNat n => exact (decide_eq_false (fun h => by cases h)).symm
   | negSucc n =>
     show Nat.beq m n = _
     rw[beq_dec,decide_eq_decide]
     omega
noncomputable def wrI (n:Int):Int:=Int.rec (motive:=fun _ => Int) (fun m => Bool.rec (motive:=fun _ => Int) (IntKind.i64.wrap (.ofNat m)) (.ofNat m) (Nat.ble m 9223372036854775807)) (fun m => Bool.rec (motive:=fun _ => Int) (IntKind.i64.wrap (.negSucc m)) (.negSucc m) (Nat.ble m 9223372036854775807)) n
theorem wrI_in {x:Int} (h:-9223372036854775808≤x) (h2:x≤9223372036854775807):IntKind.i64.wrap x = x:=by
 simp[IntKind.wrap,IntKind.bits,IntKind.signed]
 omega
theorem wrI_ok (n:Int):wrI n = IntKind.i64.wrap n:=by
 cases n with
 | ofNat m =>
   show Bool.rec (motive:=fun _ => Int) (IntKind.i64.wrap (.ofNat m)) (.ofNat m) (Nat.ble m 9223372036854775807) = _
   rw[ble_dec]
   by_cases h:m≤9223372036854775807
   ·rw[decide_eq_true h]
    exact (wrI_in (x:=(m:Int)) (by omega) (by omega)).symm
   ·rw[decide_eq_false h]
 | negSucc m =>
   show Bool.rec (motive:=fun _ => Int) (IntKind.i64.wrap (.negSucc m)) (.negSucc m) (Nat.ble m 9223372036854775807) = _
   rw[ble_dec]
   by_cases h:m≤9223372036854775807
   ·rw[decide_eq_true h]
    exact (wrI_in (x:=Int.negSucc m) (by omega) (by omega)).symm
   ·rw[decide_eq_false h]
noncomputable def addI (a b:Int):Int:=Int.rec (motive:=fun _ => Int) (fun m => Int.rec (motive:=fun _ => Int) (fun n => .ofNat (Nat.add m n)) (fun n => Int.add (.ofNat m) (.negSucc n)) b) (fun m => Int.add (.negSucc m) b) a
theorem addI_ok (a b:Int):addI a b = a + b:=by cases a<;>cases b<;>rfl
noncomputable def kII (op:BinOp):Int→Int→Option AV:=BinOp.casesOn (motive:=fun _ => Int→Int→Option AV) op
 (fun a b => some (.i .i64 (wrI (addI a b)))) (fun a b => some (.i .i64 (wrI (Int.sub a b)))) (ibin .mul .i64) (ibin .quo .i64) (ibin .rem .i64) (ibin .and .i64) (ibin .or .i64) (ibin .xor .i64)
 (ishift .shl .i64) (ishift .shr .i64) (ibin .andNot .i64) (fun a b => some (.b (eqI a b))) (fun a b => some (.b (!eqI a b))) (fun a b => some (.b (ltI a b))) (fun a b => some (.b (!ltI b a))) (fun a b => some (.b (ltI b a))) (fun a b => some (.b (!ltI a b)))
theorem kII_ok (op:BinOp) (a b:Int):kII op a b = abin op (.i .i64 a) (.i .i64 b):=by
 cases op
 ·show some (AV.i .i64 (wrI (addI a b))) = _
  rw[wrI_ok,addI_ok];simp[abin,ibin]
 ·show some (AV.i .i64 (wrI (a - b))) = _
  rw[wrI_ok];simp[abin,ibin]
 ·show ibin .mul .i64 a b = _;simp[abin]
 ·show ibin .quo .i64 a b = _;simp[abin]
 ·show ibin .rem .i64 a b = _;simp[abin]
 ·show ibin .and .i64 a b = _;simp[abin]
 ·show ibin .or .i64 a b = _;simp[abin]
 ·show ibin .xor .i64 a b = _;simp[abin]
 ·show ishift .shl .i64 a b = _;simp[abin]
 ·show ishift .shr .i64 a b = _;simp[abin]
 ·show ibin .andNot .i64 a b = _;simp[abin]
 ·show some (AV.b (eqI a b)) = _
  rw[eqI_ok];simp[abin,ibin]
 ·show some (AV.b (!eqI a b)) = _
  rw[eqI_ok];simp only[abin,ibin,if_true];rfl
 ·show some (AV.b (ltI a b)) = _
  rw[ltI_ok];simp[abin,ibin]
 ·show some (AV.b (!ltI b a)) = _
  rw[ltI_ok];simp[abin,ibin]
  rw[←decide_not,decide_eq_decide];omega
 ·show some (AV.b (ltI b a)) = _
  rw[ltI_ok];simp[abin,ibin]
 ·show some (AV.b (!ltI a b)) = _
  rw[ltI_ok];simp[abin,ibin]
  rw[←decide_not,decide_eq_decide];omega
noncomputable def kBin (op:BinOp) (x y:AV):Option AV:=match x with
 | .i k a => (match k with
   | .i64 => (match y with
     | .i k' b => (match k' with
       | .i64 => kII op a b
       | k' => abin op (.i .i64 a) (.i k' b))
     | y => abin op (.i .i64 a) y)
   | k => abin op (.i k a) y)
 | x => abin op x y
theorem kBin_ok (op:BinOp) (x y:AV):kBin op x y = abin op x y:=by
 cases x with
 | i k a =>
   cases k<;>first
    | rfl
    | (cases y with
      | i k' b => cases k'<;>first | rfl | exact kII_ok op a b
      | _ => rfl)
 | _ => rfl
noncomputable def frcR (r:Option (AV × G)):Option (AV × G):=match r with
 | some (v,g) => frcV v fun v => some (v,g)
 | none => none
theorem frcR_ok (r:Option (AV × G)):frcR r = r:=by
 cases r with
 | none => rfl
 | some p =>
   obtain ⟨v,g⟩:=p
   show frcV v (fun v => some (v,g)) = _
   rw[frcV_ok]
abbrev KO:=Orc→CS→(Nat→Bool)→Nat→Nat→Env→G→Option (AV × G)
noncomputable def ko_mv (x:Opd):KO:=fun _ _ _ _ _ e g => some (x.ev e,g)
noncomputable def ko_pick (c a b:Opd):KO:=fun _ _ _ _ _ e g => vPick (c.ev e) (a.ev e) (b.ev e) g
noncomputable def ko_new (zero:List AV):KO:=fun _ _ _ _ id _ g => some (.mp id 0,⟨upd g.hp id (some (.cells zero false)),g.nx⟩)
noncomputable def ko_box (x:Opd):KO:=fun _ _ _ _ id e g => vBox id (x.ev e) g
noncomputable def ko_boxI (x:Opd):KO:=fun _ _ _ _ _ e g => kBoxI (x.ev e) g
noncomputable def ko_build (zero:List AV) (parts:List (Nat × Nat × Opd)):KO:=fun _ _ _ _ _ e g => frcR (vMapL .agg g (fill e zero parts))
noncomputable def ko_bsl (imm:Bool) (n:Nat) (zero:List AV) (parts:List (Nat × Nat × Opd)):KO:=fun _ _ _ _ id e g => frcR (kBsl id imm n (fill e zero parts) g)
noncomputable def ko_ld (agg:Option Nat) (x:Opd):KO:=fun _ _ al _ _ e g => vLd al agg (x.ev e) g
noncomputable def ko_st (n:Nat) (a x:Opd):KO:=fun _ _ al _ _ e g => vSt al n (a.ev e) (x.ev e) g
noncomputable def ko_stL (n:Nat) (a x:Opd):KO:=fun _ _ al lo _ e g => vSt (fun i => decide (lo≤i) && al i) n (a.ev e) (x.ev e) g
noncomputable def ko_ldF (agg:Option Nat) (x:Opd):KO:=fun _ _ al _ _ e g => vLdF al agg (x.ev e) g
noncomputable def ko_stW (n:Nat) (a x:Opd):KO:=fun _ _ al _ _ e g => vSt al n (a.ev e) (x.ev e) g
noncomputable def ko_ldQ (agg:Option Nat) (x:Opd) (t:Nat):KO:=fun _ _ al _ _ e g => vLdQ al agg (x.ev e) (e t) g
noncomputable def ko_stN (n:Nat) (a x:Opd) (ts:List Nat):KO:=fun _ _ al _ _ e g => vStN al n (a.ev e) (x.ev e) (ts.map e) g
noncomputable def ko_nilck (x:Opd):KO:=fun _ _ _ _ _ e g => vNil (x.ev e) g
noncomputable def ko_bin (op:BinOp) (x y:Opd):KO:=fun _ _ _ _ _ e g => frcR (vMap g (kBin op (x.ev e) (y.ev e)))
noncomputable def ko_eqb (neg:Bool) (x y:Opd):KO:=fun _ _ _ _ _ e g => frcR (vMap g (negb neg (aeqb (x.ev e) (y.ev e))))
noncomputable def ko_eqs (neg:Bool) (x:Opd):KO:=fun _ _ _ _ _ e g => frcR (vMap g (negb neg (aeqs (x.ev e))))
noncomputable def ko_eqn (neg:Bool) (x y:Opd):KO:=fun _ _ _ _ _ e g => frcR (vMap g (negb neg (aeqn (x.ev e) (y.ev e))))
noncomputable def ko_eqa (neg:Bool) (ks:List Nat) (x y:Opd):KO:=fun _ _ _ _ _ e g => frcR (vMap g (negb neg (aeqa ks (x.ev e) (y.ev e))))
noncomputable def ko_un (op:UnOp) (x:Opd):KO:=fun _ _ _ _ _ e g => frcR (vMap g (aun op (x.ev e)))
noncomputable def ko_conv (k:IntKind) (x:Opd):KO:=fun _ _ _ _ _ e g => frcR (vConv k (x.ev e) g)
noncomputable def ko_mkfn (f:Nat) (fst caps:List Opd):KO:=fun _ _ _ _ _ e g => some (.fn f (fst.map (·.ev e)) (caps.map (·.ev e)),g)
noncomputable def ko_mkmap:KO:=fun _ _ _ _ id _ g => some (.mm id,⟨upd g.hp id (some (.map [])),g.nx⟩)
noncomputable def ko_mput (m k v:Opd):KO:=fun _ _ al _ _ e g => vMput al (m.ev e) (k.ev e) (v.ev e) g
noncomputable def ko_mget (m k:Opd):KO:=fun _ _ al _ _ e g => vMget al (m.ev e) (k.ev e) g
noncomputable def ko_mksl (zero:List AV) (esz bytes:Nat) (len cap:Opd):KO:=fun _ _ _ _ id e g => frcR (vMksl id zero esz bytes (len.ev e) (cap.ev e) g)
noncomputable def ko_slice (esz:Nat) (x:Opd) (lo hi mx:Option Opd):KO:=fun _ _ _ _ _ e g => frcR (vSlice esz (x.ev e) (evo e lo) (evo e hi) (evo e mx) g)
noncomputable def ko_fa (off:Nat) (x:Opd):KO:=fun _ _ _ _ _ e g => vFa off (x.ev e) g
noncomputable def ko_fld (off:Nat) (agg:Option Nat) (x:Opd):KO:=fun _ _ _ _ _ e g => vFld off agg (x.ev e) g
noncomputable def ko_ia (esz:Nat) (x i:Opd):KO:=fun _ _ _ _ _ e g => vIa esz (x.ev e) (i.ev e) g
noncomputable def ko_iaa (len esz:Nat) (x i:Opd):KO:=fun _ _ _ _ _ e g => vIaa len esz (x.ev e) (i.ev e) g
noncomputable def ko_idx (len esz:Nat) (agg:Option Nat) (x i:Opd):KO:=fun _ _ _ _ _ e g => vIdx len esz agg (x.ev e) (i.ev e) g
noncomputable def ko_sidx (x i:Opd):KO:=fun _ _ _ _ _ e g => frcR (vSidx (x.ev e) (i.ev e) g)
noncomputable def ko_ext (i:Nat) (x:Opd):KO:=fun _ _ _ _ _ e g => vExt i (x.ev e) g
noncomputable def ko_len (x:Opd):KO:=fun _ _ _ _ _ e g => vLen (x.ev e) g
noncomputable def ko_slen (x:Opd):KO:=fun _ _ _ _ _ e g => frcR (vSlen (x.ev e) g)
noncomputable def ko_sslice (x:Opd) (lo hi:Option Opd):KO:=fun _ _ _ _ _ e g => frcR (vSslice (x.ev e) (evo e lo) (evo e hi) g)
noncomputable def ko_mx (x y:Opd):KO:=fun _ _ _ _ _ e g => frcR (vMx (x.ev e) (y.ev e) g)
noncomputable def ko_mn (x y:Opd):KO:=fun _ _ _ _ _ e g => frcR (vMn (x.ev e) (y.ev e) g)
noncomputable def ko_app (esz bytes:Nat) (x y:Opd):KO:=fun _ _ al _ id e g => frcR (kApp al id esz bytes (x.ev e) (y.ev e) g)
noncomputable def ko_appM (esz bytes:Nat) (x y:Opd):KO:=fun _ _ al _ id e g => frcR (vAppM al id esz bytes (x.ev e) (y.ev e) g)
noncomputable def ko_clr (esz:Nat) (zero:List AV) (x:Opd):KO:=fun _ _ al _ _ e g => frcR (vClr al esz zero (x.ev e) g)
noncomputable def ko_cutM (esz:Nat) (x hi:Opd):KO:=fun _ _ al _ id e g => frcR (vCutM al id esz (x.ev e) (hi.ev e) g)
noncomputable def ko_bad:KO:=fun _ _ _ _ _ _ _ => none
noncomputable def ko_pure (f:Opd) (args:List Opd):KO:=fun orc call al _ id e g => match f.ev e with
 | .fn fid fst caps => (match frzLK (rd g al) depth (fst ++ args.map (·.ev e) ++ caps) with
   | some bs => (match orc fid bs with
     | some v => frcV v fun v => if flat v || ((fst ++ args.map (·.ev e) ++ caps).flatMap (vis (rd g al) depth)).isEmpty then some (v,g) else none
     | none => frcR (kCall call al id .pure (f.ev e) (args.map (·.ev e)) g))
   | none => none)
 | _ => none
noncomputable def ko_call (m:Mode) (f:Opd) (args:List Opd):KO:=Mode.casesOn (motive:=fun _ => KO) m (ko_pure f args)
 (fun _ call al _ id e g => frcR (kCall call al id .lock (f.ev e) (args.map (·.ev e)) g))
 (fun _ call al _ id e g => frcR (kCall call al id .thaw (f.ev e) (args.map (·.ev e)) g))
 (fun _ call al _ id e g => frcR (kCall call al id .raw (f.ev e) (args.map (·.ev e)) g))
 (fun _ call al _ id e g => frcR (kCall call al id .melt (f.ev e) (args.map (·.ev e)) g))
 (fun _ call al _ id e g => frcR (kCall call al id .see (f.ev e) (args.map (·.ev e)) g))
section
variable (orc:Orc)
noncomputable def opK (call:CS) (al:Nat→Bool) (lo id:Nat) (op:AOp) (e:Env) (g:G):Option (AV × G):=
 AOp.casesOn (motive:=fun _ => KO) op ko_mv ko_pick ko_new ko_box ko_boxI ko_build ko_bsl ko_ld ko_ldF ko_ldQ ko_st ko_stL ko_stW ko_stN ko_nilck ko_bin ko_eqb ko_eqn ko_eqs ko_eqa ko_un ko_conv ko_mkfn ko_mkmap ko_mput ko_mget ko_mksl ko_slice ko_fa ko_fld ko_ia ko_iaa ko_idx ko_sidx ko_ext ko_len ko_slen ko_sslice ko_mx ko_mn ko_app ko_appM ko_cutM ko_clr ko_bad ko_call orc call al lo id e g
noncomputable def regK (call:CS) (b:Env) (draw:Bool) (base:Nat) (ops:List AOper):Nat→ET→G→Option (ET × G):=
 List.rec (motive:=fun _ => Nat→ET→G→Option (ET × G)) (fun _ t g => some (t,g)) (fun o _ ih j t g =>
  match wanted (kev b t) o.grd with
  | true => match opK orc call (allow draw base o.pre) base (base + j) o.op (kev b t) g with
    | some (v,g) => putO o.dst v t fun t => ih (j + 1) t g
    | none => none
  | false => putO o.dst .undef t fun t => ih (j + 1) t g) ops
noncomputable def iterK (f:ET→G→Option (Out × ET × G)) (k:Nat):ET→G→Option (Out × ET × G):=
 Nat.rec (motive:=fun _ => ET→G→Option (Out × ET × G)) (fun _ _ => none) (fun _ ih t g => match f t g with
  | some (.nrm,t,g) => ih t g
  | r => r) k
noncomputable def codeK (call:CS) (b:Env) (k:Nat) (c:ACode):ET→G→Option (Out × ET × G):=
 ACode.rec (motive:=fun _ => ET→G→Option (Out × ET × G))
  (fun t g => some (.nrm,t,g))
  (fun draw ops t g => frcN g.nx fun base => frcN (base + ops.length) fun nx => match regK orc call b draw base ops 0 t ⟨g.hp,nx⟩ with
   | some (t,g) => some (.nrm,t,g)
   | none => none)
  (fun _ _ fa fb t g => match fa t g with
   | some (.nrm,t,g) => fb t g
   | r => r)
  (fun c _ _ ft ff t g => match c.ev (kev b t) with
   | .b x => Bool.rec (motive:=fun _ => Option (Out × ET × G)) (ff t g) (ft t g) x
   | _ => none)
  (fun id _ fc t g => match fc t g with
   | some (.ext n,t,g) => some (Bool.rec (motive:=fun _ => Out) (.ext n) .nrm (Nat.beq n id),t,g)
   | r => r)
  (fun n _ fc t g => fc t ⟨lock g.hp (vis g.hp depth (kev b t n)),g.nx⟩)
  (fun n _ fc t g => fc t ⟨lock g.hp (ids1 (kev b t n)),g.nx⟩)
  (fun n _ fc t g => match frzK g.hp depth (kev b t n) with
   | some v => ET.putK v (n + 1) t n fun t' => fc t' ⟨lock g.hp (vis g.hp depth (kev b t n)),g.nx⟩
   | none => none)
  (fun _ _ _ _ => none)
  (fun _ fc t g => fc t g)
  (fun t g => some (.nrm,t,g))
  (fun _ fc t g => iterK fc k t g)
  (fun id t g => some (.ext id,t,g))
  (fun t g => some (.ret,t,g))
  (fun _ _ _ _ => none) c
variable (F:Funs)
noncomputable def callK (k:Nat):CS:=
 Nat.rec (motive:=fun _ => CS) (fun _ _ _ => none) (fun k ih f args g => match F f with
  | none => none
  | some fn => match arB fn args with
    | false => none
    | true => match codeK orc ih (argEnv args) k fn.body .leaf g with
      | some (.nrm,t,g) => (resE fn.res (kev (argEnv args) t) g).map (·,g)
      | some (.ret,t,g) => (resE fn.res (kev (argEnv args) t) g).map (·,g)
      | _ => none) k
end
def OrcOk (F:Funs) (orc:Orc):Prop:=∀ f bs v,orc f bs = some v→pureS F f bs = some v
section
variable {F:Funs} {orc:Orc} (ho:OrcOk F orc)
include ho
theorem opK_ok {call:CS} (hc:CLe call (callS F)) {al lo id op e g r} (h:opK orc call al lo id op e g = some r):opE (callS F) al lo id op e g = some r:=by
 cases op with
 | boxI x =>
   have h:kBoxI (x.ev e) g = some r:=h
   rw[kBoxI_ok] at h;exact h
 | build z ps =>
   have h:frcR (vMapL .agg g (fill e z ps)) = some r:=h
   rw[frcR_ok] at h;exact h
 | bsl imm n z ps =>
   have h:frcR (kBsl id imm n (fill e z ps) g) = some r:=h
   rw[frcR_ok,kBsl_ok] at h;exact h
 | bin o x y =>
   have h:frcR (vMap g (kBin o (x.ev e) (y.ev e))) = some r:=h
   rw[frcR_ok,kBin_ok] at h;exact h
 | eqb neg x y =>
   have h:frcR (vMap g (negb neg (aeqb (x.ev e) (y.ev e)))) = some r:=h
   rw[frcR_ok] at h;exact h
 | eqn neg x y =>
   have h:frcR (vMap g (negb neg (aeqn (x.ev e) (y.ev e)))) = some r:=h
   rw[frcR_ok] at h;exact h
 | eqs neg x =>
   have h:frcR (vMap g (negb neg (aeqs (x.ev e)))) = some r:=h
   rw[frcR_ok] at h;exact h
 | eqa neg ks x y =>
   have h:frcR (vMap g (negb neg (aeqa ks (x.ev e) (y.ev e)))) = some r:=h
   rw[frcR_ok] at h;exact h
 | un o x =>
   have h:frcR (vMap g (aun o (x.ev e))) = some r:=h
   rw[frcR_ok] at h;exact h
 | conv k x =>
   have h:frcR (vConv k (x.ev e) g) = some r:=h
   rw[frcR_ok] at h;exact h
 | mksl z esz bytes len cap =>
   have h:frcR (vMksl id z esz bytes (len.ev e) (cap.ev e) g) = some r:=h
   rw[frcR_ok] at h;exact h
 | slice esz x lo' hi mx =>
   have h:frcR (vSlice esz (x.ev e) (evo e lo') (evo e hi) (evo e mx) g) = some r:=h
   rw[frcR_ok] at h;exact h
 | sidx x i =>
   have h:frcR (vSidx (x.ev e) (i.ev e) g) = some r:=h
   rw[frcR_ok] at h;exact h
 | slen x =>
   have h:frcR (vSlen (x.ev e) g) = some r:=h
   rw[frcR_ok] at h;exact h
 | sslice x lo' hi =>
   have h:frcR (vSslice (x.ev e) (evo e lo') (evo e hi) g) = some r:=h
   rw[frcR_ok] at h;exact h
 | mx x y =>
   have h:frcR (vMx (x.ev e) (y.ev e) g) = some r:=h
   rw[frcR_ok] at h;exact h
 | mn x y =>
   have h:frcR (vMn (x.ev e) (y.ev e) g) = some r:=h
   rw[frcR_ok] at h;exact h
 | app esz bytes x y =>
   have h:frcR (kApp al id esz bytes (x.ev e) (y.ev e) g) = some r:=h
   rw[frcR_ok,kApp_ok] at h;exact h
 | appM esz bytes x y =>
   have h:frcR (vAppM al id esz bytes (x.ev e) (y.ev e) g) = some r:=h
   rw[frcR_ok] at h;exact h
 | clr esz z x =>
   have h:frcR (vClr al esz z (x.ev e) g) = some r:=h
   rw[frcR_ok] at h;exact h
 | cutM esz x hi =>
   have h:frcR (vCutM al id esz (x.ev e) (hi.ev e) g) = some r:=h
   rw[frcR_ok] at h;exact h
 | bad => cases h
 | call m f args =>
   cases m with
   | raw =>
     have h:frcR (kCall call al id .raw (f.ev e) (args.map (·.ev e)) g) = some r:=h
     rw[frcR_ok,kCall_ok] at h
     exact opE_mono (op:=.call .raw f args) hc h
   | see =>
     have h:frcR (kCall call al id .see (f.ev e) (args.map (·.ev e)) g) = some r:=h
     rw[frcR_ok,kCall_ok] at h
     exact opE_mono (op:=.call .see f args) hc h
   | lock =>
     have h:frcR (kCall call al id .lock (f.ev e) (args.map (·.ev e)) g) = some r:=h
     rw[frcR_ok,kCall_ok] at h
     exact opE_mono (op:=.call .lock f args) hc h
   | thaw =>
     have h:frcR (kCall call al id .thaw (f.ev e) (args.map (·.ev e)) g) = some r:=h
     rw[frcR_ok,kCall_ok] at h
     exact opE_mono (op:=.call .thaw f args) hc h
   | melt =>
     have h:frcR (kCall call al id .melt (f.ev e) (args.map (·.ev e)) g) = some r:=h
     rw[frcR_ok,kCall_ok] at h
     exact opE_mono (op:=.call .melt f args) hc h
   | pure =>
     have h:ko_pure f args orc call al lo id e g = some r:=h
     unfold ko_pure at h
     split at h
     ·rename_i fid fst caps hf
      split at h
      ·rename_i bs hb
       split at h
       ·rename_i v hv
        rw[frcV_ok] at h
        split at h
        ·rename_i hfl
         cases h
         show vPure F al (f.ev e) (args.map (·.ev e)) g = _
         rw[hf]
         rw[frzLK_ok] at hb
         exact vPure_ok hb (ho _ _ _ hv) hfl
        ·cases h
       ·rw[frcR_ok,kCall_ok] at h
        exact opE_mono (op:=.call .pure f args) hc h
      ·cases h
     ·cases h
 | _ => exact h
theorem regK_ok {call:CS} (hc:CLe call (callS F)) {b:Env} {draw:Bool} {base:Nat}:∀ {ops:List AOper} {j:Nat} {t:ET} {g:G} {t' g'},regK orc call b draw base ops j t g = some (t',g')→regE (callS F) draw base j ops (kev b t) g = some (kev b t',g')
 | [],j,t,g,t',g',h => by cases h;rfl
 | o :: os,j,t,g,t',g',h => by
   have h:(match wanted (kev b t) o.grd with
    | true => match opK orc call (allow draw base o.pre) base (base + j) o.op (kev b t) g with
      | some (v,g) => putO o.dst v t fun t => regK orc call b draw base os (j + 1) t g
      | none => none
    | false => putO o.dst .undef t fun t => regK orc call b draw base os (j + 1) t g) = some (t',g'):=h
   simp only[regE]
   cases hw:wanted (kev b t) o.grd with
   | true =>
     rw[hw] at h
     simp only[if_true]
     cases hop:opK orc call (allow draw base o.pre) base (base + j) o.op (kev b t) g with
     | none => rw[hop] at h;cases h
     | some r =>
       obtain ⟨v,g1⟩:=r
       rw[hop] at h
       simp only at h
       rw[opK_ok ho hc hop]
       obtain ⟨t1,e1,e2⟩:=putO_ok b o.dst v t fun t => regK orc call b draw base os (j + 1) t g1
       rw[e1] at h
       simp only
       rw[←e2]
       exact regK_ok hc h
   | false =>
     rw[hw] at h
     simp only[Bool.false_eq_true,if_false]
     obtain ⟨t1,e1,e2⟩:=putO_ok b o.dst .undef t fun t => regK orc call b draw base os (j + 1) t g
     simp only[e1] at h
     rw[←e2]
     exact regK_ok hc h
theorem codeK_ok {call:CS} (hc:CLe call (callS F)) {b:Env} {k:Nat}:∀ {c:ACode} {t:ET} {g:G} {o t' g'},codeK orc call b k c t g = some (o,t',g')→codeS F c (kev b t) g = some (o,kev b t',g'):=by
 intro c
 induction c with
 | skip => intro t g o t' g' h;cases h;exact codeS_skip F _ _
 | lab => intro t g o t' g' h;cases h;exact codeS_lab F _ _
 | ext id => intro t g o t' g' h;cases h;exact codeS_ext F _ _ _
 | ret => intro t g o t' g' h;cases h;exact codeS_ret F _ _
 | prim n f =>
   intro t g o t' g' h
   have h:(none:Option (Out × ET × G)) = some (o,t',g'):=h
   cases h
 | scp c ih => intro t g o t' g' h;rw[codeS_scp];exact ih h
 | lck n c ih => intro t g o t' g' h;rw[codeS_lck];exact ih h
 | lckS n c ih => intro t g o t' g' h;rw[codeS_lckS];exact ih h
 | tmp c ih =>
   intro t g o t' g' h
   have h:(none:Option (Out × ET × G)) = some (o,t',g'):=h
   cases h
 | imm n c ih =>
   intro t g o t' g' h
   have h:(match frzK g.hp depth (kev b t n) with
    | some v => ET.putK v (n + 1) t n fun t' => codeK orc call b k c t' ⟨lock g.hp (vis g.hp depth (kev b t n)),g.nx⟩
    | none => none) = some (o,t',g'):=h
   rw[frzK_ok] at h
   rw[codeS_imm]
   cases hf:frz g.hp depth (kev b t n) with
   | none => rw[hf] at h;cases h
   | some v =>
     rw[hf] at h
     obtain ⟨t1,e1,e2⟩:=putO_ok b (some n) v t fun t' => codeK orc call b k c t' ⟨lock g.hp (vis g.hp depth (kev b t n)),g.nx⟩
     have e1':ET.putK v (n + 1) t n (fun t' => codeK orc call b k c t' ⟨lock g.hp (vis g.hp depth (kev b t n)),g.nx⟩) = _:=e1
     simp only[e1'] at h
     have e3:upd (kev b t) n v = kev b t1:=e2.symm
     simp only[e3]
     exact ih h
 | reg draw ops =>
   intro t g o t' g' h
   have h:(frcN g.nx fun base => frcN (base + ops.length) fun nx => match regK orc call b draw base ops 0 t ⟨g.hp,nx⟩ with
    | some (t,g) => some (Out.nrm,t,g)
    | none => none) = some (o,t',g'):=h
   simp only[frcN_ok] at h
   rw[codeS_reg]
   cases hr:regK orc call b draw g.nx ops 0 t ⟨g.hp,g.nx + ops.length⟩ with
   | none => rw[hr] at h;cases h
   | some r =>
     obtain ⟨t1,g1⟩:=r
     rw[hr] at h
     cases h
     rw[regK_ok ho hc hr]
 | seq x y ihx ihy =>
   intro t g o t' g' h
   have h:(match codeK orc call b k x t g with
    | some (.nrm,t,g) => codeK orc call b k y t g
    | r => r) = some (o,t',g'):=h
   rw[codeS_seq]
   cases hx:codeK orc call b k x t g with
   | none => rw[hx] at h;cases h
   | some r =>
     obtain ⟨o1,t1,g1⟩:=r
     rw[hx] at h
     rw[ihx hx]
     cases o1 with
     | nrm => exact ihy h
     | ext n => cases h;rfl
     | ret => cases h;rfl
 | cond x y z ihy ihz =>
   intro t g o t' g' h
   have h:(match x.ev (kev b t) with
    | .b w => Bool.rec (motive:=fun _ => Option (Out × ET × G)) (codeK orc call b k z t g) (codeK orc call b k y t g) w
    | _ => none) = some (o,t',g'):=h
   rw[codeS_cond]
   generalize x.ev (kev b t) = v at h ⊢
   cases v with
   | b w =>
     cases w with
     | true => exact ihy h
     | false => exact ihz h
   | _ => cases h
 | blk id c ih =>
   intro t g o t' g' h
   have h:(match codeK orc call b k c t g with
    | some (.ext n,t,g) => some (Bool.rec (motive:=fun _ => Out) (.ext n) .nrm (Nat.beq n id),t,g)
    | r => r) = some (o,t',g'):=h
   rw[codeS_blk]
   cases hx:codeK orc call b k c t g with
   | none => rw[hx] at h;cases h
   | some r =>
     obtain ⟨o1,t1,g1⟩:=r
     rw[hx] at h
     rw[ih hx]
     cases o1 with
     | nrm => cases h;rfl
     | ret => cases h;rfl
     | ext n =>
       simp only at h ⊢
       cases hb:Nat.beq n id with
       | true => rw[hb] at h;cases h;rw[if_pos (Nat.eq_of_beq_eq_true hb)]
       | false => rw[hb] at h;cases h;rw[if_neg (Nat.ne_of_beq_eq_false hb)]
 | loop c ih =>
   intro t g o t' g' h
   have key:∀ (j:Nat) (t:ET) (g:G),iterK (codeK orc call b k c) j t g = some (o,t',g')→codeS F (.loop c) (kev b t) g = some (o,kev b t',g'):=by
    intro j
    induction j with
    | zero => intro t g h;cases h
    | succ j ihj =>
      intro t g h
      have h:(match codeK orc call b k c t g with
       | some (.nrm,t,g) => iterK (codeK orc call b k c) j t g
       | r => r) = some (o,t',g'):=h
      rw[codeS_loop]
      cases hx:codeK orc call b k c t g with
      | none => rw[hx] at h;cases h
      | some r =>
        obtain ⟨o1,t1,g1⟩:=r
        rw[hx] at h
        rw[ih hx]
        cases o1 with
        | nrm => exact ihj _ _ h
        | ext n => cases h;rfl
        | ret => cases h;rfl
   exact key k t g h
theorem callK_ok:∀ (k:Nat),CLe (callK orc F k) (callS F)
 | 0 => fun _ _ _ _ h => by cases h
 | k + 1 => fun f asx g r h => by
   have h:(match F f with
    | none => none
    | some fn => match arB fn asx with
      | false => none
      | true => match codeK orc (callK orc F k) (argEnv asx) k fn.body .leaf g with
        | some (.nrm,t,g) => (resE fn.res (kev (argEnv asx) t) g).map (·,g)
        | some (.ret,t,g) => (resE fn.res (kev (argEnv asx) t) g).map (·,g)
        | _ => none) = some r:=h
   rw[callS_eq]
   cases hF:F f with
   | none => rw[hF] at h;cases h
   | some fn =>
     rw[hF] at h
     simp only at h ⊢
     cases har:arB fn asx with
     | false => rw[har] at h;cases h
     | true =>
     rw[har] at h
     simp only at h ⊢
     have e0:kev (argEnv asx) .leaf = argEnv asx:=rfl
     cases hx:codeK orc (callK orc F k) (argEnv asx) k fn.body .leaf g with
     | none => rw[hx] at h;cases h
     | some q =>
       obtain ⟨o1,t1,g1⟩:=q
       rw[hx] at h
       have:=codeK_ok ho (callK_ok k) hx
       rw[e0] at this
       rw[this]
       cases o1 with
       | nrm => exact h
       | ext n => cases h
       | ret => exact h
noncomputable def evK (orc:Orc) (F:Funs) (k:Nat) (rs:List ARes) (c:ACode) (e:Env) (g:G):Bool:=
 match codeK orc (callK orc F k) e k c .leaf g with
 | some (.nrm,t,g) => (match resE rs (kev e t) g with | some v => (match frzK g.hp depth v with | some (.b x) => x | _ => false) | none => false)
 | some (.ret,t,g) => (match resE rs (kev e t) g with | some v => (match frzK g.hp depth v with | some (.b x) => x | _ => false) | none => false)
 | _ => false
theorem W_eval (k:Nat) {rs:List ARes} {c:ACode} {e:Env} {g:G} (h:evK orc F k rs c e g = true):W F c e g (retQ rs (.b true)):=by
 unfold evK at h
 have fin:∀ (t:ET) (g:G),(match resE rs (kev e t) g with | some v => (match frzK g.hp depth v with | some (.b x) => x | _ => false) | none => false) = true→(match resE rs (kev e t) g with | some v0 => frz g.hp depth v0 | none => none) = some (.b true):=by
  intro t g h
  cases hr:resE rs (kev e t) g with
  | none => rw[hr] at h;cases h
  | some v =>
    rw[hr] at h
    simp only[frzK_ok] at h ⊢
    cases hf:frz g.hp depth v with
    | none => rw[hf] at h;cases h
    | some w =>
      rw[hf] at h
      cases w<;>first | (cases h;done) | (simp only at h;subst h;rfl)
 split at h
 ·rename_i t g1 hx
  exact ⟨_,_,_,codeK_ok ho (callK_ok ho k) hx,fin t g1 h⟩
 ·rename_i t g1 hx
  exact ⟨_,_,_,codeK_ok ho (callK_ok ho k) hx,fin t g1 h⟩
 ·cases h
theorem pure_eval (k:Nat) {f:Nat} {fn:AFun} {asx:List AV} (hF:F f = some fn) (h:evK orc F k fn.res fn.body (argEnv asx) g0 = true) (ha:arB fn asx = true:=by rfl):pureS F f asx = some (.b true):=
 pure_of hF (W_eval ho k h) ha
end
def orc0:Orc:=fun _ _ => none
theorem orc0_ok (F:Funs):OrcOk F orc0:=fun _ _ _ h => by cases h
end Go.Ab
end
section
set_option linter.unusedVariables false
set_option linter.unusedSimpArgs false
namespace Go.Ab
structure Ev where
 th:Int
 kd:Int
 md:Int
 lc:Int
 vl:Int
 ex:Bool
structure Gr where
 locs:Int
 evs:List Ev
 rf:List Int
 co:List (List Int)
 rmw:List (Int × Int)
 data:List (Int × Int)
 ctrl:List (Int × Int)
 ctrli:List (Int × Int)
def ev0:Ev:=⟨0,0,0,0,0,false⟩
def evC (e:Ev):List AV:=[.i .i64 e.th,.i .i64 e.kd,.i .i64 e.md,.i .i64 e.lc,.i .i64 e.vl,.b e.ex]
def evsC (l:List Ev):List AV:=l.flatMap evC
def coC (l:List (List Int)):List AV:=l.map fun c => .sl (intsC c) c.length .non
def grC (g:Gr):List AV:=[.i .i64 g.locs,.sl (evsC g.evs) g.evs.length .non,.sl (intsC g.rf) g.rf.length .non,.sl (coC g.co) g.co.length .non,
 .sl (pairsC g.rmw) g.rmw.length .non,.sl (pairsC g.data) g.data.length .non,.sl (pairsC g.ctrl) g.ctrl.length .non,.sl (pairsC g.ctrli) g.ctrli.length .non]
theorem evsC_len (l:List Ev):(evsC l).length = l.length * 6:=by
 induction l with
 | nil => rfl
 | cons p l ih => simp only[evsC,List.flatMap_cons,List.length_append,List.length_cons,evC,List.length_nil] at ih ⊢;omega
theorem coC_len (l:List (List Int)):(coC l).length = l.length:=by simp[coC]
theorem splice_ev (e:Ev):splice (List.replicate 5 (AV.i .i64 0) ++ [.b false]) 0 (evC e) = evC e:=rfl
theorem part_22 (a b:AV):part [a,b] 0 (some 2) = some (.agg [a,b]):=rfl
theorem evC_len (e:Ev):(evC e).length = 6:=rfl
theorem evC_one (e:Ev):(evC e).all one = true:=rfl
theorem evC_flat (e:Ev):(evC e).all flat = true:=rfl
theorem evC_all (e:Ev):part (evC e) 0 (some 6) = some (.agg (evC e)):=rfl
theorem ev_th (e:Ev):part (evC e) 0 none = some (.i .i64 e.th):=rfl
theorem ev_kd (e:Ev):part (evC e) 1 none = some (.i .i64 e.kd):=rfl
theorem ev_md (e:Ev):part (evC e) 2 none = some (.i .i64 e.md):=rfl
theorem ev_lc (e:Ev):part (evC e) 3 none = some (.i .i64 e.lc):=rfl
theorem ev_vl (e:Ev):part (evC e) 4 none = some (.i .i64 e.vl):=rfl
theorem ev_ex (e:Ev):part (evC e) 5 none = some (.b e.ex):=rfl
theorem grC_len (g:Gr):(grC g).length = 8:=rfl
theorem grC_one (g:Gr):(grC g).all one = true:=rfl
theorem grC_all (g:Gr):part (grC g) 0 (some 8) = some (.agg (grC g)):=rfl
theorem gr_locs (g:Gr):part (grC g) 0 none = some (.i .i64 g.locs):=rfl
theorem gr_evs (g:Gr):part (grC g) 1 none = some (.sl (evsC g.evs) g.evs.length .non):=rfl
theorem gr_rf (g:Gr):part (grC g) 2 none = some (.sl (intsC g.rf) g.rf.length .non):=rfl
theorem gr_co (g:Gr):part (grC g) 3 none = some (.sl (coC g.co) g.co.length .non):=rfl
theorem gr_rmw (g:Gr):part (grC g) 4 none = some (.sl (pairsC g.rmw) g.rmw.length .non):=rfl
theorem gr_data (g:Gr):part (grC g) 5 none = some (.sl (pairsC g.data) g.data.length .non):=rfl
theorem gr_ctrl (g:Gr):part (grC g) 6 none = some (.sl (pairsC g.ctrl) g.ctrl.length .non):=rfl
theorem gr_ctrli (g:Gr):part (grC g) 7 none = some (.sl (pairsC g.ctrli) g.ctrli.length .non):=rfl
theorem frz_gr (hp) (g:Gr):frz hp depth (.agg (grC g)) = some (.agg (grC g)):=by
 refine frz_d_agg ?_
 show frzL hp (7 + 1) _ = _
 simp only[grC,frzL,frz]
theorem frz_ev (hp) (e:Ev):frz hp depth (.agg (evC e)) = some (.agg (evC e)):=frz_d_agg (frzL_flat (d:=7) (evC_flat e))
theorem vis_gr (hp) (g:Gr):vis hp depth (.agg (grC g)) = []:=by
 show vis hp (8 + 1) _ = _
 simp only[vis,grC,List.flatMap_cons,List.flatMap_nil,List.nil_append,List.append_nil]
theorem vis_ev (hp) (e:Ev):vis hp depth (.agg (evC e)) = []:=by
 show vis hp (8 + 1) _ = _
 simp only[vis,evC,List.flatMap_cons,List.flatMap_nil,List.nil_append,List.append_nil]
theorem gl:type_of% (And.intro (And.intro (And.intro (And.intro (And.intro @evC_len @evC_one) (And.intro @evC_flat (And.intro @evC_all @ev_th))) (And.intro (And.intro @ev_kd (And.intro @ev_md @ev_lc)) (And.intro @ev_vl (And.intro @ev_ex @grC_len)))) (And.intro (And.intro (And.intro @grC_one @grC_all) (And.intro @gr_locs (And.intro @gr_evs @gr_rf))) (And.intro (And.intro @gr_co (And.intro @gr_rmw @gr_data)) (And.intro @gr_ctrl (And.intro @gr_ctrli @frz_gr))))) (And.intro (And.intro (And.intro (And.intro @frz_ev @vis_gr) (And.intro @vis_ev (And.intro @splice_ev @evsC_len))) (And.intro (And.intro @coC_len (And.intro @o_raw @vRaw_fn)) (And.intro @o_see (And.intro @vSee_fn @res_0)))) (And.intro (And.intro (And.intro @retP_nrm @retP_ret) (And.intro @o_mget (And.intro @vMget_S @mgS_map))) (And.intro (And.intro @o_mkmap (And.intro @o_mput @vMput_S)) (And.intro @mpS_map (And.intro @mpO_none @part_22)))))):=(And.intro (And.intro (And.intro (And.intro (And.intro @evC_len @evC_one) (And.intro @evC_flat (And.intro @evC_all @ev_th))) (And.intro (And.intro @ev_kd (And.intro @ev_md @ev_lc)) (And.intro @ev_vl (And.intro @ev_ex @grC_len)))) (And.intro (And.intro (And.intro @grC_one @grC_all) (And.intro @gr_locs (And.intro @gr_evs @gr_rf))) (And.intro (And.intro @gr_co (And.intro @gr_rmw @gr_data)) (And.intro @gr_ctrl (And.intro @gr_ctrli @frz_gr))))) (And.intro (And.intro (And.intro (And.intro @frz_ev @vis_gr) (And.intro @vis_ev (And.intro @splice_ev @evsC_len))) (And.intro (And.intro @coC_len (And.intro @o_raw @vRaw_fn)) (And.intro @o_see (And.intro @vSee_fn @res_0)))) (And.intro (And.intro (And.intro @retP_nrm @retP_ret) (And.intro @o_mget (And.intro @vMget_S @mgS_map))) (And.intro (And.intro @o_mkmap (And.intro @o_mput @vMput_S)) (And.intro @mpS_map (And.intro @mpO_none @part_22))))))
end Go.Ab
end
section
set_option linter.unusedVariables false
set_option linter.unusedSimpArgs false
namespace Go.Ab
variable {F:Funs}
structure EcoSt (X:Gr) (l:List (Int × Int)) (g:G):Prop where
 gr:g.hp 0 = some (.cells (grC X) false)
 put:∃ t,g.hp 2 = some (.cells [.sl (pairsC l) l.length t] false)∧Live g 2 t
 f4:g.hp 4 = some (.cells [.fn 92 [] [.mp 2 0]] false)
 f7:g.hp 7 = some (.cells [.fn 93 [] [.mp 0 0,.mp 4 0]] false)
 m9:g.hp 9 = some (.map [(.s ⟨#[114,102]⟩,.fn 94 [] [.mp 4 0]),(.s ⟨#[99,111]⟩,.fn 95 [] [.mp 7 0]),(.s ⟨#[102,114]⟩,.fn 96 [] [.mp 7 0])])
 nx:9 < g.nx
def Kept (g g':G):Prop:=g.nx≤g'.nx∧∀ i,9 < i→i < g.nx→CM (g.hp i)→g'.hp i = g.hp i
theorem Kept.refl (g:G):Kept g g:=⟨Nat.le_refl _,fun _ _ _ _ => rfl⟩
theorem Kept.trans {g g1 g2:G} (h:Kept g g1) (k:Kept g1 g2):Kept g g2:=⟨Nat.le_trans h.1 k.1,fun i h1 h2 h3 => by
 have e:=h.2 i h1 h2 h3
 rw[←e]
 exact k.2 i h1 (Nat.lt_of_lt_of_le h2 h.1) (by rw[e];exact h3)⟩
theorem EcoSt.same {X:Gr} {l:List (Int × Int)} {g g':G} (h:EcoSt X l g) (k:Kept g g') (h9:∀ i,i≤9→g'.hp i = g.hp i) (ht:∀ i b,g.hp i = some (.tok b)→g'.hp i = g.hp i):EcoSt X l g':=by
 obtain ⟨t,h1,h2⟩:=h.put
 refine ⟨by rw[h9 0 (by omega)];exact h.gr,⟨t,by rw[h9 2 (by omega)];exact h1,?_⟩,by rw[h9 4 (by omega)];exact h.f4,by rw[h9 7 (by omega)];exact h.f7,by rw[h9 9 (by omega)];exact h.m9,Nat.lt_of_lt_of_le h.nx k.1⟩
 rcases h2 with rfl | ⟨τ,rfl,hτ,hlt⟩
 ·exact .inl rfl
 ·exact .inr ⟨τ,rfl,by rw[ht τ _ hτ];exact hτ,Nat.lt_of_lt_of_le hlt k.1⟩
end Go.Ab
end
section
set_option linter.unusedVariables false
set_option linter.unusedSimpArgs false
namespace Go.Ab
variable {F:Funs}
theorem EcoSt.on {X:Gr} {l:List (Int × Int)} {g:G} (h:EcoSt X l g) {n:Nat} (hn:g.nx≤n):EcoSt X l ⟨g.hp,n⟩:=
 h.same ⟨hn,fun _ _ _ _ => rfl⟩ (fun _ _ => rfl) (fun _ _ _ => rfl)
theorem Kept.on {g g':G} (h:Kept g g') {n:Nat} (hn:g'.nx≤n):Kept g ⟨g'.hp,n⟩:=⟨Nat.le_trans h.1 hn,h.2⟩
theorem Kept.from {g g':G} {n:Nat} (hn:g.nx≤n) (h:Kept ⟨g.hp,n⟩ g'):Kept g g':=⟨Nat.le_trans hn h.1,fun i h1 h2 h3 => h.2 i h1 (Nat.lt_of_lt_of_le h2 hn) h3⟩
end Go.Ab
end
section
set_option linter.unusedVariables false
set_option linter.unusedSimpArgs false
namespace Go.Ab
variable {F:Funs}
theorem EcoSt.grow {X:Gr} {l:List (Int × Int)} {g g':G} (h:EcoSt X l g) (hn:g.nx≤g'.nx) (ho:∀ i,i < g.nx→g'.hp i = g.hp i):EcoSt X l g'∧Kept g g':=by
 have h9:=h.nx
 obtain ⟨t,h1,h2⟩:=h.put
 refine ⟨⟨by rw[ho 0 (by omega)];exact h.gr,⟨t,by rw[ho 2 (by omega)];exact h1,?_⟩,by rw[ho 4 (by omega)];exact h.f4,by rw[ho 7 (by omega)];exact h.f7,by rw[ho 9 (by omega)];exact h.m9,by omega⟩,hn,fun i _ hi _ => ho i hi⟩
 rcases h2 with rfl | ⟨τ,rfl,hτ,hlt⟩
 ·exact .inl rfl
 ·exact .inr ⟨τ,rfl,by rw[ho τ hlt];exact hτ,by omega⟩
end Go.Ab
end
section
set_option linter.unusedVariables false
set_option linter.unusedSimpArgs false
namespace Go.Ab
variable {F:Funs}
def Few (X:Gr):Prop:=X.evs.length≤60∧X.co.length≤6∧∀ c∈X.co,c.length≤60
end Go.Ab
end
section
set_option linter.unusedVariables false
set_option linter.unusedSimpArgs false
namespace Go.Ab
variable {F:Funs}
def u64s:List AV→Option (List Nat)
 | [] => some []
 | .i .u64 (.ofNat x) :: l => if x < 2 ^ 64 then (u64s l).map (x :: ·) else none
 | _ => none
def relOf:List AV→Option (Nat × List Nat)
 | .i .i64 (.ofNat n) :: l => if n≤40 then (match u64s l with | some xs => if xs.length = 40 then some (n,xs) else none | none => none) else none
 | _ => none
end Go.Ab
end
section
set_option linter.unusedVariables false
set_option linter.unusedSimpArgs false
namespace Go.Ab
variable {F:Funs}
def Lst (R:Rw) (zs:List Nat):Prop:=zs.length = 40∧∀ a,a < 40→(R a).toNat = zs.getD a 0
theorem Lst.cells {n:Nat} {R:Rw} {zs:List Nat} (h:Lst R zs):relC n R = .i .i64 n :: zs.map fun (x:Nat) => .i .u64 (x:Int):=by
 show AV.i .i64 (n:Int) :: rowsC R = _
 congr 1
 refine List.ext_getElem? fun i => ?_
 by_cases hi:i < 40
 ·rw[rowsC_get hi,List.getElem?_map,List.getElem?_eq_getElem (by rw[h.1];exact hi)]
  simp only[Option.map_some,U]
  rw[h.2 i hi,List.getD_eq_getElem?_getD,List.getElem?_eq_getElem (by rw[h.1];exact hi),Option.getD_some]
 ·rw[List.getElem?_eq_none (by rw[rowsC_len];omega),List.getElem?_eq_none (by rw[List.length_map,h.1];omega)]
noncomputable def newRow (n a:Nat) (l:List (Int × Int)):Nat:=List.rec (motive:=fun _ => Nat) 0 (fun p _ ih => match p with
 | (.ofNat x,.ofNat y) => Bool.rec (motive:=fun _ => Nat) ih (Bool.rec (motive:=fun _ => Nat) ih (Nat.lor (Nat.shiftLeft 1 y) ih) (Nat.ble (Nat.add y 1) n)) (Nat.beq x a)
 | _ => ih) l
noncomputable def in1 (r:Nat→List Nat→Option AV):List AV→Option AV
 | [.ptr a] => (match relOf a with | some (n,xs) => r n xs | none => none)
 | _ => none
end Go.Ab
end
section
set_option linter.unusedVariables false
set_option linter.unusedSimpArgs false
namespace Go.Ab
variable {F:Funs}
structure FewG (X:Gr):Prop where
 evs:X.evs.length≤50
 rf:X.rf.length≤60
 co:X.co.length≤6
 cos:∀ c∈X.co,c.length≤50
 rmw:X.rmw.length≤50
 data:X.data.length≤300
 ctrl:X.ctrl.length≤300
 ctrli:X.ctrli.length≤300
theorem FewG.few {X:Gr} (h:FewG X):Few X:=⟨by have:=h.evs;omega,h.co,fun c hc => by have:=h.cos c hc;omega⟩
end Go.Ab
end
section
namespace Go.Ab
def A_xref06_SameInts:AFun:={ res:=[.t 4],body:=(.seq (.reg false [qo 4 (.mv (.c (.b false)))])
 (.seq (.seq (.reg false [qm 6 0,qo 7 (.len (.t 6)),qm 8 1,qo 9 (.len (.t 8)),qo 10 (.bin .neq (.t 7) (.t 9))])
 (.cond (.t 10) (.seq (.reg false [qo 4 (.mv (.c (.b false)))])
 .ret)
 .skip))
 (.seq (.seq (.reg false [qo 5 (.mv (.c (.i .i64 0)))])
 (.blk 0 (.loop (.seq (.seq (.reg false [qm 11 5,qm 12 0,qo 13 (.len (.t 12)),qo 14 (.bin .lss (.t 11) (.t 13))])
 (.cond (.t 14) .skip
 (.ext 0)))
 (.seq (.blk 1 (.seq (.reg true [qm 17 0,qm 18 5,qo 19 (.ia 1 (.t 17) (.t 18)),qo 20 (.ld none (.t 19)),qm 21 1,qm 22 5,qo 23 (.ia 1 (.t 21) (.t 22)),qo 24 (.ld none (.t 23)),qo 25 (.bin .neq (.t 20) (.t 24))])
 (.cond (.t 25) (.seq (.reg false [qo 4 (.mv (.c (.b false)))])
 .ret)
 .skip)))
 (.reg false [qm 15 5,qo 16 (.bin .add (.t 15) (.c (.i .i64 1))),qm 5 16]))))))
 (.seq (.reg false [qo 4 (.mv (.c (.b true)))])
 .ret)))) }
def A_xref06_SameLists:AFun:={ res:=[.t 4],body:=(.seq (.reg false [qo 4 (.mv (.c (.b false)))])
 (.seq (.seq (.reg false [qm 6 0,qo 7 (.len (.t 6)),qm 8 1,qo 9 (.len (.t 8)),qo 10 (.bin .neq (.t 7) (.t 9))])
 (.cond (.t 10) (.seq (.reg false [qo 4 (.mv (.c (.b false)))])
 .ret)
 .skip))
 (.seq (.seq (.reg false [qo 5 (.mv (.c (.i .i64 0)))])
 (.blk 0 (.loop (.seq (.seq (.reg false [qm 11 5,qm 12 0,qo 13 (.len (.t 12)),qo 14 (.bin .lss (.t 11) (.t 13))])
 (.cond (.t 14) .skip
 (.ext 0)))
 (.seq (.blk 1 (.seq (.reg true [qm 17 0,qm 18 5,qo 19 (.ia 1 (.t 17) (.t 18)),qo 20 (.ld none (.t 19)),qm 21 1,qm 22 5,qo 23 (.ia 1 (.t 21) (.t 22)),qo 24 (.ld none (.t 23)),qo 25 (.call .pure (.c (.fn 296 [] [])) [.t 20,.t 24]),qo 26 (.un .not (.t 25))])
 (.cond (.t 26) (.seq (.reg false [qo 4 (.mv (.c (.b false)))])
 .ret)
 .skip)))
 (.reg false [qm 15 5,qo 16 (.bin .add (.t 15) (.c (.i .i64 1))),qm 5 16]))))))
 (.seq (.reg false [qo 4 (.mv (.c (.b true)))])
 .ret)))) }
end Go.Ab
end
section
set_option linter.unusedVariables false
set_option linter.unusedSimpArgs false
namespace Go.Ab
variable {F:Funs}
def EvOk (locs i:Int) (p e:Ev):Prop:=
 (i < locs→e.th = 0∧e.kd = 2∧e.md = 0∧e.lc = i∧e.vl = 0∧e.ex = false) ∧
 (¬ i < locs→1≤e.th∧e.th≤4∧p.th≤e.th∧((e.kd = 1∧0≤e.lc∧e.lc < locs∧(e.md = 0∨e.md = 1))∨(e.kd = 2∧0≤e.lc∧e.lc < locs∧(e.md = 0∨e.md = 2))∨(e.kd = 3∧1≤e.md∧e.md≤4∧e.lc = 0∧e.vl = 0∧e.ex = false)))
end Go.Ab
end
section
set_option linter.unusedVariables false
set_option linter.unusedSimpArgs false
namespace Go.Ab
variable {F:Funs}
def RfOk (X:Gr) (i:Nat):Prop:=((X.evs.getD i ev0).kd≠1→X.rf.getD i 0 = -1) ∧
 ((X.evs.getD i ev0).kd = 1→0≤X.rf.getD i 0∧X.rf.getD i 0 < X.evs.length∧(X.evs.getD (X.rf.getD i 0).toNat ev0).kd = 2∧(X.evs.getD (X.rf.getD i 0).toNat ev0).lc = (X.evs.getD i ev0).lc∧(X.evs.getD (X.rf.getD i 0).toNat ev0).vl = (X.evs.getD i ev0).vl)
def isWr (loc:Int) (e:Ev):Bool:=e.kd == 2 && e.lc == loc
def cntW (X:Gr) (loc:Int) (k:Nat):Nat:=((X.evs.take k).filter (isWr loc)).length
theorem cntW_le (X:Gr) (loc:Int) (k:Nat):cntW X loc k≤k:=by
 unfold cntW
 have h1:=List.length_filter_le (isWr loc) (X.evs.take k)
 rw[List.length_take] at h1;omega
structure CoOk (X:Gr) (loc:Nat):Prop where
 wr:∀ i,i < (X.co.getD loc []).length→0≤(X.co.getD loc []).getD i 0∧(X.co.getD loc []).getD i 0 < X.evs.length∧(X.evs.getD ((X.co.getD loc []).getD i 0).toNat ev0).kd = 2∧(X.evs.getD ((X.co.getD loc []).getD i 0).toNat ev0).lc = loc
 ne:∀ i,i < (X.co.getD loc []).length→∀ k,k < i→(X.co.getD loc []).getD k 0≠(X.co.getD loc []).getD i 0
 len:(X.co.getD loc []).length = cntW X loc X.evs.length
 pos:0 < (X.co.getD loc []).length
 hd:(X.co.getD loc []).getD 0 0 = loc
end Go.Ab
end
section
set_option linter.unusedVariables false
set_option linter.unusedSimpArgs false
namespace Go.Ab
variable {F:Funs}
def lessP (p q:Int × Int):Prop:=p.1 < q.1∨(p.1 = q.1∧p.2 < q.2)
def Rising (l:List (Int × Int)):Prop:=∀ i,i + 1 < l.length→lessP (l.getD i (0,0)) (l.getD (i + 1) (0,0))
def DepOk (X:Gr) (p:Int × Int):Prop:=0≤p.1∧p.1 < p.2∧p.2 < X.evs.length∧(X.evs.getD p.1.toNat ev0).kd = 1∧(X.evs.getD p.1.toNat ev0).th = (X.evs.getD p.2.toNat ev0).th
def DepsOk (X:Gr) (l:List (Int × Int)):Prop:=(∀ i,i < l.length→DepOk X (l.getD i (0,0)))∧Rising l
end Go.Ab
end
section
set_option linter.unusedVariables false
set_option linter.unusedSimpArgs false
namespace Go.Ab
variable {F:Funs}
def inB (i:Nat) (p:Int × Int):Bool:=p.1 == (i:Int) || p.2 == (i:Int)
def inC (l:List (Int × Int)) (i:Nat):Nat:=(l.filter (inB i)).length
def PairOk (X:Gr) (p:Int × Int):Prop:=0≤p.1∧p.1 < X.evs.length - 1∧p.2 = p.1 + 1∧(X.evs.getD p.1.toNat ev0).th = (X.evs.getD p.2.toNat ev0).th∧(X.evs.getD p.1.toNat ev0).kd = 1∧(X.evs.getD p.2.toNat ev0).kd = 2∧(X.evs.getD p.1.toNat ev0).lc = (X.evs.getD p.2.toNat ev0).lc∧(X.evs.getD p.1.toNat ev0).ex = true∧(X.evs.getD p.2.toNat ev0).ex = true
structure RmwOk (X:Gr):Prop where
 pairs:∀ j,j < X.rmw.length→PairOk X (X.rmw.getD j (0,0))
 once:∀ i,i < X.evs.length→inC X.rmw i≤1∧(X.evs.getD i ev0).ex = ((inC X.rmw i:Int) == 1)
 rise:Rising X.rmw
end Go.Ab
end
section
set_option linter.unusedVariables false
set_option linter.unusedSimpArgs false
namespace Go.Ab
variable {F:Funs}
structure GraphOk (X:Gr):Prop where
 locs1:1≤X.locs
 locs4:X.locs≤4
 nl:X.locs≤X.evs.length
 n40:X.evs.length≤40
 rfl:X.rf.length = X.evs.length
 col:(X.co.length:Int) = X.locs
 ev:∀ i,i < X.evs.length→EvOk X.locs i (X.evs.getD (i - 1) ev0) (X.evs.getD i ev0)
 rf:∀ i,i < X.evs.length→RfOk X i
 co:∀ i,i < X.co.length→CoOk X i
 rmw:RmwOk X
 data:DepsOk X X.data
 ctrl:DepsOk X X.ctrl
 ctrli:DepsOk X X.ctrli
end Go.Ab
end
section
set_option linter.unusedVariables false
set_option linter.unusedSimpArgs false
namespace Go.Ab
variable {F:Funs}
structure LenG (X:Gr):Prop where
 fl:X.co.flatten.length≤1000
 col:X.co.length≤1000
 cos:∀ k,(X.co.getD k []).length≤1000
 rmw:X.rmw.length≤1000
 data:X.data.length≤1000
 ctrl:X.ctrl.length≤1000
 ctrli:X.ctrli.length≤1000
theorem flat_le:∀ {l:List (List Int)} {m:Nat},(∀ c∈l,c.length≤m)→l.flatten.length≤l.length * m
 | [],_,_ => by simp
 | c :: l,m,h => by
   have h1:=flat_le (l:=l) (m:=m) fun c hc => h c (List.mem_cons_of_mem _ hc)
   have h2:=h c (List.mem_cons_self ..)
   rw[List.flatten_cons,List.length_append,List.length_cons,Nat.succ_mul]
   omega
theorem FewG.len {X:Gr} (h:FewG X):LenG X:=by
 have h1:=flat_le h.cos
 have h2:=h.co
 have h3:X.co.length * 50≤6 * 50:=Nat.mul_le_mul_right _ h2
 refine ⟨by omega,by omega,fun k => ?_,by have:=h.rmw;omega,by have:=h.data;omega,by have:=h.ctrl;omega,by have:=h.ctrli;omega⟩
 by_cases hk:k < X.co.length
 ·have hm:X.co.getD k []∈X.co:=by
   rw[List.getD_eq_getElem?_getD,List.getElem?_eq_getElem hk];exact List.getElem_mem hk
  have:=h.cos _ hm;omega
 ·rw[List.getD_eq_getElem?_getD,List.getElem?_eq_none (by omega)];simp
end Go.Ab
end
section
set_option linter.unusedVariables false
namespace Go.Ab
noncomputable def evKv (orc:Orc) (F:Funs) (k:Nat) (rs:List ARes) (c:ACode) (e:Env) (g:G):Option AV:=
 match codeK orc (callK orc F k) e k c .leaf g with
 | some (.nrm,t,g) => (match resE rs (kev e t) g with | some v => frzK g.hp depth v | none => none)
 | some (.ret,t,g) => (match resE rs (kev e t) g with | some v => frzK g.hp depth v | none => none)
 | _ => none
theorem W_evalv {F:Funs} {orc:Orc} (ho:OrcOk F orc) (k:Nat) {rs:List ARes} {c:ACode} {e:Env} {g:G} {w:AV} (h:evKv orc F k rs c e g = some w):W F c e g (retQ rs w):=by
 unfold evKv at h
 have fin:∀ (t:ET) (g:G),(match resE rs (kev e t) g with | some v => frzK g.hp depth v | none => none) = some w→(match resE rs (kev e t) g with | some v0 => frz g.hp depth v0 | none => none) = some w:=by
  intro t g h
  cases hr:resE rs (kev e t) g with
  | none => rw[hr] at h;cases h
  | some v =>
    rw[hr] at h
    simp only[frzK_ok] at h ⊢
    exact h
 split at h
 ·rename_i t g1 hx
  exact ⟨_,_,_,codeK_ok ho (callK_ok ho k) hx,fin t g1 h⟩
 ·rename_i t g1 hx
  exact ⟨_,_,_,codeK_ok ho (callK_ok ho k) hx,fin t g1 h⟩
 ·cases h
theorem pure_evalv {F:Funs} {orc:Orc} (ho:OrcOk F orc) (k:Nat) {f:Nat} {fn:AFun} {asx:List AV} {w:AV} (hF:F f = some fn) (h:evKv orc F k fn.res fn.body (argEnv asx) g0 = some w) (ha:arB fn asx = true:=by rfl):pureS F f asx = some w:=
 pure_of hF (W_evalv ho k h) ha
end Go.Ab
end
section
set_option linter.unusedVariables false
set_option maxRecDepth 100000
namespace Go.Proofs.Ythpfjbakmedfiaa
open Go.Ab
theorem smCmp:CmpF Sm.funs:=⟨rfl,rfl,rfl,rfl,rfl⟩
theorem pureS_tup0 {F:Funs} {f:Nat} {xs:List AV} (h:pureS F f xs = some (.tup [])):∃ k g',callE F k f xs g0 = some (.tup [],g'):=by
 unfold pureS at h
 split at h
 ·rename_i v g hc
  have:v = .tup []:=by
   have h':frz g.hp (8 + 1) v = some (.tup []):=h
   cases v with
   | i k m => simp only[frz] at h';cases h'
   | mp id o => simp only[frz] at h';split at h'
                ·rename_i hh
                 cases hf:frzL g.hp 8 (List.drop o _)<;>rw[hf] at h'<;>cases h'
                ·cases h'
   | agg cs => simp only[frz] at h';cases hf:frzL g.hp 8 cs<;>rw[hf] at h'<;>cases h'
   | tup cs =>
     simp only[frz] at h'
     cases cs with
     | nil => rfl
     | cons c cs =>
       simp only[frzL] at h'
       split at h'<;>cases h'
   | sl cs m t => simp only[frz] at h';cases h'
   | ms id o m => simp only[frz] at h';split at h'
                  ·cases hf:frzL g.hp 8 (List.drop o _)<;>rw[hf] at h'<;>cases h'
                  ·cases h'
   | fn f a bs => simp only[frz] at h';split at h'<;>cases h'
   | ifc t w => simp only[frz] at h';cases hf:frz g.hp 8 w<;>rw[hf] at h'<;>cases h'
   | _ => simp only[frz] at h';cases h'
  subst this
  obtain ⟨k,hk⟩:=(callS_some F).1 hc
  exact ⟨k,g,hk⟩
 ·cases h
theorem smRun:∃ k g',callE Sm.funs k 374 [.sl [] 0 .rig,.fn 326 [] []] g0 = some (.tup [],g'):=
 pureS_tup0 (pure_evalv (orc0_ok Sm.funs) 100 (fn:=A_slices_SortFunc_llint_lint) rfl (by kernel_rfl))
theorem primSortT {num:Nat→Nat} (h1:num 374 = 19) (h2:num 326 = Sm.num 326):PrimOk Try.prog num 374 A_sortFunc:=by
 obtain ⟨k,g',hk⟩:=smRun
 exact primSort (num2:=Sm.num) (sortNil_of Sm.table (by kernel_rfl) (by kernel_rfl) (by kernel_rfl) (show Sm.num 374 = num 374 from by rw[h1];kernel_rfl) h2.symm hk) Sm.table (by kernel_rfl) smCmp (by kernel_rfl) (by kernel_rfl) h2.symm h1
theorem primCloneT {num:Nat→Nat} (h1:num 373 = 18) (h2:num 1000001 = 1):PrimOk Try.prog num 373 A_clone:=primClone h1 (by rw[h2];decide)
end Go.Proofs.Ythpfjbakmedfiaa
end
section
namespace Go.Ab
def A_xlaw08_awake:AFun:={ res:=[.t 0],body:=(.seq (.reg false [qo 0 (.mv (.c (.b false)))])
 (.seq (.reg false [qo 2 (.build (List.replicate 5 (.i .i64 0) ++ [.b false]) [(1,1,.c (.i .i64 2))]),qo 3 (.build (List.replicate 5 (.i .i64 0) ++ [.b false]) [(1,1,.c (.i .i64 2)),(3,1,.c (.i .i64 1))]),qo 4 (.bsl true 2 (List.replicate 5 (.i .i64 0) ++ [.b false] ++ List.replicate 5 (.i .i64 0) ++ [.b false]) [(0,6,.t 2),(6,6,.t 3)]),qo 5 (.bsl true 2 ([.i .i64 0,.i .i64 0]) [(0,1,.c (.i .i64 (-1))),(1,1,.c (.i .i64 (-1)))]),qo 6 (.bsl true 1 ([.i .i64 0]) [(0,1,.c (.i .i64 0))]),qo 7 (.bsl true 1 ([.i .i64 0]) [(0,1,.c (.i .i64 1))]),qo 8 (.bsl true 2 ([.sl [] 0 .rig,.sl [] 0 .rig]) [(0,1,.t 6),(1,1,.t 7)]),qo 9 (.build ([.i .i64 0] ++ List.replicate 7 (.sl [] 0 .rig)) [(0,1,.c (.i .i64 2)),(1,1,.t 4),(2,1,.t 5),(3,1,.t 8)]),qo 1 (.new ([.i .i64 0] ++ List.replicate 7 (.sl [] 0 .rig))),qn (.st 8 (.t 1) (.t 9))])
 (.seq (.reg false [qo 10 (.ld (some 8) (.t 1)),qo 11 (.call .pure (.c (.fn 278 [] [])) [.t 10]),qo 12 (.bsl true 2 ([.i .i64 0,.i .i64 0]) [(0,1,.c (.i .i64 0)),(1,1,.c (.i .i64 0))]),qo 13 (.call .pure (.c (.fn 296 [] [])) [.t 11,.t 12]),qm 14 13,qg 15 (.bsl true 1 ([.i .i64 0]) [(0,1,.c (.i .i64 2))]) 14 true,qg 16 (.bsl true 1 ([.i .i64 0]) [(0,1,.c (.i .i64 1))]) 14 true,qg 17 (.bsl true 1 ([.i .i64 0]) [(0,1,.c (.i .i64 2))]) 14 true,qg 18 (.bsl true 3 ([.sl [] 0 .rig,.sl [] 0 .rig,.sl [] 0 .rig]) [(0,1,.t 15),(1,1,.t 16),(2,1,.t 17)]) 14 true,qg 19 (.call .pure (.c (.fn 298 [] [])) [.t 18]) 14 true,qg 20 (.bsl true 1 ([.i .i64 0]) [(0,1,.c (.i .i64 1))]) 14 true,qg 21 (.bsl true 1 ([.i .i64 0]) [(0,1,.c (.i .i64 2))]) 14 true,qg 22 (.bsl true 2 ([.sl [] 0 .rig,.sl [] 0 .rig]) [(0,1,.t 20),(1,1,.t 21)]) 14 true,qg 23 (.call .pure (.c (.fn 297 [] [])) [.t 19,.t 22]) 14 true,qo 24 (.pick (.t 14) (.t 23) (.c (.b false))),qm 25 24,qg 26 (.bsl true 1 ([.i .i64 0]) [(0,1,.c (.i .i64 1))]) 25 true,qg 27 (.bsl true 1 ([.sl [] 0 .rig]) [(0,1,.t 26)]) 25 true,qg 28 (.bsl true 1 ([.i .i64 0]) [(0,1,.c (.i .i64 1))]) 25 true,qg 29 (.call .pure (.c (.fn 299 [] [])) [.t 27,.t 28]) 25 true,qo 30 (.pick (.t 25) (.t 29) (.c (.b false))),qm 31 30,qg 32 (.bsl true 1 ([.i .i64 0]) [(0,1,.c (.i .i64 1))]) 31 true,qg 33 (.bsl true 1 ([.sl [] 0 .rig]) [(0,1,.t 32)]) 31 true,qg 34 (.call .pure (.c (.fn 300 [] [])) [.t 33,.c (.sl [] 0 .rig)]) 31 true,qg 35 (.un .not (.t 34)) 31 true,qo 36 (.pick (.t 31) (.t 35) (.c (.b false))),qm 0 36])
 .ret))) }
def A_xlaw08_MemLists:AFun:={ res:=[.t 6],body:=(.seq (.reg false [qo 6 (.mv (.c (.b false)))])
 (.seq (.seq (.reg false [qm 8 0,qo 9 (.call .pure (.c (.fn 539 [] [])) [.t 8]),qo 10 (.un .not (.t 9)),qm 11 10,qg 12 (.mv (.t 1)) 11 false,qg 13 (.call .pure (.c (.fn 539 [] [])) [.t 12]) 11 false,qg 14 (.un .not (.t 13)) 11 false,qo 15 (.pick (.t 11) (.c (.b true)) (.t 14)),qm 16 15,qg 17 (.mv (.t 2)) 16 false,qg 18 (.len (.t 17)) 16 false,qg 19 (.bin .gtr (.t 18) (.c (.i .i64 20))) 16 false,qo 20 (.pick (.t 16) (.c (.b true)) (.t 19))])
 (.cond (.t 20) (.seq (.reg false [qo 21 (.call .pure (.c (.fn 279 [] [])) []),qm 6 21])
 .ret)
 .skip))
 (.seq (.reg false [qm 22 0,qo 23 (.app 1 24 (.c (.sl [] 0 .rig)) (.t 22)),qo 24 (.call .pure (.c (.fn 298 [] [])) [.t 23]),qm 7 24])
 (.seq (.reg false [qm 25 7,qm 26 0,qo 27 (.call .pure (.c (.fn 540 [] [])) [.t 26]),qo 28 (.call .pure (.c (.fn 297 [] [])) [.t 25,.t 27]),qm 29 28,qg 30 (.mv (.t 7)) 29 true,qg 31 (.call .pure (.c (.fn 298 [] [])) [.t 30]) 29 true,qg 32 (.mv (.t 7)) 29 true,qg 33 (.call .pure (.c (.fn 297 [] [])) [.t 31,.t 32]) 29 true,qo 34 (.pick (.t 29) (.t 33) (.c (.b false))),qm 35 34,qg 36 (.mv (.t 0)) 35 true,qg 37 (.mv (.t 2)) 35 true,qg 38 (.call .pure (.c (.fn 299 [] [])) [.t 36,.t 37]) 35 true,qg 39 (.mv (.t 0)) 35 true,qg 40 (.mv (.t 2)) 35 true,qg 41 (.call .pure (.c (.fn 541 [] [])) [.t 39,.t 40]) 35 true,qg 42 (.eqb false (.t 38) (.t 41)) 35 true,qo 43 (.pick (.t 35) (.t 42) (.c (.b false))),qm 44 43,qg 45 (.mv (.t 0)) 44 true,qg 46 (.mv (.t 1)) 44 true,qg 47 (.call .pure (.c (.fn 300 [] [])) [.t 45,.t 46]) 44 true,qg 48 (.mv (.t 0)) 44 true,qg 49 (.mv (.t 1)) 44 true,qg 50 (.call .pure (.c (.fn 542 [] [])) [.t 48,.t 49]) 44 true,qg 51 (.eqb false (.t 47) (.t 50)) 44 true,qo 52 (.pick (.t 44) (.t 51) (.c (.b false))),qm 53 52,qg 54 (.mv (.t 0)) 53 true,qg 55 (.mv (.t 7)) 53 true,qg 56 (.call .pure (.c (.fn 300 [] [])) [.t 54,.t 55]) 53 true,qo 57 (.pick (.t 53) (.t 56) (.c (.b false))),qm 58 57,qg 59 (.mv (.t 7)) 58 true,qg 60 (.mv (.t 0)) 58 true,qg 61 (.call .pure (.c (.fn 300 [] [])) [.t 59,.t 60]) 58 true,qo 62 (.pick (.t 58) (.t 61) (.c (.b false))),qm 63 62,qg 64 (.call .pure (.c (.fn 279 [] [])) []) 63 true,qo 65 (.pick (.t 63) (.t 64) (.c (.b false))),qm 6 65])
 .ret)))) }
def A_xlaw08_MemOrder:AFun:={ res:=[.t 2],body:=(.seq (.reg false [qo 2 (.mv (.c (.b false)))])
 (.seq (.seq (.reg false [qm 8 0,qo 9 (.call .pure (.c (.fn 539 [] [])) [.t 8]),qo 10 (.un .not (.t 9))])
 (.cond (.t 10) (.seq (.reg false [qo 11 (.call .pure (.c (.fn 279 [] [])) []),qm 2 11])
 .ret)
 .skip))
 (.seq (.reg false [qm 12 0,qo 13 (.call .pure (.c (.fn 298 [] [])) [.t 12]),qm 3 13])
 (.seq (.seq (.reg false [qo 4 (.mv (.c (.i .i64 1)))])
 (.blk 0 (.loop (.seq (.seq (.reg false [qm 14 4,qm 15 3,qo 16 (.len (.t 15)),qo 17 (.bin .lss (.t 14) (.t 16))])
 (.cond (.t 17) .skip
 (.ext 0)))
 (.seq (.blk 1 (.seq (.reg true [qm 20 3,qm 21 4,qo 22 (.bin .sub (.t 21) (.c (.i .i64 1))),qo 23 (.ia 1 (.t 20) (.t 22)),qo 24 (.ld none (.t 23)),qm 25 3,qm 26 4,qo 27 (.ia 1 (.t 25) (.t 26)),qo 28 (.ld none (.t 27)),qm 5 24,qm 6 28])
 (.seq (.reg false [qo 7 (.mv (.c (.i .i64 0)))])
 (.seq (.blk 2 (.loop (.seq (.seq (.reg true [qm 29 7,qm 30 5,qo 31 (.len (.t 30)),qo 32 (.bin .lss (.t 29) (.t 31)),qm 33 32,qg 34 (.mv (.t 7)) 33 true,qg 35 (.mv (.t 6)) 33 true,qg 36 (.len (.t 35)) 33 true,qg 37 (.bin .lss (.t 34) (.t 36)) 33 true,qo 38 (.pick (.t 33) (.t 37) (.c (.b false))),qm 39 38,qg 40 (.mv (.t 5)) 39 true,qg 41 (.mv (.t 7)) 39 true,qg 42 (.ia 1 (.t 40) (.t 41)) 39 true,qg 43 (.ld none (.t 42)) 39 true,qg 44 (.mv (.t 6)) 39 true,qg 45 (.mv (.t 7)) 39 true,qg 46 (.ia 1 (.t 44) (.t 45)) 39 true,qg 47 (.ld none (.t 46)) 39 true,qg 48 (.bin .eql (.t 43) (.t 47)) 39 true,qo 49 (.pick (.t 39) (.t 48) (.c (.b false)))])
 (.cond (.t 49) .skip
 (.ext 2)))
 (.blk 3 (.reg false [qm 50 7,qo 51 (.bin .add (.t 50) (.c (.i .i64 1))),qm 7 51])))))
 (.seq (.reg true [qm 52 7,qm 53 6,qo 54 (.len (.t 53)),qo 55 (.bin .eql (.t 52) (.t 54)),qm 56 55,qg 57 (.mv (.t 7)) 56 false,qg 58 (.mv (.t 5)) 56 false,qg 59 (.len (.t 58)) 56 false,qg 60 (.bin .lss (.t 57) (.t 59)) 56 false,qg 61 (.mv (.t 60)) 56 false,qg 62 (.mv (.t 5)) 61 true,qg 63 (.mv (.t 7)) 61 true,qg 64 (.ia 1 (.t 62) (.t 63)) 61 true,qg 65 (.ld none (.t 64)) 61 true,qg 66 (.mv (.t 6)) 61 true,qg 67 (.mv (.t 7)) 61 true,qg 68 (.ia 1 (.t 66) (.t 67)) 61 true,qg 69 (.ld none (.t 68)) 61 true,qg 70 (.bin .gtr (.t 65) (.t 69)) 61 true,qg 71 (.pick (.t 61) (.t 70) (.c (.b false))) 56 false,qo 72 (.pick (.t 56) (.c (.b true)) (.t 71))])
 (.cond (.t 72) (.seq (.reg false [qo 2 (.mv (.c (.b false)))])
 .ret)
 .skip))))))
 (.reg false [qm 18 4,qo 19 (.bin .add (.t 18) (.c (.i .i64 1))),qm 4 19]))))))
 (.seq (.reg false [qm 73 3,qo 74 (.len (.t 73)),qm 75 0,qo 76 (.len (.t 75)),qo 77 (.bin .leq (.t 74) (.t 76)),qm 78 77,qg 79 (.mv (.t 0)) 78 true,qg 80 (.len (.t 79)) 78 true,qg 81 (.bin .eql (.t 80) (.c (.i .i64 0))) 78 true,qg 82 (.mv (.t 3)) 78 true,qg 83 (.len (.t 82)) 78 true,qg 84 (.bin .eql (.t 83) (.c (.i .i64 0))) 78 true,qg 85 (.eqb false (.t 81) (.t 84)) 78 true,qo 86 (.pick (.t 78) (.t 85) (.c (.b false))),qm 87 86,qg 88 (.call .pure (.c (.fn 279 [] [])) []) 87 true,qo 89 (.pick (.t 87) (.t 88) (.c (.b false))),qm 2 89])
 .ret))))) }
def A_xlaw08_MemSets:AFun:={ res:=[.t 4],body:=(.seq (.reg false [qo 4 (.mv (.c (.b false)))])
 (.seq (.seq (.reg false [qm 10 0,qo 11 (.call .pure (.c (.fn 539 [] [])) [.t 10]),qo 12 (.un .not (.t 11)),qm 13 12,qg 14 (.mv (.t 0)) 13 false,qg 15 (.len (.t 14)) 13 false,qg 16 (.bin .eql (.t 15) (.c (.i .i64 0))) 13 false,qo 17 (.pick (.t 13) (.c (.b true)) (.t 16))])
 (.cond (.t 17) (.seq (.reg false [qo 18 (.call .pure (.c (.fn 279 [] [])) []),qm 4 18])
 .ret)
 .skip))
 (.seq (.reg false [qm 19 1,qm 20 0,qo 21 (.len (.t 20)),qo 22 (.call .pure (.c (.fn 10 [] [])) [.t 19,.t 21]),qm 5 22])
 (.seq (.reg true [qm 23 0,qm 24 5,qo 25 (.slice 1 (.t 23) (some (.t 24)) none none),qo 26 (.app 1 24 (.c (.sl [] 0 .rig)) (.t 25)),qm 27 0,qp 28 (.app 1 24 (.t 26) (.t 27)) [3],qm 29 0,qm 30 5,qo 31 (.slice 1 (.t 29) none (some (.t 30)) none),qp 32 (.app 1 24 (.t 28) (.t 31)) [3,5],qm 6 32])
 (.seq (.reg false [qm 33 0,qo 34 (.call .pure (.c (.fn 298 [] [])) [.t 33]),qm 35 6,qo 36 (.call .pure (.c (.fn 298 [] [])) [.t 35]),qm 7 34,qm 8 36])
 (.seq (.reg true [qm 37 0,qo 38 (.appM 1 24 (.c (.sl [] 0 .rig)) (.t 37)),qo 39 (.mksl ([.i .i64 0]) 1 8 (.c (.i .i64 21)) (.c (.i .i64 21))),qp 40 (.bsl false 1 ([.sl [] 0 .rig]) [(0,1,.t 39)]) [2],qp 41 (.appM 1 24 (.t 38) (.t 40)) [1,2,3],qm 9 41])
 (.seq (.reg false [qm 42 7,qm 43 8,qo 44 (.call .pure (.c (.fn 297 [] [])) [.t 42,.t 43]),qm 45 44,qg 46 (.mv (.t 0)) 45 true,qg 47 (.mv (.t 6)) 45 true,qg 48 (.call .pure (.c (.fn 300 [] [])) [.t 46,.t 47]) 45 true,qo 49 (.pick (.t 45) (.t 48) (.c (.b false))),qm 50 49,qg 51 (.mv (.t 6)) 50 true,qg 52 (.mv (.t 0)) 50 true,qg 53 (.call .pure (.c (.fn 300 [] [])) [.t 51,.t 52]) 50 true,qo 54 (.pick (.t 50) (.t 53) (.c (.b false))),qm 55 54,qg 56 (.mv (.t 0)) 55 true,qg 57 (.mv (.t 9)) 55 true,qg 58 (.call .pure (.c (.fn 300 [] [])) [.t 56,.t 57]) 55 true,qo 59 (.pick (.t 55) (.t 58) (.c (.b false))),qm 60 59,qg 61 (.mv (.t 9)) 60 true,qg 62 (.mv (.t 0)) 60 true,qg 63 (.call .pure (.c (.fn 300 [] [])) [.t 61,.t 62]) 60 true,qg 64 (.un .not (.t 63)) 60 true,qo 65 (.pick (.t 60) (.t 64) (.c (.b false))),qm 66 65,qg 67 (.mv (.t 0)) 66 true,qg 68 (.mv (.t 0)) 66 true,qg 69 (.mv (.t 5)) 66 true,qg 70 (.ia 1 (.t 68) (.t 69)) 66 true,qg 71 (.ld none (.t 70)) 66 true,qg 72 (.call .pure (.c (.fn 299 [] [])) [.t 67,.t 71]) 66 true,qo 73 (.pick (.t 66) (.t 72) (.c (.b false))),qm 74 73,qg 75 (.mv (.t 0)) 74 true,qg 76 (.mksl ([.i .i64 0]) 1 8 (.c (.i .i64 21)) (.c (.i .i64 21))) 74 true,qg 77 (.call .pure (.c (.fn 299 [] [])) [.t 75,.t 76]) 74 true,qg 78 (.un .not (.t 77)) 74 true,qo 79 (.pick (.t 74) (.t 78) (.c (.b false))),qm 80 79,qg 81 (.call .pure (.c (.fn 279 [] [])) []) 80 true,qo 82 (.pick (.t 80) (.t 81) (.c (.b false))),qm 4 82])
 .ret))))))) }
def A_xlaw08_few:AFun:={ res:=[.t 2],body:=(.seq (.reg false [qo 2 (.mv (.c (.b false)))])
 (.seq (.seq (.reg false [qo 3 (.mv (.c (.i .i64 0)))])
 (.blk 0 (.loop (.seq (.seq (.reg false [qm 4 3,qm 5 0,qo 6 (.len (.t 5)),qo 7 (.bin .lss (.t 4) (.t 6)),qm 8 7,qg 9 (.mv (.t 3)) 8 true,qg 10 (.bin .lss (.t 9) (.c (.i .i64 60))) 8 true,qo 11 (.pick (.t 8) (.t 10) (.c (.b false)))])
 (.cond (.t 11) .skip
 (.ext 0)))
 (.seq (.blk 1 (.seq (.reg false [qm 14 0,qm 15 3,qo 16 (.ia 1 (.t 14) (.t 15)),qo 17 (.ld none (.t 16)),qo 18 (.len (.t 17)),qo 19 (.bin .gtr (.t 18) (.c (.i .i64 20)))])
 (.cond (.t 19) (.seq (.reg false [qo 2 (.mv (.c (.b false)))])
 .ret)
 .skip)))
 (.reg false [qm 12 3,qo 13 (.bin .add (.t 12) (.c (.i .i64 1))),qm 3 13]))))))
 (.seq (.reg false [qm 20 0,qo 21 (.len (.t 20)),qo 22 (.bin .leq (.t 21) (.c (.i .i64 60))),qm 2 22])
 .ret))) }
end Go.Ab
end
section
namespace Go.Ab
def A_xref08_Sort:AFun:={ res:=[.t 2],body:=(.seq (.reg false [qo 2 (.mv (.c (.sl [] 0 .rig)))])
 (.seq (.reg false [qo 3 (.mv (.c (.sl [] 0 .rig)))])
 (.seq (.seq (.reg false [qo 4 (.mv (.c (.i .i64 0)))])
 (.blk 0 (.loop (.seq (.seq (.reg false [qm 7 4,qm 8 0,qo 9 (.len (.t 8)),qo 10 (.bin .lss (.t 7) (.t 9))])
 (.cond (.t 10) .skip
 (.ext 0)))
 (.seq (.blk 1 (.seq (.reg false [qo 5 (.mv (.c (.i .i64 0)))])
 (.seq (.blk 2 (.loop (.seq (.seq (.reg true [qm 13 5,qm 14 3,qo 15 (.len (.t 14)),qo 16 (.bin .lss (.t 13) (.t 15)),qm 17 16,qg 18 (.mv (.t 3)) 17 true,qg 19 (.mv (.t 5)) 17 true,qg 20 (.ia 1 (.t 18) (.t 19)) 17 true,qg 21 (.ld none (.t 20)) 17 true,qg 22 (.mv (.t 0)) 17 true,qg 23 (.mv (.t 4)) 17 true,qg 24 (.ia 1 (.t 22) (.t 23)) 17 true,qg 25 (.ld none (.t 24)) 17 true,qg 26 (.call .pure (.c (.fn 543 [] [])) [.t 21,.t 25]) 17 true,qo 27 (.pick (.t 17) (.t 26) (.c (.b false)))])
 (.cond (.t 27) .skip
 (.ext 2)))
 (.blk 3 (.reg false [qm 28 5,qo 29 (.bin .add (.t 28) (.c (.i .i64 1))),qm 5 29])))))
 (.seq (.seq (.reg true [qm 30 5,qm 31 3,qo 32 (.len (.t 31)),qo 33 (.bin .lss (.t 30) (.t 32)),qm 34 33,qg 35 (.mv (.t 3)) 34 true,qg 36 (.mv (.t 5)) 34 true,qg 37 (.ia 1 (.t 35) (.t 36)) 34 true,qg 38 (.ld none (.t 37)) 34 true,qg 39 (.mv (.t 0)) 34 true,qg 40 (.mv (.t 4)) 34 true,qg 41 (.ia 1 (.t 39) (.t 40)) 34 true,qg 42 (.ld none (.t 41)) 34 true,qg 43 (.call .pure (.c (.fn 296 [] [])) [.t 38,.t 42]) 34 true,qo 44 (.pick (.t 34) (.t 43) (.c (.b false)))])
 (.cond (.t 44) (.ext 1)
 .skip))
 (.seq (.reg false [qm 45 3,qm 46 5,qo 47 (.slice 1 (.t 45) none (some (.t 46)) none),qo 48 (.app 1 24 (.c (.sl [] 0 .rig)) (.t 47)),qm 6 48])
 (.seq (.reg false [qm 49 6,qm 50 0,qm 51 4,qo 52 (.ia 1 (.t 50) (.t 51)),qo 53 (.ld none (.t 52)),qo 54 (.app 1 8 (.c (.sl [] 0 .rig)) (.t 53)),qo 55 (.bsl true 1 ([.sl [] 0 .rig]) [(0,1,.t 54)]),qo 56 (.app 1 24 (.t 49) (.t 55)),qm 6 56])
 (.reg false [qm 57 6,qm 58 3,qm 59 5,qo 60 (.slice 1 (.t 58) (some (.t 59)) none none),qo 61 (.app 1 24 (.t 57) (.t 60)),qm 3 61])))))))
 (.reg false [qm 11 4,qo 12 (.bin .add (.t 11) (.c (.i .i64 1))),qm 4 12]))))))
 (.seq (.reg false [qm 62 3,qm 2 62])
 .ret)))) }
def A_xref08_Has:AFun:={ res:=[.t 4],body:=(.seq (.reg false [qo 4 (.mv (.c (.b false)))])
 (.seq (.seq (.reg false [qo 5 (.mv (.c (.i .i64 0)))])
 (.blk 0 (.loop (.seq (.seq (.reg false [qm 6 5,qm 7 0,qo 8 (.len (.t 7)),qo 9 (.bin .lss (.t 6) (.t 8))])
 (.cond (.t 9) .skip
 (.ext 0)))
 (.seq (.blk 1 (.seq (.reg false [qm 12 0,qm 13 5,qo 14 (.ia 1 (.t 12) (.t 13)),qo 15 (.ld none (.t 14)),qm 16 1,qo 17 (.call .pure (.c (.fn 296 [] [])) [.t 15,.t 16])])
 (.cond (.t 17) (.seq (.reg false [qo 4 (.mv (.c (.b true)))])
 .ret)
 .skip)))
 (.reg false [qm 10 5,qo 11 (.bin .add (.t 10) (.c (.i .i64 1))),qm 5 11]))))))
 (.seq (.reg false [qo 4 (.mv (.c (.b false)))])
 .ret))) }
def A_xref08_In:AFun:={ res:=[.t 4],body:=(.seq (.reg false [qo 4 (.mv (.c (.b false)))])
 (.seq (.seq (.reg false [qo 5 (.mv (.c (.i .i64 0)))])
 (.blk 0 (.loop (.seq (.seq (.reg false [qm 6 5,qm 7 0,qo 8 (.len (.t 7)),qo 9 (.bin .lss (.t 6) (.t 8))])
 (.cond (.t 9) .skip
 (.ext 0)))
 (.seq (.blk 1 (.seq (.reg false [qm 12 1,qm 13 0,qm 14 5,qo 15 (.ia 1 (.t 13) (.t 14)),qo 16 (.ld none (.t 15)),qo 17 (.call .pure (.c (.fn 541 [] [])) [.t 12,.t 16]),qo 18 (.un .not (.t 17))])
 (.cond (.t 18) (.seq (.reg false [qo 4 (.mv (.c (.b false)))])
 .ret)
 .skip)))
 (.reg false [qm 10 5,qo 11 (.bin .add (.t 10) (.c (.i .i64 1))),qm 5 11]))))))
 (.seq (.reg false [qo 4 (.mv (.c (.b true)))])
 .ret))) }
def A_xref08_less:AFun:={ res:=[.t 4],body:=(.seq (.reg false [qo 4 (.mv (.c (.b false)))])
 (.seq (.seq (.reg false [qo 5 (.mv (.c (.i .i64 0)))])
 (.blk 0 (.loop (.seq (.seq (.reg false [qm 6 5,qm 7 0,qo 8 (.len (.t 7)),qo 9 (.bin .lss (.t 6) (.t 8)),qm 10 9,qg 11 (.mv (.t 5)) 10 true,qg 12 (.mv (.t 1)) 10 true,qg 13 (.len (.t 12)) 10 true,qg 14 (.bin .lss (.t 11) (.t 13)) 10 true,qo 15 (.pick (.t 10) (.t 14) (.c (.b false)))])
 (.cond (.t 15) .skip
 (.ext 0)))
 (.seq (.blk 1 (.seq (.reg true [qm 18 0,qm 19 5,qo 20 (.ia 1 (.t 18) (.t 19)),qo 21 (.ld none (.t 20)),qm 22 1,qm 23 5,qo 24 (.ia 1 (.t 22) (.t 23)),qo 25 (.ld none (.t 24)),qo 26 (.bin .neq (.t 21) (.t 25))])
 (.cond (.t 26) (.seq (.reg true [qm 27 0,qm 28 5,qo 29 (.ia 1 (.t 27) (.t 28)),qo 30 (.ld none (.t 29)),qm 31 1,qm 32 5,qo 33 (.ia 1 (.t 31) (.t 32)),qo 34 (.ld none (.t 33)),qo 35 (.bin .lss (.t 30) (.t 34)),qm 4 35])
 .ret)
 .skip)))
 (.reg false [qm 16 5,qo 17 (.bin .add (.t 16) (.c (.i .i64 1))),qm 5 17]))))))
 (.seq (.reg false [qm 36 0,qo 37 (.len (.t 36)),qm 38 1,qo 39 (.len (.t 38)),qo 40 (.bin .lss (.t 37) (.t 39)),qm 4 40])
 .ret))) }
end Go.Ab
end
section
set_option maxRecDepth 100000
set_option linter.unusedVariables false
namespace Go.Proofs.Ythpfjbakmedfiaa
open Go.Ab
def tab:List (Nat × Nat × AFun):=[(10,15,A_xlaw00_Place),
 (248,41,A_cmp_Compare_int),
 (266,47,A_cmp_isNaN_int),
 (278,17,A_mem_Final),
 (279,7,A_xlaw08_awake),
 (296,16,A_xref06_SameInts),
 (297,9,A_xref06_SameLists),
 (298,8,A_mem_Sort),
 (299,11,A_mem_Has),
 (300,13,A_mem_In),
 (326,20,A_mem_compare_int),
 (327,22,A_mem_same_int),
 (328,25,A_mem_Has_1),
 (329,26,A_mem_In_1),
 (375,21,A_slices_CompactFunc_llint_lint),
 (376,24,A_slices_ContainsFunc_llint_lint),
 (377,29,A_slices_Compare_lint_int),
 (423,30,A_slices_IndexFunc_llint_lint),
 (536,3,A_xlaw08_MemLists),
 (537,4,A_xlaw08_MemOrder),
 (538,5,A_xlaw08_MemSets),
 (539,6,A_xlaw08_few),
 (540,10,A_xref08_Sort),
 (541,12,A_xref08_Has),
 (542,14,A_xref08_In),
 (543,23,A_xref08_less)]
def num (f:Nat):Nat:=((tab.find? (fun r => r.1 == f)).map (·.2.1)).getD ((([(373,18),(374,19),(1000000,0),(1000001,1)]:List (Nat × Nat)).find? (fun r => r.1 == f)).map (·.2) |>.getD 0)
def funs:Funs:=fun f => match tab.find? (fun r => r.1 == f) with
 | some r => some r.2.2
 | none => if f == 373 then some A_clone else if f == 374 then some A_sortFunc else none
theorem c10:funB Try.prog num Try.f15 A_xlaw00_Place = true:=by kernel_rfl
theorem c248:funB Try.prog num Try.f41 A_cmp_Compare_int = true:=by kernel_rfl
theorem c266:funB Try.prog num Try.f47 A_cmp_isNaN_int = true:=by kernel_rfl
theorem c278:funB Try.prog num Try.f17 A_mem_Final = true:=by kernel_rfl
theorem c279:funB Try.prog num Try.f7 A_xlaw08_awake = true:=by kernel_rfl
theorem c296:funB Try.prog num Try.f16 A_xref06_SameInts = true:=by kernel_rfl
theorem c297:funB Try.prog num Try.f9 A_xref06_SameLists = true:=by kernel_rfl
theorem c298:funB Try.prog num Try.f8 A_mem_Sort = true:=by kernel_rfl
theorem c299:funB Try.prog num Try.f11 A_mem_Has = true:=by kernel_rfl
theorem c300:funB Try.prog num Try.f13 A_mem_In = true:=by kernel_rfl
theorem c326:funB Try.prog num Try.f20 A_mem_compare_int = true:=by kernel_rfl
theorem c327:funB Try.prog num Try.f22 A_mem_same_int = true:=by kernel_rfl
theorem c328:funB Try.prog num Try.f25 A_mem_Has_1 = true:=by kernel_rfl
theorem c329:funB Try.prog num Try.f26 A_mem_In_1 = true:=by kernel_rfl
theorem c375:funB Try.prog num Try.f21 A_slices_CompactFunc_llint_lint = true:=by kernel_rfl
theorem c376:funB Try.prog num Try.f24 A_slices_ContainsFunc_llint_lint = true:=by kernel_rfl
theorem c377:funB Try.prog num Try.f29 A_slices_Compare_lint_int = true:=by kernel_rfl
theorem c423:funB Try.prog num Try.f30 A_slices_IndexFunc_llint_lint = true:=by kernel_rfl
theorem c536:funB Try.prog num Try.f3 A_xlaw08_MemLists = true:=by kernel_rfl
theorem c537:funB Try.prog num Try.f4 A_xlaw08_MemOrder = true:=by kernel_rfl
theorem c538:funB Try.prog num Try.f5 A_xlaw08_MemSets = true:=by kernel_rfl
theorem c539:funB Try.prog num Try.f6 A_xlaw08_few = true:=by kernel_rfl
theorem c540:funB Try.prog num Try.f10 A_xref08_Sort = true:=by kernel_rfl
theorem c541:funB Try.prog num Try.f12 A_xref08_Has = true:=by kernel_rfl
theorem c542:funB Try.prog num Try.f14 A_xref08_In = true:=by kernel_rfl
theorem c543:funB Try.prog num Try.f23 A_xref08_less = true:=by kernel_rfl
def Good (r:Nat × Nat × AFun):Prop:=num r.1 = r.2.1∧∃ fn,Try.prog.funcs[r.2.1]? = some fn∧funB Try.prog num fn r.2.2 = true
theorem good:∀ r∈tab,Good r:=by
 intro r hr
 unfold tab at hr
 rcases List.mem_cons.1 hr with rfl | hr
 ·exact ⟨by kernel_rfl,_,Try.func15,c10⟩
 rcases List.mem_cons.1 hr with rfl | hr
 ·exact ⟨by kernel_rfl,_,Try.func41,c248⟩
 rcases List.mem_cons.1 hr with rfl | hr
 ·exact ⟨by kernel_rfl,_,Try.func47,c266⟩
 rcases List.mem_cons.1 hr with rfl | hr
 ·exact ⟨by kernel_rfl,_,Try.func17,c278⟩
 rcases List.mem_cons.1 hr with rfl | hr
 ·exact ⟨by kernel_rfl,_,Try.func7,c279⟩
 rcases List.mem_cons.1 hr with rfl | hr
 ·exact ⟨by kernel_rfl,_,Try.func16,c296⟩
 rcases List.mem_cons.1 hr with rfl | hr
 ·exact ⟨by kernel_rfl,_,Try.func9,c297⟩
 rcases List.mem_cons.1 hr with rfl | hr
 ·exact ⟨by kernel_rfl,_,Try.func8,c298⟩
 rcases List.mem_cons.1 hr with rfl | hr
 ·exact ⟨by kernel_rfl,_,Try.func11,c299⟩
 rcases List.mem_cons.1 hr with rfl | hr
 ·exact ⟨by kernel_rfl,_,Try.func13,c300⟩
 rcases List.mem_cons.1 hr with rfl | hr
 ·exact ⟨by kernel_rfl,_,Try.func20,c326⟩
 rcases List.mem_cons.1 hr with rfl | hr
 ·exact ⟨by kernel_rfl,_,Try.func22,c327⟩
 rcases List.mem_cons.1 hr with rfl | hr
 ·exact ⟨by kernel_rfl,_,Try.func25,c328⟩
 rcases List.mem_cons.1 hr with rfl | hr
 ·exact ⟨by kernel_rfl,_,Try.func26,c329⟩
 rcases List.mem_cons.1 hr with rfl | hr
 ·exact ⟨by kernel_rfl,_,Try.func21,c375⟩
 rcases List.mem_cons.1 hr with rfl | hr
 ·exact ⟨by kernel_rfl,_,Try.func24,c376⟩
 rcases List.mem_cons.1 hr with rfl | hr
 ·exact ⟨by kernel_rfl,_,Try.func29,c377⟩
 rcases List.mem_cons.1 hr with rfl | hr
 ·exact ⟨by kernel_rfl,_,Try.func30,c423⟩
 rcases List.mem_cons.1 hr with rfl | hr
 ·exact ⟨by kernel_rfl,_,Try.func3,c536⟩
 rcases List.mem_cons.1 hr with rfl | hr
 ·exact ⟨by kernel_rfl,_,Try.func4,c537⟩
 rcases List.mem_cons.1 hr with rfl | hr
 ·exact ⟨by kernel_rfl,_,Try.func5,c538⟩
 rcases List.mem_cons.1 hr with rfl | hr
 ·exact ⟨by kernel_rfl,_,Try.func6,c539⟩
 rcases List.mem_cons.1 hr with rfl | hr
 ·exact ⟨by kernel_rfl,_,Try.func10,c540⟩
 rcases List.mem_cons.1 hr with rfl | hr
 ·exact ⟨by kernel_rfl,_,Try.func12,c541⟩
 rcases List.mem_cons.1 hr with rfl | hr
 ·exact ⟨by kernel_rfl,_,Try.func14,c542⟩
 rcases List.mem_cons.1 hr with rfl | hr
 ·exact ⟨by kernel_rfl,_,Try.func23,c543⟩
 cases hr
theorem table:Table Try.prog num funs:=by
 intro f A h
 unfold funs at h
 cases hf:tab.find? (fun r => r.1 == f) with
 | none =>
   rw[hf] at h
   simp only at h
   by_cases c373:(f == 373) = true
   ·rw[if_pos c373] at h
    cases h
    have:f = 373:=by simpa using c373
    subst this
    exact .inr (primCloneT (by kernel_rfl) (by kernel_rfl))
   rw[if_neg c373] at h
   by_cases c374:(f == 374) = true
   ·rw[if_pos c374] at h
    cases h
    have:f = 374:=by simpa using c374
    subst this
    exact .inr (primSortT (by kernel_rfl) (by kernel_rfl))
   rw[if_neg c374] at h
   cases h
 | some r =>
   rw[hf] at h;cases h
   have h1:=List.find?_some hf
   simp only[beq_iff_eq] at h1
   subst h1
   obtain ⟨h2,h3⟩:=good r (List.mem_of_find?_eq_some hf)
   rw[h2];exact .inl h3
end Go.Proofs.Ythpfjbakmedfiaa
end
section
set_option linter.unusedVariables false
set_option linter.unusedSimpArgs false
namespace Go.Ab
variable {F:Funs}
def tkC (e:List (Int × Int)):List AV:=e.flatMap fun p => [.i .i64 p.1,.i .i64 p.2]
def exV (e:List (Int × Int)):AV:=.sl (tkC e) e.length .non
structure Ins where
 kd:Int
 md:Int
 md2:Int
 rg:Int
 lc:Int
 ex:List (Int × Int)
 n:Int
def insC (x:Ins):List AV:=[.i .i64 x.kd,.i .i64 x.md,.i .i64 x.md2,.i .i64 x.rg,.i .i64 x.lc,exV x.ex,.i .i64 x.n]
def exM (a b m:Int):List (Int × Int):=
 if m≤2 then [(1,b)] else if m≤5 then [(2,a)] else if m = 6 then [(2,a),(2,a),(3,4)] else if m = 7 then [(2,a),(1,b),(3,5)] else if m = 8 then [(2,a),(1,b),(3,6)] else [(1,b),(1,1),(3,3)]
def exN (v:Int):List (Int × Int):=exM (place v 1073741824 / 10 % 3) (place v 1073741824 / 30 % 3) (place v 1073741824 % 10)
def acqM (w:Int):Int:=if w / 7 % 3 = 2 then 1 else 0
def relM (w:Int):Int:=if w / 11 % 3 = 2 then 2 else 0
def insT (t w left:Int):Ins:=
 if t < 6 then ⟨1,acqM w,0,w % 3,w / 3 % 2,[],0⟩
 else if t < 12 then ⟨2,relM w,0,0,w / 3 % 2,exN (w / 12),0⟩
 else if t < 15 then ⟨3,1 + w / 5 % 4,0,0,0,[],0⟩
 else if t < 16 then ⟨4,acqM w,relM w,w % 3,w / 3 % 2,[(1,w / 17 % 2)],0⟩
 else if t < 18 then ⟨5,0,0,w % 3,0,exN (w / 12),0⟩
 else ⟨6,0,0,0,0,exN (w / 12),w / 19 % (left + 1)⟩
def insN (v left:Int):Ins:=insT (place v 1099511627776 % 20) (place v 1099511627776 / 20) left
end Go.Ab
end
section
set_option linter.unusedVariables false
set_option linter.unusedSimpArgs false
namespace Go.Ab
variable {F:Funs}
def insLC (l:List Ins):List AV:=l.flatMap insC
def fence0:Ins:=⟨3,4,0,0,0,[],0⟩
def skips (l:List Ins):Nat:=l.countP fun x => x.kd == 6
structure PreOk (l:List Int) (T t n:Nat) (pre:List Ins):Prop where
 ins:∀ k,k < pre.length→(∃ v,pre.getD k fence0 = insN v ((n - 1 - k:Nat):Int))∨pre.getD k fence0 = fence0
structure ThrOk (l:List Int) (T t most:Nat) (th:List Ins):Prop where
 most:th.length≤most
 at_:∀ k,k < th.length→t + k * T < l.length
 pre:PreOk l T t th.length th
 sk:skips th≤2
def retV (rs:List ARes) (P:AV→Prop):Out→Env→G→Prop:=fun o e g => ∃ v,retQ rs v o e g∧P v
theorem pureV_of {f:Nat} {fn:AFun} {asx:List AV} {P:AV→Prop} (hF:F f = some fn) (h:W F fn.body (argEnv asx) g0 (retV fn.res P)) (ha:arB fn asx = true:=by rfl):∃ v,pureS F f asx = some v∧P v:=by
 obtain ⟨o,e,g,h1,v,h2,hp⟩:=h
 exact ⟨v,pure_of hF ⟨o,e,g,h1,h2⟩ ha,hp⟩
end Go.Ab
end
section
set_option linter.unusedVariables false
set_option linter.unusedSimpArgs false
namespace Go.Ab
def ExOk (ex:List (Int × Int)):Prop:=∃ a b m:Int,0≤a∧a < 3∧0≤b∧b < 3∧0≤m∧m < 10∧ex = exM a b m
theorem exN_ok (v:Int):ExOk (exN v):=by
 obtain ⟨p0,p1⟩:=place_lt (v:=v) (n:=1073741824) (by omega)
 exact ⟨_,_,_,by omega,by omega,by omega,by omega,by omega,by omega,rfl⟩
inductive InsK (left:Int):Ins→Prop
 | ld (md rg lc:Int) (h1:md = 0∨md = 1) (h2:rg = 0∨rg = 1∨rg = 2) (h3:lc = 0∨lc = 1):InsK left ⟨1,md,0,rg,lc,[],0⟩
 | st (md lc:Int) (ex:List (Int × Int)) (h1:md = 0∨md = 2) (h3:lc = 0∨lc = 1) (he:ExOk ex):InsK left ⟨2,md,0,0,lc,ex,0⟩
 | fe (md:Int) (h1:md = 1∨md = 2∨md = 3∨md = 4):InsK left ⟨3,md,0,0,0,[],0⟩
 | fa (md md2 rg lc c:Int) (h1:md = 0∨md = 1) (h4:md2 = 0∨md2 = 2) (h2:rg = 0∨rg = 1∨rg = 2) (h3:lc = 0∨lc = 1) (h5:c = 0∨c = 1):InsK left ⟨4,md,md2,rg,lc,[(1,c)],0⟩
 | se (rg:Int) (ex:List (Int × Int)) (h2:rg = 0∨rg = 1∨rg = 2) (he:ExOk ex):InsK left ⟨5,0,0,rg,0,ex,0⟩
 | sk (ex:List (Int × Int)) (n:Int) (he:ExOk ex) (h0:0≤n) (h1:n≤left):InsK left ⟨6,0,0,0,0,ex,n⟩
theorem acq_01 (w:Int):acqM w = 0∨acqM w = 1:=by unfold acqM;split<;>omega
theorem rel_02 (w:Int):relM w = 0∨relM w = 2:=by unfold relM;split<;>omega
theorem insN_k {v left:Int} (h:0≤left):InsK left (insN v left):=by
 obtain ⟨p0,p1⟩:=place_lt (v:=v) (n:=1099511627776) (by omega)
 unfold insN
 generalize place v 1099511627776 = k at p0 p1
 have w0:0≤k / 20:=by omega
 generalize k / 20 = w at w0
 generalize k % 20 = t
 unfold insT
 split
 ·exact .ld _ _ _ (acq_01 w) (by omega) (by omega)
 split
 ·exact .st _ _ _ (rel_02 w) (by omega) (exN_ok _)
 split
 ·exact .fe _ (by omega)
 split
 ·exact .fa _ _ _ _ _ (acq_01 w) (rel_02 w) (by omega) (by omega) (by omega)
 split
 ·exact .se _ _ (by omega) (exN_ok _)
 ·have h1:=Int.emod_nonneg (w / 19) (by omega:left + 1≠0)
  have h2:=Int.emod_lt_of_pos (w / 19) (by omega:0 < left + 1)
  exact .sk _ _ (exN_ok _) h1 (by omega)
theorem fence_k (left:Int):InsK left fence0:=.fe 4 (by omega)
theorem PreOk.k {l:List Int} {T t n:Nat} {pre:List Ins} (h:PreOk l T t n pre) {k:Nat} (hk:k < pre.length):InsK ((n - 1 - k:Nat):Int) (pre.getD k fence0):=by
 rcases h.ins k hk with ⟨v,h1⟩ | h1
 ·rw[h1];exact insN_k (by omega)
 ·rw[h1];exact fence_k _
end Go.Ab
end
section
set_option linter.unusedVariables false
set_option linter.unusedSimpArgs false
namespace Go.Ab
structure ThK (th:List Ins):Prop where
 len:th.length≤12
 ins:∀ k,k < th.length→InsK ((th.length - 1 - k:Nat):Int) (th.getD k fence0)
 sk:skips th≤2
theorem ThrOk.k {l:List Int} {T t most:Nat} {th:List Ins} (h:ThrOk l T t most th) (hm:most≤12):ThK th:=
 ⟨Nat.le_trans h.most hm,fun k hk => h.pre.k hk,h.sk⟩
end Go.Ab
end
section
set_option linter.unusedVariables false
set_option linter.unusedSimpArgs false
namespace Go.Ab
instance (p q:Int × Int):Decidable (lessP p q):=by unfold lessP;infer_instance
theorem lessP_trans {p q r:Int × Int} (h:lessP p q) (k:lessP q r):lessP p r:=by unfold lessP at *;omega
theorem lessP_tot {p q:Int × Int} (h:¬ lessP p q) (n:p≠q):lessP q p:=by
 unfold lessP at *
 have:¬ (p.1 = q.1∧p.2 = q.2):=fun h => n (Prod.ext h.1 h.2)
 omega
def Up (l:List Int):Prop:=l.Pairwise (· < ·)
def putI:List Int→Int→List Int
 | [],v => [v]
 | a :: l,v => if a < v then a :: putI l v else if a = v then a :: l else v :: a :: l
theorem putI_mem:∀ {l:List Int} {v x:Int},x∈putI l v↔x∈l∨x = v
 | [],v,x => by simp[putI]
 | a :: l,v,x => by
   unfold putI
   split
   ·simp[putI_mem,or_assoc]
   ·split
    ·rename_i h1 h2
     subst h2
     simp only[List.mem_cons]
     refine ⟨fun h => .inl h,fun h => ?_⟩
     rcases h with h | h
     ·exact h
     ·exact .inl h
    ·simp only[List.mem_cons]
     refine ⟨fun h => ?_,fun h => ?_⟩
     ·rcases h with h | h | h
      ·exact .inr h
      ·exact .inl (.inl h)
      ·exact .inl (.inr h)
     ·rcases h with (h | h) | h
      ·exact .inr (.inl h)
      ·exact .inr (.inr h)
      ·exact .inl h
theorem putI_up:∀ {l:List Int} {v:Int},Up l→Up (putI l v)
 | [],v,_ => by simp[putI,Up]
 | a :: l,v,h => by
   obtain ⟨h1,h2⟩:=List.pairwise_cons.1 h
   unfold putI
   split
   ·rename_i hv
    refine List.pairwise_cons.2 ⟨fun x hx => ?_,putI_up h2⟩
    rcases putI_mem.1 hx with hx | hx
    ·exact h1 x hx
    ·omega
   ·split
    ·exact h
    ·rename_i hv hn
     refine List.pairwise_cons.2 ⟨fun x hx => ?_,h⟩
     rcases List.mem_cons.1 hx with rfl | hx
     ·omega
     ·have:=h1 x hx;omega
def bothI (a b:List Int):List Int:=b.foldl putI a
theorem bothI_mem:∀ {b a:List Int} {x:Int},x∈bothI a b↔x∈a∨x∈b
 | [],a,x => by simp[bothI]
 | v :: b,a,x => by
   show x∈bothI (putI a v) b↔_
   rw[bothI_mem,putI_mem,List.mem_cons,or_assoc]
theorem bothI_up:∀ {b a:List Int},Up a→Up (bothI a b)
 | [],a,h => h
 | v :: b,a,h => bothI_up (b:=b) (putI_up h)
theorem up_len:∀ {l:List Int} {lo hi:Int},Up l→(∀ r∈l,lo≤r∧r < hi)→l.length≤(hi - lo).toNat
 | [],_,_,_,_ => Nat.zero_le _
 | a :: l,lo,hi,h,hb => by
   obtain ⟨h1,h2⟩:=List.pairwise_cons.1 h
   have ha:=hb a (List.mem_cons_self ..)
   have:=up_len (lo:=a + 1) (hi:=hi) h2 fun r hr => ⟨by have:=h1 r hr;omega,(hb r (List.mem_cons_of_mem _ hr)).2⟩
   simp only[List.length_cons]
   omega
def insP:List (Int × Int)→Int × Int→List (Int × Int)
 | [],p => [p]
 | q :: l,p => if lessP q p then q :: insP l p else p :: q :: l
theorem insP_mem:∀ {l:List (Int × Int)} {p x:Int × Int},x∈insP l p↔x∈l∨x = p
 | [],p,x => by simp[insP]
 | a :: l,p,x => by
   unfold insP
   split
   ·simp[insP_mem,or_assoc]
   ·simp only[List.mem_cons]
    refine ⟨fun h => ?_,fun h => ?_⟩
    ·rcases h with h | h | h
     ·exact .inr h
     ·exact .inl (.inl h)
     ·exact .inl (.inr h)
    ·rcases h with (h | h) | h
     ·exact .inr (.inl h)
     ·exact .inr (.inr h)
     ·exact .inl h
theorem insP_len:∀ {l:List (Int × Int)} {p:Int × Int},(insP l p).length = l.length + 1
 | [],p => rfl
 | a :: l,p => by
   unfold insP
   split
   ·simp[insP_len]
   ·simp
theorem insP_pw:∀ {l:List (Int × Int)} {p:Int × Int},l.Pairwise lessP→p ∉ l→(insP l p).Pairwise lessP
 | [],p,_,_ => by simp[insP]
 | a :: l,p,h,hn => by
   obtain ⟨h1,h2⟩:=List.pairwise_cons.1 h
   unfold insP
   split
   ·rename_i hv
    refine List.pairwise_cons.2 ⟨fun x hx => ?_,insP_pw h2 fun hm => hn (List.mem_cons_of_mem _ hm)⟩
    rcases insP_mem.1 hx with hx | rfl
    ·exact h1 x hx
    ·exact hv
   ·rename_i hv
    have hpa:lessP p a:=lessP_tot hv fun h => hn (by rw[h];exact List.mem_cons_self ..)
    refine List.pairwise_cons.2 ⟨fun x hx => ?_,h⟩
    rcases List.mem_cons.1 hx with rfl | hx
    ·exact hpa
    ·exact lessP_trans hpa (h1 x hx)
def pairsI (l:List (Int × Int)) (rs:List Int) (b:Int):List (Int × Int):=rs.foldl (fun l r => insP l (r,b)) l
theorem pairsI_mem:∀ {rs:List Int} {l:List (Int × Int)} {b:Int} {x:Int × Int},x∈pairsI l rs b↔x∈l∨(x.2 = b∧x.1∈rs)
 | [],l,b,x => by simp[pairsI]
 | r :: rs,l,b,x => by
   show x∈pairsI (insP l (r,b)) rs b↔_
   rw[pairsI_mem,insP_mem,List.mem_cons]
   have he:x = (r,b)↔x.1 = r∧x.2 = b:=by rw[Prod.ext_iff]
   rw[he]
   refine ⟨fun h => ?_,fun h => ?_⟩
   ·rcases h with (h | ⟨h1,h2⟩) | ⟨h1,h2⟩
    ·exact .inl h
    ·exact .inr ⟨h2,.inl h1⟩
    ·exact .inr ⟨h1,.inr h2⟩
   ·rcases h with h | ⟨h1,h2 | h2⟩
    ·exact .inl (.inl h)
    ·exact .inl (.inr ⟨h2,h1⟩)
    ·exact .inr ⟨h1,h2⟩
theorem pairsI_len:∀ {rs:List Int} {l:List (Int × Int)} {b:Int},(pairsI l rs b).length = l.length + rs.length
 | [],l,b => rfl
 | r :: rs,l,b => by
   show (pairsI (insP l (r,b)) rs b).length = _
   rw[pairsI_len,insP_len,List.length_cons]
   omega
theorem pairsI_pw:∀ {rs:List Int} {l:List (Int × Int)} {b:Int},l.Pairwise lessP→(∀ r∈rs,(r,b) ∉ l)→rs.Nodup→(pairsI l rs b).Pairwise lessP
 | [],l,b,h,_,_ => h
 | r :: rs,l,b,h,hn,hd => by
   obtain ⟨d1,d2⟩:=List.nodup_cons.1 hd
   show (pairsI (insP l (r,b)) rs b).Pairwise lessP
   refine pairsI_pw (insP_pw h (hn r (List.mem_cons_self ..))) (fun r' hr' hm => ?_) d2
   rcases insP_mem.1 hm with hm | hm
   ·exact hn r' (List.mem_cons_of_mem _ hr') hm
   ·have:r' = r:=congrArg Prod.fst hm
    subst this
    exact d1 hr'
theorem Up.nodup {l:List Int} (h:Up l):l.Nodup:=List.Pairwise.imp (fun {a b} (hab:a < b) => (by omega:a≠b)) h
structure RS where
 evs:List Ev
 rmw:List (Int × Int)
 data:List (Int × Int)
 ctrl:List (Int × Int)
 used:Nat
 regs:List Int
 frm:List (List Int)
 now:List Int
 short:Bool
def rs0:RS:=⟨[],[],[],[],0,List.replicate 8 0,List.replicate 8 [],[],false⟩
def evR (s:RS) (e:Ev) (dl:List Int):RS:={ s with evs:=s.evs ++ [e],data:=pairsI s.data dl s.evs.length,ctrl:=pairsI s.ctrl s.now s.evs.length }
def rdR (s:RS) (reads:List Int) (loc mode:Int) (ex:Bool) (reg:Nat):RS:=
 if reads.length≤s.used then { s with short:=true } else
  let s1:=evR { s with used:=s.used + 1 } ⟨0,1,mode,loc,reads.getD s.used 0,ex⟩ []
  { s1 with regs:=s1.regs.set reg (reads.getD s.used 0),frm:=s1.frm.set reg [(s.evs.length:Int)] }
def wrR (s:RS) (loc mode:Int) (ex:Bool) (v:Int) (dl:List Int):RS:=
 let s1:=evR s ⟨0,2,mode,loc,v,ex⟩ dl
 if ex then { s1 with rmw:=s1.rmw ++ [((s.evs.length:Int) - 1,(s.evs.length:Int))] } else s1
def exR (ex:List (Int × Int)):List Nat:=match ex with
 | (2,a) :: _ => [a.toNat]
 | _ => []
def ofR (s:RS) (ex:List (Int × Int)):List Int:=(exR ex).foldl (fun l r => bothI l (s.frm.getD r [])) []
def faR (s:RS) (reads:List Int) (loc md md2:Int) (reg:Nat) (from_:List Int) (add:Int):RS:=
 let s1:=rdR s reads loc md true reg
 if reads.length≤s.used then s1 else wrR s1 loc md2 true (IntKind.i64.wrap (s1.regs.getD reg 0 + add)) (bothI from_ (s1.frm.getD reg []))
def stR (V:List (Int × Int)→List Int→Int) (reads:List Int) (s:RS) (x:Ins):RS:=
 if x.kd = 1 then rdR s reads x.lc x.md false x.rg.toNat
 else if x.kd = 2 then wrR s x.lc x.md false (V x.ex s.regs) (ofR s x.ex)
 else if x.kd = 3 then evR s ⟨0,3,x.md,0,0,false⟩ []
 else if x.kd = 4 then faR s reads x.lc x.md x.md2 x.rg.toNat (ofR s x.ex) (V x.ex s.regs)
 else if x.kd = 5 then { s with regs:=s.regs.set x.rg.toNat (V x.ex s.regs),frm:=s.frm.set x.rg.toNat (ofR s x.ex) }
 else { s with now:=bothI s.now (ofR s x.ex) }
def skR (V:List (Int × Int)→List Int→Int) (s:RS) (x:Ins):Nat:=if x.kd = 6∧V x.ex s.regs≠0 then x.n.toNat else 0
def runR (V:List (Int × Int)→List Int→Int) (reads:List Int) (th:List Ins):Nat→Nat→RS→RS
 | 0,_,s => s
 | f + 1,k,s => if k < th.length∧s.short = false then runR V reads th f (k + skR V s (th.getD k fence0) + 1) (stR V reads s (th.getD k fence0)) else s
def doR (V:List (Int × Int)→List Int→Int) (th:List Ins) (reads:List Int):RS:=runR V reads th th.length 0 rs0
end Go.Ab
end
section
set_option linter.unusedVariables false
set_option linter.unusedSimpArgs false
namespace Go.Ab
def EvT (e:Ev):Prop:=e.th = 0∧((e.kd = 1∧(e.lc = 0∨e.lc = 1)∧(e.md = 0∨e.md = 1))∨(e.kd = 2∧(e.lc = 0∨e.lc = 1)∧(e.md = 0∨e.md = 2))∨(e.kd = 3∧1≤e.md∧e.md≤4∧e.lc = 0∧e.vl = 0∧e.ex = false))
def RdL (es:List Ev) (l:List Int):Prop:=(∀ r∈l,0≤r∧r < es.length∧(es.getD r.toNat ev0).kd = 1)∧Up l
def DpL (es:List Ev) (l:List (Int × Int)):Prop:=(∀ p∈l,0≤p.1∧p.1 < p.2∧p.2 < es.length∧(es.getD p.1.toNat ev0).kd = 1∧(es.getD p.1.toNat ev0).th = (es.getD p.2.toNat ev0).th)∧l.Pairwise lessP
def RmP (es:List Ev) (p:Int × Int):Prop:=0≤p.1∧p.2 = p.1 + 1∧p.2 < es.length∧(es.getD p.1.toNat ev0).th = (es.getD p.2.toNat ev0).th∧(es.getD p.1.toNat ev0).kd = 1∧(es.getD p.2.toNat ev0).kd = 2∧(es.getD p.1.toNat ev0).lc = (es.getD p.2.toNat ev0).lc∧(es.getD p.1.toNat ev0).ex = true∧(es.getD p.2.toNat ev0).ex = true
structure RmL (es:List Ev) (l:List (Int × Int)):Prop where
 pairs:∀ p∈l,RmP es p
 once:∀ i,i < es.length→inC l i≤1∧(es.getD i ev0).ex = ((inC l i:Int) == 1)
 rise:l.Pairwise lessP
 len:l.length≤es.length
theorem getD_l {es:List Ev} {x:List Ev} {i:Nat} (h:i < es.length):(es ++ x).getD i ev0 = es.getD i ev0:=by
 simp[List.getD,List.getElem?_append_left h]
theorem getD_r {es:List Ev} {x:List Ev} {i:Nat}:(es ++ x).getD (es.length + i) ev0 = x.getD i ev0:=by
 simp[List.getD,List.getElem?_append_right]
theorem RdL.mono {es x l} (h:RdL es l):RdL (es ++ x) l:=by
 refine ⟨fun r hr => ?_,h.2⟩
 obtain ⟨h0,h1,h2⟩:=h.1 r hr
 refine ⟨h0,by rw[List.length_append];omega,?_⟩
 rw[getD_l (by omega)];exact h2
theorem DpL.mono {es x l} (h:DpL es l):DpL (es ++ x) l:=by
 refine ⟨fun p hp => ?_,h.2⟩
 obtain ⟨h0,h1,h2,h3,h4⟩:=h.1 p hp
 refine ⟨h0,h1,by rw[List.length_append];omega,?_,?_⟩
 ·rw[getD_l (by omega)];exact h3
 ·rw[getD_l (by omega),getD_l (by omega)];exact h4
theorem RmP.mono {es x p} (h:RmP es p):RmP (es ++ x) p:=by
 obtain ⟨h0,h1,h2,h3⟩:=h
 refine ⟨h0,h1,by rw[List.length_append];omega,?_⟩
 rw[getD_l (by omega),getD_l (by omega)];exact h3
theorem inC_app (a b:List (Int × Int)) (i:Nat):inC (a ++ b) i = inC a i + inC b i:=by simp[inC]
theorem inC_zero {l:List (Int × Int)} {i:Nat} (h:∀ p∈l,p.1≠(i:Int)∧p.2≠(i:Int)):inC l i = 0:=by
 unfold inC
 rw[List.length_eq_zero_iff,List.filter_eq_nil_iff]
 intro p hp
 have:=h p hp
 simp[inB,this.1,this.2]
theorem DpL.pairs {es:List Ev} {l:List (Int × Int)} {rs:List Int} {e:Ev} (h:DpL es l) (hr:RdL es rs) (ht:∀ x∈es,x.th = e.th):DpL (es ++ [e]) (pairsI l rs es.length):=by
 refine ⟨fun p hp => ?_,pairsI_pw h.2 (fun r hr' hm => ?_) hr.2.nodup⟩
 ·rcases pairsI_mem.1 hp with hp | ⟨hp2,hp1⟩
  ·exact (h.mono (x:=[e])).1 p hp
  ·obtain ⟨h0,h1,h2⟩:=hr.1 _ hp1
   refine ⟨h0,by omega,by rw[List.length_append];simp;omega,?_,?_⟩
   ·rw[getD_l (by omega)];exact h2
   ·rw[getD_l (by omega),hp2,show ((es.length:Int)).toNat = es.length + 0 by simp,getD_r]
    have:es.getD p.1.toNat ev0∈es:=by
     rw[List.getD_eq_getElem?_getD,List.getElem?_eq_getElem (by omega)]
     exact List.getElem_mem _
    exact ht _ this
 ·have:=h.1 _ hm
  simp only at this
  omega
theorem RmL.one {es l} {e:Ev} (h:RmL es l) (he:e.ex = false):RmL (es ++ [e]) l:=by
 refine ⟨fun p hp => (h.pairs p hp).mono,fun i hi => ?_,h.rise,by have:=h.len;rw[List.length_append];omega⟩
 by_cases c:i < es.length
 ·rw[getD_l c];exact h.once i c
 ·obtain rfl:i = es.length:=by rw[List.length_append] at hi;simp at hi;omega
  have hz:inC l es.length = 0:=inC_zero fun p hp => by
   obtain ⟨h0,h1,h2,_⟩:=h.pairs p hp
   omega
  rw[hz]
  refine ⟨by omega,?_⟩
  have:(es ++ [e]).getD es.length ev0 = e:=by have:=getD_r (es:=es) (x:=[e]) (i:=0);rw[Nat.add_zero] at this;rw[this];rfl
  rw[this,he]
  rfl
theorem RmL.two {es l} {r w:Ev} (h:RmL es l) (h1:r.th = w.th) (h2:r.kd = 1) (h3:w.kd = 2) (h4:r.lc = w.lc) (h5:r.ex = true) (h6:w.ex = true):RmL (es ++ [r] ++ [w]) (l ++ [((es.length:Int),(es.length:Int) + 1)]):=by
 have er:(es ++ [r] ++ [w]).getD es.length ev0 = r:=by
  rw[List.append_assoc];simp
 have ew:(es ++ [r] ++ [w]).getD (es.length + 1) ev0 = w:=by
  rw[List.append_assoc];simp
 have hlen:(es ++ [r] ++ [w]).length = es.length + 2:=by simp
 refine ⟨fun p hp => ?_,fun i hi => ?_,?_,?_⟩
 ·rcases List.mem_append.1 hp with hp | hp
  ·rw[List.append_assoc];exact (h.pairs p hp).mono
  ·obtain rfl:p = ((es.length:Int),(es.length:Int) + 1):=by simpa using hp
   have e1:((es.length:Int)).toNat = es.length:=by omega
   have e2:((es.length:Int) + 1).toNat = es.length + 1:=by omega
   refine ⟨by simp,rfl,by rw[hlen];simp,?_⟩
   simp only[e1,e2,er,ew]
   exact ⟨h1,h2,h3,h4,h5,h6⟩
 ·rw[inC_app]
  rw[hlen] at hi
  by_cases c:i < es.length
  ·have hz:inC [((es.length:Int),(es.length:Int) + 1)] i = 0:=inC_zero fun p hp => by
    obtain rfl:p = ((es.length:Int),(es.length:Int) + 1):=by simpa using hp
    simp only;omega
   rw[hz,List.append_assoc,getD_l c]
   exact h.once i c
  ·have hz:inC l i = 0:=inC_zero fun p hp => by
    obtain ⟨h0,h1,h2,_⟩:=h.pairs p hp
    omega
   rw[hz]
   by_cases c2:i = es.length
   ·subst c2
    rw[er,h5]
    simp[inC,inB]
   ·obtain rfl:i = es.length + 1:=by omega
    rw[ew,h6]
    simp[inC,inB]
 ·refine List.pairwise_append.2 ⟨h.rise,by simp,fun p hp q hq => ?_⟩
  obtain rfl:q = ((es.length:Int),(es.length:Int) + 1):=by simpa using hq
  obtain ⟨h0,h1,h2,_⟩:=h.pairs p hp
  unfold lessP
  simp only
  omega
 ·have:=h.len
  simp
  omega
structure RIn0 (s:RS):Prop where
 ev:∀ e∈s.evs,EvT e
 data:DpL s.evs s.data
 ctrl:DpL s.evs s.ctrl
 frm:∀ l∈s.frm,RdL s.evs l
 now:RdL s.evs s.now
 f8:s.frm.length = 8
 r8:s.regs.length = 8
 dl:s.data.length≤s.evs.length * s.evs.length
 cl:s.ctrl.length≤s.evs.length * s.evs.length
structure RInv (s:RS):Prop where
 b:RIn0 s
 rmw:RmL s.evs s.rmw
theorem RdL.len {es l} (h:RdL es l):l.length≤es.length:=by
 have:=up_len (lo:=0) (hi:=es.length) h.2 fun r hr => ⟨(h.1 r hr).1,(h.1 r hr).2.1⟩
 omega
theorem rdL_nil (es):RdL es []:=⟨fun r hr => absurd hr (List.not_mem_nil),List.Pairwise.nil⟩
theorem RIn0.ev1 {s:RS} {e:Ev} {dl:List Int} (h:RIn0 s) (he:EvT e) (hd:RdL s.evs dl):RIn0 (evR s e dl):=by
 have hth:∀ x∈s.evs,x.th = e.th:=fun x hx => by rw[(h.ev x hx).1,he.1]
 have hq:∀ a m:Nat,a≤m * m→∀ b,b≤m→a + b≤(m + 1) * (m + 1):=by
  intro a m h1 b h2
  have:(m + 1) * (m + 1) = m * m + m + m + 1:=by rw[Nat.add_mul,Nat.mul_add];omega
  omega
 refine ⟨fun x hx => ?_,h.data.pairs hd hth,h.ctrl.pairs h.now hth,fun l hl => (h.frm l hl).mono,h.now.mono,h.f8,h.r8,?_,?_⟩
 ·rcases List.mem_append.1 hx with hx | hx
  ·exact h.ev x hx
  ·obtain rfl:x = e:=by simpa using hx
   exact he
 ·show (pairsI _ _ _).length≤(s.evs ++ [e]).length * (s.evs ++ [e]).length
  rw[pairsI_len,List.length_append,List.length_singleton]
  exact hq _ _ h.dl _ hd.len
 ·show (pairsI _ _ _).length≤(s.evs ++ [e]).length * (s.evs ++ [e]).length
  rw[pairsI_len,List.length_append,List.length_singleton]
  exact hq _ _ h.cl _ h.now.len
theorem RdL.both {es a b} (ha:RdL es a) (hb:RdL es b):RdL es (bothI a b):=by
 refine ⟨fun r hr => ?_,bothI_up ha.2⟩
 rcases bothI_mem.1 hr with h | h
 ·exact ha.1 r h
 ·exact hb.1 r h
theorem RIn0.at {s:RS} (h:RIn0 s) (r:Nat):RdL s.evs (s.frm.getD r []):=by
 by_cases c:r < s.frm.length
 ·refine h.frm _ ?_
  rw[List.getD_eq_getElem?_getD,List.getElem?_eq_getElem c]
  exact List.getElem_mem c
 ·rw[List.getD_eq_getElem?_getD,List.getElem?_eq_none (by omega)]
  exact rdL_nil _
theorem RIn0.of {s:RS} (h:RIn0 s) (ex):RdL s.evs (ofR s ex):=by
 unfold ofR exR
 split
 ·exact (rdL_nil _).both (h.at _)
 ·exact rdL_nil _
theorem mem_set {α:Type} {l:List α} {i:Nat} {a x:α} (h:x∈l.set i a):x∈l∨x = a:=List.mem_or_eq_of_mem_set h
theorem RIn0.rd {s:RS} (h:RIn0 s) {reads:List Int} {loc mode:Int} {ex:Bool} {reg:Nat} (hl:loc = 0∨loc = 1) (hm:mode = 0∨mode = 1):RIn0 (rdR s reads loc mode ex reg):=by
 unfold rdR
 split
 ·exact ⟨h.ev,h.data,h.ctrl,h.frm,h.now,h.f8,h.r8,h.dl,h.cl⟩
 ·have h1:RIn0 (evR { s with used:=s.used + 1 } ⟨0,1,mode,loc,reads.getD s.used 0,ex⟩ []):=
   RIn0.ev1 (s:={ s with used:=s.used + 1 }) ⟨h.ev,h.data,h.ctrl,h.frm,h.now,h.f8,h.r8,h.dl,h.cl⟩ ⟨rfl,.inl ⟨rfl,hl,hm⟩⟩ (rdL_nil _)
  refine ⟨h1.ev,h1.data,h1.ctrl,fun l hl => ?_,h1.now,by simpa using h1.f8,by simpa using h1.r8,h1.dl,h1.cl⟩
  rcases mem_set hl with hl | rfl
  ·exact h1.frm l hl
  ·refine ⟨fun r hr => ?_,by simp[Up]⟩
   obtain rfl:r = (s.evs.length:Int):=by simpa using hr
   refine ⟨by omega,?_,?_⟩
   ·show _ < (((s.evs ++ [_]).length:Nat):Int)
    simp;omega
   ·show ((s.evs ++ [_]).getD _ ev0).kd = 1
    have:=getD_r (es:=s.evs) (x:=[⟨0,1,mode,loc,reads.getD s.used 0,ex⟩]) (i:=0)
    simp only[Nat.add_zero] at this
    rw[show ((s.evs.length:Int)).toNat = s.evs.length by omega,this]
    rfl
theorem RIn0.wr {s:RS} (h:RIn0 s) {loc mode:Int} {ex:Bool} {v:Int} {dl:List Int} (hl:loc = 0∨loc = 1) (hm:mode = 0∨mode = 2) (hd:RdL s.evs dl):RIn0 (wrR s loc mode ex v dl):=by
 have h1:RIn0 (evR s ⟨0,2,mode,loc,v,ex⟩ dl):=h.ev1 ⟨rfl,.inr (.inl ⟨rfl,hl,hm⟩)⟩ hd
 unfold wrR
 dsimp only
 split
 ·exact ⟨h1.ev,h1.data,h1.ctrl,h1.frm,h1.now,h1.f8,h1.r8,h1.dl,h1.cl⟩
 ·exact h1
theorem RInv.st {s:RS} (h:RInv s) {V reads x} {left:Int} (hx:InsK left x):RInv (stR V reads s x):=by
 unfold stR
 cases hx with
 | ld md rg lc h1 h2 h3 =>
   rw[if_pos rfl]
   refine ⟨h.b.rd h3 h1,?_⟩
   unfold rdR
   split
   ·exact h.rmw
   ·exact h.rmw.one (e:=⟨0,1,md,lc,reads.getD s.used 0,false⟩) rfl
 | st md lc ex h1 h3 he =>
   rw[if_neg (by simp),if_pos rfl]
   exact ⟨h.b.wr h3 h1 (h.b.of ex),h.rmw.one (e:=⟨0,2,md,lc,V ex s.regs,false⟩) rfl⟩
 | fe md h1 =>
   rw[if_neg (by simp),if_neg (by simp),if_pos rfl]
   exact ⟨h.b.ev1 ⟨rfl,.inr (.inr ⟨rfl,by simp only;omega,by simp only;omega,rfl,rfl,rfl⟩)⟩ (rdL_nil _),h.rmw.one rfl⟩
 | fa md md2 rg lc c h1 h4 h2 h3 h5 =>
   rw[if_neg (by simp),if_neg (by simp),if_neg (by simp),if_pos rfl]
   have hr:=h.b.rd (reads:=reads) (ex:=true) (reg:=rg.toNat) h3 h1
   unfold faR
   dsimp only
   split
   ·rename_i hc
    refine ⟨hr,?_⟩
    unfold rdR
    rw[if_pos hc]
    exact h.rmw
   ·rename_i hc
    have hof:RdL (rdR s reads lc md true rg.toNat).evs (ofR s [(1,c)]):=by
     show RdL _ []
     exact rdL_nil _
    refine ⟨hr.wr h3 h4 (hof.both (hr.at _)),?_⟩
    have he:(rdR s reads lc md true rg.toNat).evs = s.evs ++ [⟨0,1,md,lc,reads.getD s.used 0,true⟩]:=by
     unfold rdR;rw[if_neg hc];rfl
    have hm:(rdR s reads lc md true rg.toNat).rmw = s.rmw:=by
     unfold rdR;rw[if_neg hc];rfl
    generalize rdR s reads lc md true rg.toNat = s1 at he hm
    unfold wrR evR
    dsimp only
    rw[if_pos rfl]
    dsimp only
    rw[he,hm]
    have hn:(((s.evs ++ [(⟨0,1,md,lc,reads.getD s.used 0,true⟩:Ev)]).length:Nat):Int) - 1 = (s.evs.length:Int):=by simp
    have hn2:(((s.evs ++ [(⟨0,1,md,lc,reads.getD s.used 0,true⟩:Ev)]).length:Nat):Int) = (s.evs.length:Int) + 1:=by simp
    rw[hn,hn2]
    exact h.rmw.two rfl rfl rfl rfl rfl rfl
 | se rg ex h2 he =>
   rw[if_neg (by simp),if_neg (by simp),if_neg (by simp),if_neg (by simp),if_pos rfl]
   refine ⟨⟨h.b.ev,h.b.data,h.b.ctrl,fun l hl => ?_,h.b.now,by simpa using h.b.f8,by simpa using h.b.r8,h.b.dl,h.b.cl⟩,h.rmw⟩
   rcases mem_set hl with hl | rfl
   ·exact h.b.frm l hl
   ·exact h.b.of ex
 | sk ex n he h0 h1 =>
   rw[if_neg (by simp),if_neg (by simp),if_neg (by simp),if_neg (by simp),if_neg (by simp)]
   exact ⟨⟨h.b.ev,h.b.data,h.b.ctrl,h.b.frm,h.b.now.both (h.b.of ex),h.b.f8,h.b.r8,h.b.dl,h.b.cl⟩,h.rmw⟩
theorem stR_evs (V reads s x):(stR V reads s x).evs.length≤s.evs.length + 2:=by
 have rd:∀ loc mode ex reg,(rdR s reads loc mode ex reg).evs.length≤s.evs.length + 1:=by
  intro loc mode ex reg
  unfold rdR
  split
  ·exact Nat.le_succ _
  ·show (s.evs ++ [_]).length≤_;simp
 have wr:∀ s:RS,∀ loc mode ex v dl,(wrR s loc mode ex v dl).evs.length = s.evs.length + 1:=by
  intro s loc mode ex v dl
  unfold wrR
  dsimp only
  split<;>(show (s.evs ++ [_]).length = _;simp)
 unfold stR
 split
 ·have:=rd x.lc x.md false x.rg.toNat;omega
 split
 ·rw[wr];omega
 split
 ·show (s.evs ++ [_]).length≤_;simp
 split
 ·unfold faR
  dsimp only
  have:=rd x.lc x.md true x.rg.toNat
  split
  ·omega
  ·rw[wr];omega
 split
 ·exact Nat.le_add_right _ _
 ·exact Nat.le_add_right _ _
theorem RInv.run {V reads th} (hk:∀ k,k < th.length→∃ left,InsK left (th.getD k fence0)):∀ f k s,RInv s→RInv (runR V reads th f k s)∧(runR V reads th f k s).evs.length≤s.evs.length + 2 * f
 | 0,k,s,h => ⟨h,Nat.le_refl _⟩
 | f + 1,k,s,h => by
   unfold runR
   split
   ·rename_i hc
    obtain ⟨left,hx⟩:=hk k hc.1
    have h1:=RInv.run (V:=V) (reads:=reads) hk f (k + skR V s (th.getD k fence0) + 1) _ (h.st (V:=V) (reads:=reads) hx)
    have h2:=stR_evs V reads s (th.getD k fence0)
    exact ⟨h1.1,by omega⟩
   ·exact ⟨h,by omega⟩
end Go.Ab
end
section
set_option linter.unusedVariables false
set_option linter.unusedSimpArgs false
namespace Go.Ab
variable {F:Funs}
theorem oSlice {c:CS} {al:Nat→Bool} {lo id:Nat} {e:Env} {g:G} (esz x l h m):opE c al lo id (.slice esz x l h m) e g = vSlice esz (x.ev e) (evo e l) (evo e h) (evo e m) g:=rfl
theorem evoN (e:Env):evo e none = none:=rfl
theorem evoS (e:Env) (x:Opd):evo e (some x) = some (x.ev e):=rfl
theorem slTo {esz n k:Nat} {cs:List AV} {t:Tok} {g:G} (h:k≤n):vSlice esz (.sl cs n t) none (some (.i .i64 ((k:Nat):Int))) none g = some (.sl (cs.take (k * esz)) k (if t = .rig∧((k:Nat):Int) = ((n:Nat):Int) then .rig else .non),g):=by
 simp only[vSlice,bnd]
 rw[if_pos ⟨by omega,by omega,by omega⟩]
 simp
theorem slFrom {esz n k:Nat} {cs:List AV} {t:Tok} {g:G} (h:k≤n):vSlice esz (.sl cs n t) (some (.i .i64 ((k:Nat):Int))) none none g = some (.sl ((cs.drop (k * esz)).take ((n - k) * esz)) (n - k) (if t = .rig then .rig else .non),g):=by
 simp only[vSlice,bnd]
 rw[if_pos ⟨by omega,by omega,by omega⟩]
 simp only[Int.toNat_natCast,and_true]
theorem intsC_len (l:List Int):(intsC l).length = l.length:=by simp[intsC]
end Go.Ab
end
section
set_option linter.unusedVariables false
set_option linter.unusedSimpArgs false
namespace Go.Ab
variable {F:Funs}
theorem o_appM {c:CS} {al:Nat→Bool} {lo id:Nat} {e:Env} {g:G} (esz b x y):opE c al lo id (.appM esz b x y) e g = vAppM al id esz b (x.ev e) (y.ev e) g:=rfl
def apmR (id esz b m ld:Nat) (ds:List AV) (g:G) (ok:Bool):Option (AV × G):=if 1≤m∧m * b≤2 ^ 46∧m≤2 ^ 62∧ld = m * esz∧ok then some (.ms id 0 m,⟨upd g.hp id (some (.cells ds false)),g.nx⟩) else none
theorem vAppM_rig {al:Nat→Bool} {id esz b m:Nat} {ds:List AV} {t:Tok} {g:G}:vAppM al id esz b (.sl [] 0 .rig) (.sl ds m t) g = apmR id esz b m ds.length ds g (ds.all one):=rfl
theorem apmR_ok {id esz b m ld:Nat} {ds:List AV} {g:G} (h:1≤m∧b≤1000∧m≤1000000∧ld = m * esz):apmR id esz b m ld ds g true = some (.ms id 0 m,⟨upd g.hp id (some (.cells ds false)),g.nx⟩):=by
 obtain ⟨h1,h2,h3,h4⟩:=h
 exact if_pos ⟨h1,Nat.le_trans (Nat.mul_le_mul h3 h2) (by omega),Nat.le_trans h3 (by omega),h4,rfl⟩
def apmS (id esz bytes b n m ld:Nat) (ds:List AV) (g:G) (ok:Bool):Option Blk→Option (AV × G)
 | some (.cells cs false) => if 1≤n∧1≤m∧(n + m) * bytes≤2 ^ 46∧n + m≤2 ^ 62∧cs.length = n * esz∧ld = m * esz∧ok then
         some (.ms id 0 (n + m),⟨upd (upd g.hp b (some (.tok false))) id (some (.cells (cs ++ ds) false)),g.nx⟩)
    else none
 | _ => none
theorem vAppM_S {al:Nat→Bool} {id esz bytes b n m:Nat} {ds:List AV} {t:Tok} {g:G}:vAppM al id esz bytes (.ms b 0 n) (.sl ds m t) g = apmS id esz bytes b n m ds.length ds g (ds.all one) (selB (al b) (g.hp b)):=by
 unfold vAppM vSrcM
 simp only[rd_S]
 cases selB (al b) (g.hp b) with
 | none => rfl
 | some bl =>
   cases bl with
   | cells cs ro => cases ro<;>rfl
   | map es => rfl
   | tok l => rfl
end Go.Ab
end
section
set_option linter.unusedVariables false
namespace Go.Ab
theorem o_clr {c:CS} {al:Nat→Bool} {lo id:Nat} {e:Env} {g:G} (esz z x):opE c al lo id (.clr esz z x) e g = vClr al esz z (x.ev e) g:=rfl
def clrS (esz zl b off n:Nat) (zs:List AV) (g:G):Option Blk→Option (AV × G)
 | some (.cells cs false) => if 0 < n∧zl = esz∧off + n * esz≤cs.length then some (.tup [],⟨upd g.hp b (some (.cells (splice cs off zs) false)),g.nx⟩) else none
 | _ => none
theorem vClr_S {al:Nat→Bool} {esz b off n:Nat} {z:List AV} {g:G}:vClr al esz z (.ms b off n) g = clrS esz z.length b off n (List.replicate n z).flatten g (selB (al b) (g.hp b)):=by
 unfold vClr
 simp only[rd_S]
 cases selB (al b) (g.hp b) with
 | none => rfl
 | some bl =>
   cases bl with
   | cells cs ro => cases ro<;>rfl
   | _ => rfl
theorem clrS_ok {esz zl b off n:Nat} {zs cs:List AV} {g:G} (h:0 < n∧zl = esz∧off + n * esz≤cs.length):clrS esz zl b off n zs g (some (.cells cs false)) = some (.tup [],⟨upd g.hp b (some (.cells (splice cs off zs) false)),g.nx⟩):=if_pos h
theorem o_cutM {c:CS} {al:Nat→Bool} {lo id:Nat} {e:Env} {g:G} (esz x y):opE c al lo id (.cutM esz x y) e g = vCutM al id esz (x.ev e) (y.ev e) g:=rfl
def cutS (id esz b n:Nat) (k:Int) (g:G):Option Blk→Option (AV × G)
 | some (.cells cs false) => if 0≤k∧k≤n∧1≤n∧cs.length = n * esz then some (.ms id 0 k.toNat,⟨upd (upd g.hp b (some (.tok false))) id (some (.cells (cs.take (k.toNat * esz)) false)),g.nx⟩) else none
 | _ => none
theorem vCutM_S {al:Nat→Bool} {id esz b n:Nat} {ki:IntKind} {k:Int} {g:G}:vCutM al id esz (.ms b 0 n) (.i ki k) g = cutS id esz b n k g (selB (al b) (g.hp b)):=by
 unfold vCutM
 simp only[rd_S]
 cases selB (al b) (g.hp b) with
 | none => rfl
 | some bl =>
   cases bl with
   | cells cs ro => cases ro<;>rfl
   | _ => rfl
theorem cutS_ok {id esz b n:Nat} {k:Int} {cs:List AV} {g:G} (h:0≤k∧k≤n∧1≤n∧cs.length = n * esz):cutS id esz b n k g (some (.cells cs false)) = some (.ms id 0 k.toNat,⟨upd (upd g.hp b (some (.tok false))) id (some (.cells (cs.take (k.toNat * esz)) false)),g.nx⟩):=if_pos h
end Go.Ab
end
section
set_option linter.unusedVariables false
set_option linter.unusedSimpArgs false
namespace Go.Ab
variable {F:Funs}
def fnM (hp:Nat→Option Blk) (f:Nat):Option Blk→Option AV
 | some (.cells cs _) => (frzL hp 7 (cs.drop 0)).map fun ds => .fn f [] [.ptr ds]
 | _ => none
theorem frz_fnM (hp f id):frz hp depth (.fn f [] [.mp id 0]) = fnM hp f (hp id):=by
 show frz hp (8 + 1) _ = _
 simp only[frz,frzL]
 unfold fnM
 cases hp id with
 | none => rfl
 | some b =>
   cases b with
   | cells cs ro => simp only;cases frzL hp 7 (cs.drop 0)<;>rfl
   | _ => rfl
theorem fnM_sl (hp f cs n t ro):fnM hp f (some (.cells [.sl cs n t] ro)) = some (.fn f [] [.ptr [.sl cs n .non]]):=by
 show (frzL hp 7 [.sl cs n t]).map _ = _
 simp only[frzL,frz,Option.map_some]
theorem frz_fn1 (hp f cs):frz hp depth (.fn f [] [.ptr cs]) = some (.fn f [] [.ptr cs]):=by
 show frz hp (8 + 1) _ = _
 simp only[frz,frzL]
theorem vis_fn1 (hp f cs):vis hp depth (.fn f [] [.ptr cs]) = []:=by
 show vis hp (8 + 1) _ = _
 simp only[vis,List.flatMap_cons,List.flatMap_nil,List.append_nil]
theorem retV_rr {rs:List ARes} {P:AV→Prop} {e:Env} {g:G}:retV rs P .ret e g = (∃ v,(match resE rs e g with | some v0 => frz g.hp depth v0 | none => none) = some v∧P v):=rfl
def lv (l:List Int):AV:=.sl (intsC l) l.length .non
theorem llC_at {L:List (List Int)} {k:Nat} (h:k < L.length):part ((llC L).drop (k * 1)) 0 none = some (lv (L.getD k [])):=by
 simp only[part,llC,List.getElem?_drop,Nat.mul_one,Nat.add_zero,List.getElem?_map,List.getElem?_eq_getElem h,Option.map_some,List.getD_eq_getElem?_getD,Option.getD_some,lv]
theorem getL_mem {L:List (List Int)} {k:Nat} (h:k < L.length):L.getD k []∈L:=by
 rw[List.getD_eq_getElem?_getD,List.getElem?_eq_getElem h]
 exact List.getElem_mem h
theorem f_lv (hp l):frz hp depth (lv l) = some (lv l):=frz_d_sl _ _ _ _
theorem v_lv (hp l):vis hp depth (lv l) = []:=vis_sl _ _ _ _
theorem any_take_succ {L:List (List Int)} {p:List Int→Bool} {k:Nat} (h:k < L.length):(L.take (k + 1)).any p = ((L.take k).any p || p (L.getD k [])):=by
 rw[List.take_add_one,List.getElem?_eq_getElem h,List.getD_eq_getElem?_getD,List.getElem?_eq_getElem h,List.any_append]
 simp
structure ILL (C1:List AV) (n1:Nat) (t1:Tok) (e1v:AV) (P:Nat→Prop) (k:Nat) (e:Env) (g:G):Prop where
 hk:k≤n1
 e0:e 0 = .sl C1 n1 t1
 e1:e 1 = e1v
 e5:e 5 = .i .i64 ((k:Nat):Int)
 h:P k
structure ILX (C1:List AV) (n1:Nat) (t1:Tok) (e1v:AV) (P:Nat→Prop) (k:Nat) (e:Env) (g:G):Prop where
 hk:k≤n1
 e0:e 0 = .sl C1 n1 t1
 e1:e 1 = e1v
 e7:e 7 = .i .i64 ((n1:Nat):Int)
 e8:e 8 = .i .i64 ((k:Nat):Int)
 h:P k
def PredOk (F:Funs) (L:List (List Int)) (fid:Nat) (cs:List AV) (p:List Int→Bool):Prop:=∀ l∈L,pureS F fid [lv l,.ptr cs] = some (.b (p l))
theorem sp_indexLL (h:F 423 = some A_slices_IndexFunc_llint_lint) {L:List (List Int)} (hL:L.length≤1000000) (t:Tok) {fid:Nat} {cs:List AV} {p:List Int→Bool} (hp:PredOk F L fid cs p):
  ∃ r:Int,pureS F 423 [.sl (llC L) L.length t,.fn fid [] [.ptr cs]] = some (.i .i64 r)∧decide (0≤r) = L.any p:=by
 have key:∃ v,pureS F 423 [.sl (llC L) L.length t,.fn fid [] [.ptr cs]] = some v∧∃ r:Int,v = .i .i64 r∧decide (0≤r) = L.any p:=by
  refine pureV_of (P:=fun v => ∃ r:Int,v = .i .i64 r∧decide (0≤r) = L.any p) h ?_
  simp (disch:=omega) only[A_slices_IndexFunc_llint_lint,wp,qa,qb,qc]
  refine blk_cutR (fun e g => L.any p = false) ?_ ?_
  ·refine W_loop (fun q e g => ∃ k,q = L.length - k∧ILX (llC L) L.length t (.fn fid [] [.ptr cs]) (fun k => (L.take k).any p = false) k e g) L.length ?_ ?_
   ·exact ⟨0,rfl,⟨Nat.zero_le _,rfl,rfl,rfl,rfl,rfl⟩⟩
   ·rintro q e g ⟨k,rfl,hk,e0,e1,e7,e8,ha⟩
    by_cases c1:k < L.length
    ·have c1':((k:Nat):Int) < ((L.length:Nat):Int):=by omega
     have hpt:=llC_at (L:=L) (k:=k) c1
     have hw:=succ_wrap (k:=k) (by omega)
     have hpk:=hp _ (getL_mem c1)
     have hs:=any_take_succ (p:=p) c1
     rw[ha,Bool.false_or] at hs
     cases c2:p (L.getD k []) with
     | true =>
       rw[c2] at hpk hs
       simp (disch:=omega) only[wp,qa,qb,qc,e0,e1,e7,e8,c1',hpt,hpk,f_lv,v_lv,retV_rr]
       refine ⟨_,rfl,⟨_,rfl,?_⟩⟩
       rw[decide_eq_true (by omega)]
       symm
       rw[List.any_eq_true] at hs ⊢
       obtain ⟨x,h1,h2⟩:=hs
       exact ⟨x,List.mem_of_mem_take h1,h2⟩
     | false =>
       rw[c2] at hpk hs
       simp (disch:=omega) only[wp,qa,qb,qc,e0,e1,e7,e8,c1',hpt,hpk,f_lv,v_lv,hw]
       exact ⟨L.length - (k + 1),by omega,k + 1,rfl,⟨by omega,e0,e1,e7,rfl,hs⟩⟩
    ·have c1':¬ ((k:Nat):Int) < ((L.length:Nat):Int):=by omega
     simp (disch:=omega) only[wp,qa,qb,qc,e0,e1,e7,e8,c1']
     rw[List.take_of_length_le (by omega)] at ha
     exact ha
  ·rintro e g ha
   simp (disch:=omega) only[wp,qa,qb,qc,retV_rr]
   exact ⟨_,rfl,⟨-1,rfl,by rw[ha];rfl⟩⟩
 obtain ⟨v,h1,r,rfl,h2⟩:=key
 exact ⟨r,h1,h2⟩
theorem sp_containsLL (h376:F 376 = some A_slices_ContainsFunc_llint_lint) (h423:F 423 = some A_slices_IndexFunc_llint_lint) {L:List (List Int)} (hL:L.length≤1000000) (t:Tok) {fid:Nat} {cs:List AV} {p:List Int→Bool} (hp:PredOk F L fid cs p):
  pureS F 376 [.sl (llC L) L.length t,.fn fid [] [.ptr cs]] = some (.b (L.any p)):=by
 refine pure_of h376 ?_
 obtain ⟨r,h1,h2⟩:=sp_indexLL h423 hL .non hp
 simp (disch:=omega) only[A_slices_ContainsFunc_llint_lint,wp,qa,qb,qc,frz_fn1,vis_fn1,h1,h2]
structure MemF (F:Funs):Prop extends CmpF F where
 has:F 299 = some A_mem_Has
 isIn:F 300 = some A_mem_In
 has1:F 328 = some A_mem_Has_1
 in1:F 329 = some A_mem_In_1
 cont:F 376 = some A_slices_ContainsFunc_llint_lint
 idx:F 423 = some A_slices_IndexFunc_llint_lint
def hasL (L:List (List Int)) (m:List Int):Bool:=L.any fun x => decide (x = m)
def inL (A B:List (List Int)):Bool:=A.all fun x => hasL B x
theorem sp_mhas1 (A:MemF F) (x m:List Int) (hx:x.length≤1000000):pureS F 328 [lv x,.ptr [lv m]] = some (.b (decide (x = m))):=by
 refine pure_of A.has1 ?_
 have h:=sp_msame A.toCmpF x m .non .non hx
 unfold lv
 simp (disch:=omega) only[A_mem_Has_1,wp,qa,qb,qc,h]
theorem sp_mhas (A:MemF F) {L:List (List Int)} (hL:L.length≤1000000) (hl:∀ l∈L,l.length≤1000000) (t t2:Tok) (m:List Int):pureS F 299 [.sl (llC L) L.length t,.sl (intsC m) m.length t2] = some (.b (hasL L m)):=by
 refine pure_of A.has ?_
 have h:=sp_containsLL A.cont A.idx hL .non (fid:=328) (cs:=[lv m]) (p:=fun x => decide (x = m)) (fun l hm => sp_mhas1 A l m (hl l hm))
 unfold lv at h
 simp (disch:=omega) only[A_mem_Has,wp,qa,qb,qc,frz_fnM,fnM_sl,h]
 rfl
theorem sp_min1 (A:MemF F) {B:List (List Int)} (hB:B.length≤1000000) (hl:∀ l∈B,l.length≤1000000) (x:List Int):pureS F 329 [lv x,.ptr [.sl (llC B) B.length .non]] = some (.b (!hasL B x)):=by
 refine pure_of A.in1 ?_
 have h:=sp_mhas A hB hl .non .non x
 unfold lv
 simp (disch:=omega) only[A_mem_In_1,wp,qa,qb,qc,h]
theorem sp_min (A:MemF F) {L B:List (List Int)} (hL:L.length≤1000000) (hB:B.length≤1000000) (hl:∀ l∈B,l.length≤1000000) (t t2:Tok):pureS F 300 [.sl (llC L) L.length t,.sl (llC B) B.length t2] = some (.b (inL L B)):=by
 refine pure_of A.isIn ?_
 have h:=sp_containsLL A.cont A.idx hL .non (fid:=329) (cs:=[.sl (llC B) B.length .non]) (p:=fun x => !hasL B x) (fun l hm => sp_min1 A hB hl l)
 simp (disch:=omega) only[A_mem_In,wp,qa,qb,qc,frz_fnM,fnM_sl,h]
 have:(!L.any fun x => !hasL B x) = inL L B:=by
  unfold inL
  rw[List.not_any_eq_all_not]
  simp
 rw[this]
theorem sp_sameI (h296:F 296 = some A_xref06_SameInts) (x y:List Int) (hx:x.length≤1000000) (hy:y.length≤1000000) (t1 t2:Tok):pureS F 296 [.sl (intsC x) x.length t1,.sl (intsC y) y.length t2] = some (.b (decide (x = y))):=by
 refine pure_of h296 ?_
 by_cases c0:x.length = y.length
 ·have c0':(((x.length:Nat):Int) != ((y.length:Nat):Int)) = false:=by simp[c0]
  simp (disch:=omega) only[A_xref06_SameInts,wp,qa,qb,qc,c0']
  refine blk_cutR (fun e g => x = y) ?_ ?_
  ·refine W_loop (fun q e g => ∃ k,q = x.length - k∧ILL (intsC x) x.length t1 (.sl (intsC y) y.length t2) (fun k => x.take k = y.take k) k e g) x.length ?_ ?_
   ·exact ⟨0,rfl,⟨Nat.zero_le _,rfl,rfl,rfl,rfl⟩⟩
   ·rintro q e g ⟨k,rfl,hk,e0,e1,e5,ha⟩
    by_cases c1:k < x.length
    ·have c1':((k:Nat):Int) < ((x.length:Nat):Int):=by omega
     have hp1:=ints_part (l:=x) (k:=k) c1
     have hp2:=ints_part (l:=y) (k:=k) (by omega)
     have hw:=succ_wrap (k:=k) (by omega)
     by_cases c2:x.getD k 0 = y.getD k 0
     ·have c2':(x.getD k 0 != y.getD k 0) = false:=by simpa using c2
      simp (disch:=omega) only[wp,qa,qb,qc,e0,e1,e5,c1',hp1,hp2,c2',hw]
      refine ⟨x.length - (k + 1),by omega,k + 1,rfl,⟨by omega,e0,e1,rfl,?_⟩⟩
      have c4:k < y.length:=by omega
      rw[List.getD_eq_getElem?_getD,List.getD_eq_getElem?_getD,List.getElem?_eq_getElem c1,List.getElem?_eq_getElem c4] at c2
      have c5:x[k] = y[k]:=c2
      rw[List.take_succ_eq_append_getElem c1,List.take_succ_eq_append_getElem c4,ha,c5]
     ·have c2':(x.getD k 0 != y.getD k 0) = true:=by simpa using c2
      have:decide (x = y) = false:=decide_eq_false fun h => c2 (by rw[h])
      simp (disch:=omega) only[wp,qa,qb,qc,e0,e1,e5,c1',hp1,hp2,c2',this]
    ·have c1':¬ ((k:Nat):Int) < ((x.length:Nat):Int):=by omega
     simp (disch:=omega) only[wp,qa,qb,qc,e0,e1,e5,c1']
     rwa [List.take_of_length_le (by omega),List.take_of_length_le (by omega)] at ha
  ·rintro e g rfl
   simp (disch:=omega) only[wp,qa,qb,qc]
 ·have c0':(((x.length:Nat):Int) != ((y.length:Nat):Int)) = true:=by simp;omega
  have:decide (x = y) = false:=decide_eq_false fun h => c0 (by rw[h])
  simp (disch:=omega) only[A_xref06_SameInts,wp,qa,qb,qc,c0',this]
theorem sp_sameLL (h297:F 297 = some A_xref06_SameLists) (h296:F 296 = some A_xref06_SameInts) (x:List (List Int)) (hx:x.length≤1000000) (hl:∀ l∈x,l.length≤1000000) (t1 t2:Tok):pureS F 297 [.sl (llC x) x.length t1,.sl (llC x) x.length t2] = some (.b true):=by
 refine pure_of h297 ?_
 have c0':(((x.length:Nat):Int) != ((x.length:Nat):Int)) = false:=by simp
 simp (disch:=omega) only[A_xref06_SameLists,wp,qa,qb,qc,c0']
 refine blk_cut (fun e g => True) ?_ ?_
 ·refine W_loop (fun q e g => ∃ k,q = x.length - k∧ILL (llC x) x.length t1 (.sl (llC x) x.length t2) (fun k => True) k e g) x.length ?_ ?_
  ·exact ⟨0,rfl,⟨Nat.zero_le _,rfl,rfl,rfl,trivial⟩⟩
  ·rintro q e g ⟨k,rfl,hk,e0,e1,e5,_⟩
   by_cases c1:k < x.length
   ·have c1':((k:Nat):Int) < ((x.length:Nat):Int):=by omega
    have hp1:=llC_at (L:=x) (k:=k) c1
    have hw:=succ_wrap (k:=k) (by omega)
    have hm:=hl _ (getL_mem c1)
    have hs:=sp_sameI h296 (x.getD k []) (x.getD k []) hm hm .non .non
    rw[decide_eq_true rfl] at hs
    unfold lv at hp1
    simp (disch:=omega) only[wp,qa,qb,qc,e0,e1,e5,c1',hp1,hs,hw]
    exact ⟨x.length - (k + 1),by omega,k + 1,rfl,⟨by omega,e0,e1,rfl,trivial⟩⟩
   ·have c1':¬ ((k:Nat):Int) < ((x.length:Nat):Int):=by omega
    simp (disch:=omega) only[wp,qa,qb,qc,e0,e1,e5,c1']
 ·rintro e g _
  simp (disch:=omega) only[wp,qa,qb,qc]
theorem sp_rhas (h541:F 541 = some A_xref08_Has) (h296:F 296 = some A_xref06_SameInts) {L:List (List Int)} (hL:L.length≤1000000) (hl:∀ l∈L,l.length≤1000000) (m:List Int) (hm:m.length≤1000000) (t t2:Tok):pureS F 541 [.sl (llC L) L.length t,.sl (intsC m) m.length t2] = some (.b (hasL L m)):=by
 refine pure_of h541 ?_
 simp (disch:=omega) only[A_xref08_Has,wp,qa,qb,qc]
 refine blk_cutR (fun e g => hasL L m = false) ?_ ?_
 ·refine W_loop (fun q e g => ∃ k,q = L.length - k∧ILL (llC L) L.length t (.sl (intsC m) m.length t2) (fun k => hasL (L.take k) m = false) k e g) L.length ?_ ?_
  ·exact ⟨0,rfl,⟨Nat.zero_le _,rfl,rfl,rfl,rfl⟩⟩
  ·rintro q e g ⟨k,rfl,hk,e0,e1,e5,ha⟩
   by_cases c1:k < L.length
   ·have c1':((k:Nat):Int) < ((L.length:Nat):Int):=by omega
    have hp1:=llC_at (L:=L) (k:=k) c1
    have hw:=succ_wrap (k:=k) (by omega)
    have hs:=sp_sameI h296 (L.getD k []) m (hl _ (getL_mem c1)) hm .non .non
    have ht:hasL (L.take (k + 1)) m = (hasL (L.take k) m || decide (L.getD k [] = m)):=any_take_succ (p:=fun x => decide (x = m)) c1
    rw[ha,Bool.false_or] at ht
    unfold lv at hp1
    by_cases c2:L.getD k [] = m
    ·rw[decide_eq_true c2] at hs ht
     have:hasL L m = true:=by
      unfold hasL at ht ⊢
      rw[List.any_eq_true] at ht ⊢
      obtain ⟨x,h1,h2⟩:=ht
      exact ⟨x,List.mem_of_mem_take h1,h2⟩
     simp (disch:=omega) only[wp,qa,qb,qc,e0,e1,e5,c1',hp1,hs,hw,this]
    ·rw[decide_eq_false c2] at hs ht
     simp (disch:=omega) only[wp,qa,qb,qc,e0,e1,e5,c1',hp1,hs,hw]
     exact ⟨L.length - (k + 1),by omega,k + 1,rfl,⟨by omega,e0,e1,rfl,ht⟩⟩
   ·have c1':¬ ((k:Nat):Int) < ((L.length:Nat):Int):=by omega
    simp (disch:=omega) only[wp,qa,qb,qc,e0,e1,e5,c1']
    rwa [List.take_of_length_le (by omega)] at ha
 ·rintro e g h
  simp (disch:=omega) only[wp,qa,qb,qc,h]
theorem sp_rin (h542:F 542 = some A_xref08_In) (h541:F 541 = some A_xref08_Has) (h296:F 296 = some A_xref06_SameInts) {L B:List (List Int)} (hL:L.length≤1000000) (hlL:∀ l∈L,l.length≤1000000) (hB:B.length≤1000000) (hl:∀ l∈B,l.length≤1000000) (t t2:Tok):pureS F 542 [.sl (llC L) L.length t,.sl (llC B) B.length t2] = some (.b (inL L B)):=by
 refine pure_of h542 ?_
 simp (disch:=omega) only[A_xref08_In,wp,qa,qb,qc]
 refine blk_cutR (fun e g => inL L B = true) ?_ ?_
 ·refine W_loop (fun q e g => ∃ k,q = L.length - k∧ILL (llC L) L.length t (.sl (llC B) B.length t2) (fun k => inL (L.take k) B = true) k e g) L.length ?_ ?_
  ·exact ⟨0,rfl,⟨Nat.zero_le _,rfl,rfl,rfl,rfl⟩⟩
  ·rintro q e g ⟨k,rfl,hk,e0,e1,e5,ha⟩
   by_cases c1:k < L.length
   ·have c1':((k:Nat):Int) < ((L.length:Nat):Int):=by omega
    have hp1:=llC_at (L:=L) (k:=k) c1
    have hw:=succ_wrap (k:=k) (by omega)
    have hs:=sp_rhas h541 h296 hB hl (L.getD k []) (hlL _ (getL_mem c1)) .non .non
    unfold lv at hp1
    cases c2:hasL B (L.getD k []) with
    | false =>
      rw[c2] at hs
      have:inL L B = false:=by
       cases h:inL L B with
       | false => rfl
       | true =>
         unfold inL at h
         rw[List.all_eq_true] at h
         rw[h _ (getL_mem c1)] at c2
         cases c2
      simp (disch:=omega) only[wp,qa,qb,qc,e0,e1,e5,c1',hp1,hs,hw,this]
    | true =>
      rw[c2] at hs
      simp (disch:=omega) only[wp,qa,qb,qc,e0,e1,e5,c1',hp1,hs,hw]
      refine ⟨L.length - (k + 1),by omega,k + 1,rfl,⟨by omega,e0,e1,rfl,?_⟩⟩
      unfold inL at ha ⊢
      rw[List.take_add_one,List.getElem?_eq_getElem c1,List.all_append,ha]
      rw[List.getD_eq_getElem?_getD,List.getElem?_eq_getElem c1] at c2
      simpa using c2
   ·have c1':¬ ((k:Nat):Int) < ((L.length:Nat):Int):=by omega
    simp (disch:=omega) only[wp,qa,qb,qc,e0,e1,e5,c1']
    rwa [List.take_of_length_le (by omega)] at ha
 ·rintro e g h
  simp (disch:=omega) only[wp,qa,qb,qc,h]
end Go.Ab
end
section
namespace Go.Ab
theorem cptL_two (a b:List Int) (l:List (List Int)):cptL (a :: b :: l) = if a = b then cptL (b :: l) else a :: cptL (b :: l):=by
 rw[cptL]
theorem cptL_snoc:∀ (l:List (List Int)) (x y:List Int),cptL (l ++ [x,y]) = if x = y then cptL (l ++ [x]) else cptL (l ++ [x]) ++ [y]
 | [],x,y => by
   show cptL [x,y] = if x = y then cptL [x] else cptL [x] ++ [y]
   rw[cptL_two]
   by_cases h:x = y
   ·subst h;rfl
   ·rw[if_neg h,if_neg h];rfl
 | [a],x,y => by
   have ih:=cptL_snoc [] x y
   simp only[List.nil_append] at ih
   show cptL (a :: x :: [y]) = if x = y then cptL (a :: x :: []) else cptL (a :: x :: []) ++ [y]
   rw[cptL_two a x [y],cptL_two a x [],show cptL (x :: [y]) = _ from ih]
   by_cases h:a = x<;>by_cases k:x = y<;>simp[h,k]
 | a :: b :: l,x,y => by
   have ih:=cptL_snoc (b :: l) x y
   simp only[List.cons_append] at ih
   show cptL (a :: b :: (l ++ [x,y])) = if x = y then cptL (a :: b :: (l ++ [x])) else cptL (a :: b :: (l ++ [x])) ++ [y]
   rw[cptL_two,cptL_two,ih]
   by_cases h:a = b<;>by_cases k:x = y<;>simp[h,k]
theorem cptL_take {l:List (List Int)} {k:Nat} (h0:1≤k) (h:k < l.length):cptL (l.take (k + 1)) = if l[k - 1]'(by omega) = l[k] then cptL (l.take k) else cptL (l.take k) ++ [l[k]]:=by
 obtain ⟨j,rfl⟩:∃ j,k = j + 1:=⟨k - 1,by omega⟩
 have e1:l.take (j + 1) = l.take j ++ [l[j]]:=by rw[List.take_succ_eq_append_getElem]
 have e2:l.take (j + 1 + 1) = l.take j ++ [l[j],l[j + 1]]:=by
  have e3:l.take (j + 1 + 1) = l.take (j + 1) ++ [l[j + 1]]:=List.take_succ_eq_append_getElem h
  rw[e3,e1,List.append_assoc]
  rfl
 rw[e2,e1,cptL_snoc]
 rfl
theorem cptL_one {l:List (List Int)} (h:1≤l.length):cptL (l.take 1) = l.take 1:=by
 cases l with
 | nil => rfl
 | cons a l => simp[cptL]
end Go.Ab
end
section
set_option linter.unusedVariables false
set_option linter.unusedSimpArgs false
namespace Go.Ab
variable {F:Funs}
theorem slLoM {esz b n k:Nat} {ki:IntKind} {g:G} (h:0 < k∧k < n∧0 < esz):vSlice esz (.ms b 0 n) (some (.i ki ((k:Nat):Int))) none none g = some (.ms b (k * esz) (n - k),g):=by
 show (if 0 < ((k:Nat):Int)∧((k:Nat):Int) < ((n:Nat):Int)∧0 < esz then _ else _) = _
 rw[if_pos ⟨by omega,by omega,h.2.2⟩,Int.toNat_natCast,Nat.zero_add]
theorem ll_part {L:List (List Int)} {o k:Nat} (h:k < L.length) (ho:o = k):part (llC L) o none = some (lv (L.getD k [])):=by
 subst ho
 simp only[part,llC,List.getElem?_map,List.getElem?_eq_getElem h,Option.map_some,List.getD_eq_getElem?_getD,Option.getD_some,lv]
theorem llC_set (L:List (List Int)) (k o:Nat) (ho:o = k) (x:List Int):(llC L).set o (lv x) = llC (L.set k x):=by
 subst ho
 unfold llC lv
 rw[List.map_set]
theorem cells_lv (l:List Int):cellsOf (lv l) = [lv l]:=rfl
theorem one_lv (l:List Int):one (lv l) = true:=rfl
theorem pred_wrap {k:Nat} (h0:1≤k) (h:k < 9000000000000000000):IntKind.i64.wrap ((k:Int) - 1) = ((k - 1:Nat):Int):=by rw[i64_wrap (by omega) (by omega)];omega
structure CpO (L:List (List Int)) (id:Nat) (k:Nat) (e:Env) (g:G):Prop where
 hk:1≤k∧k≤L.length
 e0:e 0 = .ms id 0 L.length
 e1:e 1 = .fn 327 [] []
 e5:e 5 = .i .i64 ((k:Nat):Int)
 hb:g.hp id = some (.cells (llC L) false)
 hlt:id < g.nx
 hc:cptL (L.take k) = L.take k
structure CpJ (L:List (List Int)) (id k:Nat) (j i:Nat) (M:List (List Int)) (e:Env) (g:G):Prop where
 hj:k + j≤L.length∧1≤j∧1≤k
 hi:1≤i∧i + 1≤k + j
 e0:e 0 = .ms id 0 L.length
 e1:e 1 = .fn 327 [] []
 e5:e 5 = .i .i64 ((i:Nat):Int)
 e6:e 6 = .ms id (k * 1) (L.length - k)
 e7:e 7 = .i .i64 ((j:Nat):Int)
 hb:g.hp id = some (.cells (llC M) false)
 hlt:id < g.nx
 hM:M.length = L.length
 ha:M.take i = cptL (L.take (k + j))
 hd:M.drop i = L.drop i
structure CpM (L:List (List Int)) (id i:Nat) (M:List (List Int)) (e:Env) (g:G):Prop where
 hi:1≤i∧i + 1≤L.length
 e0:e 0 = .ms id 0 L.length
 e5:e 5 = .i .i64 ((i:Nat):Int)
 hb:g.hp id = some (.cells (llC M) false)
 hlt:id < g.nx
 hM:M.length = L.length
 ha:M.take i = cptL L
structure CpE (L:List (List Int)) (id:Nat) (e:Env) (g:G):Prop where
 e0:e 0 = .ms id 0 L.length
 hb:g.hp id = some (.cells (llC L) false)
 hc:cptL L = L
def CpOut (L:List (List Int)) (v:AV) (g:G):Prop:=∃ id,v = .ms id 0 (cptL L).length∧g.hp id = some (.cells (llC (cptL L)) false)
theorem getD_drop {L M:List (List Int)} {i k:Nat} (h:M.drop i = L.drop i) (hk:i≤k):M.getD k [] = L.getD k []:=by
 have e:∀ X:List (List Int),X.getD k [] = (X.drop i).getD (k - i) []:=fun X => by
  rw[List.getD_eq_getElem?_getD,List.getD_eq_getElem?_getD,List.getElem?_drop,show i + (k - i) = k by omega]
 rw[e,e L,h]
theorem getD_get {L:List (List Int)} {k:Nat} (h:k < L.length):L.getD k [] = L[k]:=by
 rw[List.getD_eq_getElem?_getD,List.getElem?_eq_getElem h];rfl
theorem rp_cpt (A:CmpF F) (h375:F 375 = some A_slices_CompactFunc_llint_lint) {L:List (List Int)} (hl:∀ l∈L,l.length≤1000000) (h1:1≤L.length) (h2:L.length≤1000000) {g:G} {id:Nat} (hid:g.hp id = some (.cells (llC L) false)) (hlt:id < g.nx):
  ∃ v g',callS F 375 [.ms id 0 L.length,.fn 327 [] []] g = some (v,g')∧CpOut L v g':=by
 refine raw_of h375 ?_
 by_cases c0:L.length < 2
 ·have c0':((L.length:Nat):Int) < 2:=by omega
  simp (disch:=omega) only[A_slices_CompactFunc_llint_lint,wp,qa,qb,qc,gl,c0']
  have hL:cptL L = L:=by
   match L,c0 with
   | [],_ => rfl
   | [a],_ => rfl
   | a :: b :: l,h => exact absurd h (by simp)
  exact ⟨_,rfl,id,by rw[hL],by rw[hL];exact hid⟩
 ·have c0':¬ ((L.length:Nat):Int) < 2:=by omega
  simp (disch:=omega) only[A_slices_CompactFunc_llint_lint,wp,qa,qb,qc,gl,c0']
  refine blk_cutR (fun e g => CpE L id e g) ?_ ?_
  ·refine W_loop (fun q e g => ∃ k,q = L.length - k∧CpO L id k e g) (L.length - 1) ?_ ?_
   ·exact ⟨1,rfl,⟨Nat.le_refl _,h1⟩,rfl,rfl,rfl,hid,by dsimp only;omega,cptL_one h1⟩
   ·rintro q e g ⟨k,rfl,⟨hk1,hk2⟩,e0,e1,e5,hb,hlt,hc⟩
    by_cases c1:k < L.length
    ·have c1':((k:Nat):Int) < ((L.length:Nat):Int):=by omega
     have hp1:part (llC L) (k * 1) none = some (lv (L.getD k [])):=ll_part c1 (by omega)
     have hp2:part (llC L) ((k - 1) * 1) none = some (lv (L.getD (k - 1) [])):=ll_part (by omega) (by omega)
     have hw:=succ_wrap (k:=k) (by omega)
     have hw2:=pred_wrap (k:=k) hk1 (by omega)
     have hs:=sp_msame A (L.getD k []) (L.getD (k - 1) []) .non .non (hl _ (getL_mem c1))
     have hct:=cptL_take (l:=L) hk1 c1
     rw[←getD_get c1,←getD_get (show k - 1 < L.length by omega)] at hct
     unfold lv at hp1 hp2
     by_cases c2:L.getD k [] = L.getD (k - 1) []
     ·rw[decide_eq_true c2] at hs
      rw[if_pos c2.symm] at hct
      simp (disch:=omega) only[wp,qa,qb,qc,gl,e0,e1,e5,c1',hp1,hp2,hw,hw2,hb,hs,oSlice,evoN,evoS,slLoM]
      refine blk_cut (fun e g => ∃ (i:Nat) (M:List (List Int)),CpM L id i M e g) ?_ ?_
      ·refine W_loop (fun q e g => ∃ (j i:Nat) (M:List (List Int)),q = L.length - j∧CpJ L id k j i M e g) (L.length - 1) ?_ ?_
       ·exact ⟨1,k,L,rfl,⟨by omega,by omega,hk1⟩,⟨hk1,by omega⟩,e0,e1,e5,rfl,rfl,hb,by dsimp only;omega,rfl,by rw[hct];exact hc.symm,rfl⟩
       ·rintro q e g ⟨j,i,M,rfl,⟨hj1,hj2,hj3⟩,⟨hi1,hi2⟩,e0,e1,e5,e6,e7,hb,hlt,hM,ha,hd⟩
        by_cases c3:k + j < L.length
        ·have c3':((j:Nat):Int) < ((L.length - k:Nat):Int):=by omega
         have hq1:part (llC M) (k * 1 + j * 1) none = some (lv (M.getD (k + j) [])):=ll_part (by omega) (by omega)
         have hq2:part (llC M) (k * 1 + (j - 1) * 1) none = some (lv (M.getD (k + j - 1) [])):=ll_part (by omega) (by omega)
         rw[getD_drop hd (by omega)] at hq1 hq2
         have hwj:=succ_wrap (k:=j) (by omega)
         have hwj2:=pred_wrap (k:=j) hj2 (by omega)
         have hwi:=succ_wrap (k:=i) (by omega)
         have hs2:=sp_msame A (L.getD (k + j) []) (L.getD (k + j - 1) []) .non .non (hl _ (getL_mem c3))
         have hct2:=cptL_take (l:=L) (k:=k + j) (by omega) c3
         rw[←getD_get c3,←getD_get (show k + j - 1 < L.length by omega)] at hct2
         have hmp:llC M = llC M:=rfl
         have hml:(llC M).length = L.length:=by rw[llC_len,hM]
         by_cases c4:L.getD (k + j) [] = L.getD (k + j - 1) []
         ·rw[decide_eq_true c4] at hs2
          rw[if_pos c4.symm] at hct2
          unfold lv at hq1 hq2
          simp (disch:=omega) only[wp,qa,qb,qc,gl,e0,e1,e5,e6,e7,c3',hq1,hq2,hwj,hwj2,hb,hs2]
          exact ⟨L.length - (j + 1),by omega,j + 1,i,M,rfl,⟨by omega,by omega,hj3⟩,⟨hi1,by omega⟩,e0,e1,e5,e6,rfl,hb,by dsimp only;omega,hM,by rw[ha];exact hct2.symm,hd⟩
         ·rw[decide_eq_false c4] at hs2
          rw[if_neg (fun h => c4 h.symm)] at hct2
          have hset:=llC_set M i (i * 1) (by omega) (L.getD (k + j) [])
          unfold lv at hq1 hq2 hset
          simp (disch:=omega) only[wp,qa,qb,qc,gl,e0,e1,e5,e6,e7,c3',hq1,hq2,hwj,hwj2,hwi,hb,hs2,hset]
          refine ⟨L.length - (j + 1),by omega,j + 1,i + 1,M.set i (L.getD (k + j) []),rfl,⟨by omega,by omega,hj3⟩,⟨by omega,by omega⟩,e0,e1,rfl,e6,rfl,upd_same ..,by dsimp only;omega,by rw[List.length_set,hM],?_,?_⟩
          ·rw[List.take_succ_eq_append_getElem (by rw[List.length_set];omega),List.take_set_of_le (Nat.le_refl _),List.getElem_set_self,ha]
           exact hct2.symm
          ·rw[List.drop_set_of_lt (Nat.lt_succ_self _)]
           have:∀ X:List (List Int),X.drop (i + 1) = (X.drop i).drop 1:=fun X => by rw[List.drop_drop]
           rw[this,this L,hd]
        ·have c3':¬ ((j:Nat):Int) < ((L.length - k:Nat):Int):=by omega
         have hkj:k + j = L.length:=by omega
         rw[hkj,List.take_length] at ha
         simp (disch:=omega) only[wp,qa,qb,qc,gl,e0,e1,e5,e6,e7,c3']
         exact ⟨i,M,⟨⟨hi1,by omega⟩,e0,e5,hb,by dsimp only;omega,hM,ha⟩⟩
      ·rintro e g ⟨i,M,⟨hi1,hi2⟩,e0,e5,hb,hlt,hM,ha⟩
       have hml:(llC M).length = L.length:=by rw[llC_len,hM]
       have hz:((List.replicate (L.length - i) [AV.sl [] 0 .rig]).flatten).length = L.length - i:=by simp
       have hsl:(splice (llC M) (i * 1) (List.replicate (L.length - i) [AV.sl [] 0 .rig]).flatten).length = L.length:=by
        unfold splice
        split
        ·rw[List.length_set];exact hml
        ·simp[hml,hz];omega
       have hst:(splice (llC M) (i * 1) (List.replicate (L.length - i) [AV.sl [] 0 .rig]).flatten).take (i * 1) = llC (cptL L):=by
        rw[←ha]
        unfold splice
        split
        ·rw[List.take_set_of_le (Nat.le_refl _),Nat.mul_one];unfold llC;rw[List.map_take]
        ·rw[List.append_assoc,List.take_append_of_le_length (by rw[List.length_take];omega),List.take_take,Nat.min_self,Nat.mul_one]
         unfold llC;rw[List.map_take]
       have hil:i = (cptL L).length:=by rw[←ha,List.length_take];omega
       simp (disch:=omega) only[wp,qa,qb,qc,gl,e0,e5,hb,oSlice,evoN,evoS,slLoM,o_clr,vClr_S,clrS_ok,o_cutM,vCutM_S,cutS_ok,hsl,hst]
       exact ⟨_,rfl,_,by rw[←hil],upd_same ..⟩
     ·rw[decide_eq_false c2] at hs
      rw[if_neg (fun h => c2 h.symm)] at hct
      simp (disch:=omega) only[wp,qa,qb,qc,gl,e0,e1,e5,c1',hp1,hp2,hw,hw2,hb,hs]
      refine ⟨L.length - (k + 1),by omega,k + 1,rfl,⟨by omega,by omega⟩,e0,e1,rfl,hb,by dsimp only;omega,?_⟩
      rw[hct,hc,getD_get c1]
      exact (List.take_succ_eq_append_getElem c1).symm
    ·have c1':¬ ((k:Nat):Int) < ((L.length:Nat):Int):=by omega
     simp (disch:=omega) only[wp,qa,qb,qc,gl,e0,e1,e5,c1']
     refine ⟨e0,hb,?_⟩
     rwa [List.take_of_length_le (by omega)] at hc
  ·rintro e g ⟨e0,hb,hc⟩
   simp (disch:=omega) only[wp,qa,qb,qc,gl,e0]
   exact ⟨_,rfl,id,by rw[hc],by rw[hc];exact hb⟩
end Go.Ab
end
section
set_option linter.unusedVariables false
set_option linter.unusedSimpArgs false
namespace Go.Ab
def wE (i:Nat):Ev:=⟨0,2,0,(i:Int),0,false⟩
end Go.Ab
end
section
set_option linter.unusedVariables false
set_option linter.unusedSimpArgs false
namespace Go.Ab
def EvS (e:Ev):Prop:=(e.kd = 1∧(e.lc = 0∨e.lc = 1)∧(e.md = 0∨e.md = 1))∨(e.kd = 2∧(e.lc = 0∨e.lc = 1)∧(e.md = 0∨e.md = 2))∨(e.kd = 3∧1≤e.md∧e.md≤4∧e.lc = 0∧e.vl = 0∧e.ex = false)
structure SkInv (X:Gr) (t:Int):Prop where
 locs:X.locs = 2
 two:∃ rest,X.evs = [wE 0,wE 1] ++ rest∧∀ e∈rest,1≤e.th∧e.th≤t∧EvS e
 th:X.evs.Pairwise fun a b => a.th≤b.th
 rmw:RmL X.evs X.rmw
 data:DpL X.evs X.data
 ctrl:DpL X.evs X.ctrl
 ctrli:X.ctrli = []
 dl:X.data.length≤X.evs.length * X.evs.length
 cl:X.ctrl.length≤X.evs.length * X.evs.length
theorem pw_rising {l:List (Int × Int)} (h:l.Pairwise lessP):Rising l:=by
 intro i hi
 rw[List.getD_eq_getElem?_getD,List.getD_eq_getElem?_getD,List.getElem?_eq_getElem (by omega),List.getElem?_eq_getElem hi]
 exact List.pairwise_iff_getElem.1 h i (i + 1) (by omega) hi (by omega)
theorem getD_mem {α:Type} {l:List α} {i:Nat} {d:α} (h:i < l.length):l.getD i d∈l:=by
 rw[List.getD_eq_getElem?_getD,List.getElem?_eq_getElem h]
 exact List.getElem_mem h
theorem SkInv.ev {X:Gr} {t:Int} (h:SkInv X t) (h4:t≤4) {i:Nat} (hi:i < X.evs.length):EvOk X.locs i (X.evs.getD (i - 1) ev0) (X.evs.getD i ev0):=by
 obtain ⟨rest,h2,h3⟩:=h.two
 rw[h.locs]
 refine ⟨fun hl => ?_,fun hl => ?_⟩
 ·have:i = 0∨i = 1:=by omega
  rw[h2]
  rcases this with rfl | rfl<;>exact ⟨rfl,rfl,rfl,rfl,rfl,rfl⟩
 ·obtain ⟨j,rfl⟩:∃ j,i = 2 + j:=⟨i - 2,by omega⟩
  have he:X.evs.getD (2 + j) ev0 = rest.getD j ev0:=by
   rw[h2];exact getD_r (es:=[wE 0,wE 1])
  have hj:j < rest.length:=by rw[h2] at hi;simp at hi;omega
  obtain ⟨a,b,c⟩:=h3 _ (getD_mem (d:=ev0) hj)
  have hp:(X.evs.getD (2 + j - 1) ev0).th≤(X.evs.getD (2 + j) ev0).th:=by
   rw[List.getD_eq_getElem?_getD,List.getD_eq_getElem?_getD,List.getElem?_eq_getElem (by omega),List.getElem?_eq_getElem hi]
   exact List.pairwise_iff_getElem.1 h.th (2 + j - 1) (2 + j) (by omega) hi (by omega)
  rw[he] at hp ⊢
  refine ⟨a,by omega,hp,?_⟩
  rcases c with ⟨c1,c2,c3⟩ | ⟨c1,c2,c3⟩ | c
  ·exact .inl ⟨c1,by omega,by omega,c3⟩
  ·exact .inr (.inl ⟨c1,by omega,by omega,c3⟩)
  ·exact .inr (.inr c)
theorem DpL.ok {X:Gr} {l} (h:DpL X.evs l):DepsOk X l:=⟨fun i hi => h.1 _ (getD_mem hi),pw_rising h.2⟩
theorem SkInv.ok {X:Gr} {t:Int} (h:SkInv X t) (h4:t≤4) (hn:X.evs.length≤14) (hr:X.rf.length = X.evs.length) (hrf:∀ i,i < X.evs.length→RfOk X i) (hc:X.co.length = 2) (hco:∀ i,i < 2→CoOk X i):FewG X∧GraphOk X:=by
 have hl2:2≤X.evs.length:=by obtain ⟨rest,h2,_⟩:=h.two;rw[h2];simp
 have hm:=h.rmw.len
 have hsq:X.evs.length * X.evs.length≤14 * 14:=Nat.mul_le_mul hn hn
 have hd:=h.dl
 have hcl:=h.cl
 refine ⟨⟨by omega,by omega,by omega,fun c hc' => ?_,by omega,by omega,by omega,by rw[h.ctrli];simp⟩,⟨by rw[h.locs];omega,by rw[h.locs];omega,by rw[h.locs];omega,by omega,hr,by rw[h.locs,hc];rfl,fun i hi => h.ev h4 hi,hrf,fun i hi => hco i (by omega),⟨fun j hj => ?_,fun i hi => h.rmw.once i hi,pw_rising h.rmw.rise⟩,h.data.ok,h.ctrl.ok,by rw[h.ctrli];exact ⟨fun i hi => absurd hi (Nat.not_lt_zero _),fun i hi => absurd hi (Nat.not_lt_zero _)⟩⟩⟩
 ·obtain ⟨i,hi,rfl⟩:=List.mem_iff_getElem.1 hc'
  have h1:=(hco i (by omega)).len
  rw[List.getD_eq_getElem?_getD,List.getElem?_eq_getElem hi] at h1
  simp only[Option.getD_some] at h1
  have h2:=cntW_le X i X.evs.length
  omega
 ·obtain ⟨a,b,c,d⟩:=h.rmw.pairs _ (getD_mem (d:=(0,0)) hj)
  exact ⟨a,by omega,b,d⟩
end Go.Ab
end
section
set_option linter.unusedVariables false
set_option linter.unusedSimpArgs false
namespace Go.Ab
variable {F:Funs}
structure TkS where
 t0:Tok
 t1:Tok
 td:Tok
 tc:Tok
 ti:Tok
 tr:Tok
 tn:Tok
 tt:Tok
 fs:List Tok
def frC (frm:List (List Int)) (ts:List Tok):List AV:=(List.range 8).map fun r => .sl (intsC (frm.getD r [])) (frm.getD r []).length (ts.getD r .non)
def stT (s:RS) (T:TkS):List AV:=frC s.frm T.fs ++ [.sl (intsC s.now) s.now.length T.tn,.sl [] 0 T.tt,.b s.short]
def stC (s:RS) (R:Nat) (reads:List Int) (T:TkS):List AV:=
 .sl (evsC s.evs) s.evs.length T.t0 :: .sl (pairsC s.rmw) s.rmw.length T.t1 :: .sl (pairsC s.data) s.data.length T.td :: .sl (pairsC s.ctrl) s.ctrl.length T.tc :: .sl [] 0 T.ti :: .i .i64 (s.used:Int) :: .ms R 0 8 :: .sl (intsC reads) reads.length T.tr :: stT s T
structure SOk (s:RS) (R S:Nat) (reads:List Int) (T:TkS) (g:G):Prop where
 st:g.hp S = some (.cells (stC s R reads T) false)
 rg:g.hp R = some (.cells (intsC s.regs) false)
 l0:Live g 6 T.t0
 l1:Live g 2 T.t1
 ne:∀ i,T.t0≠.own i 6∨T.t1≠.own i 2
 sx:S < g.nx
 rx:R < g.nx
 sr:S≠R
 fs:T.fs.length = 8
 f8:s.frm.length = 8
 r8:s.regs.length = 8
structure Frm (S R:Nat) (g g':G):Prop where
 nx:g.nx≤g'.nx
 cells:∀ b cs ro,b≠S→b≠R→b < g.nx→g.hp b = some (.cells cs ro)→g'.hp b = some (.cells cs ro)
end Go.Ab
end
section
set_option linter.unusedVariables false
set_option linter.unusedSimpArgs false
namespace Go.Ab
variable {F:Funs}
theorem SOk.put {s s1:RS} {R S:Nat} {reads:List Int} {T T1:TkS} {g:G} (k:SOk s R S reads T g) (hr:s1.regs = s.regs) (hf:s1.frm.length = 8) (h0:T1.t0 = T.t0) (h1:T1.t1 = T.t1) (hfs:T1.fs.length = 8) {hp':Nat→Option Blk} {m:Nat} (hS:hp' S = some (.cells (stC s1 R reads T1) false)) (ho:∀ i,i < g.nx→i≠S→hp' i = g.hp i) (hm:g.nx≤m):SOk s1 R S reads T1 ⟨hp',m⟩:=by
 obtain ⟨st,rg,l0,l1,ne,sx,rx,sr,fs,f8,r8⟩:=k
 refine ⟨hS,by show hp' R = _;rw[ho R rx (fun h => sr h.symm),hr];exact rg,?_,?_,by rw[h0,h1];exact ne,Nat.lt_of_lt_of_le sx hm,Nat.lt_of_lt_of_le rx hm,sr,hfs,hf,by rw[hr];exact r8⟩
 ·rw[h0]
  rcases l0 with h | ⟨τ,h,hτ,lτ⟩
  ·exact .inl h
  ·exact .inr ⟨τ,h,by show hp' τ = _;rw[ho τ lτ fun h => by rw[h,st] at hτ;cases hτ];exact hτ,Nat.lt_of_lt_of_le lτ hm⟩
 ·rw[h1]
  rcases l1 with h | ⟨τ,h,hτ,lτ⟩
  ·exact .inl h
  ·exact .inr ⟨τ,h,by show hp' τ = _;rw[ho τ lτ fun h => by rw[h,st] at hτ;cases hτ];exact hτ,Nat.lt_of_lt_of_le lτ hm⟩
theorem SOk.old {s:RS} {R S:Nat} {reads:List Int} {T:TkS} {g:G} (k:SOk s R S reads T g) {hp':Nat→Option Blk} {m:Nat} (ho:∀ i,i < g.nx→hp' i = g.hp i) (hm:g.nx≤m):SOk s R S reads T ⟨hp',m⟩:=
 k.put rfl k.f8 rfl rfl k.fs (by rw[ho S k.sx];exact k.st) (fun i hi _ => ho i hi) hm
theorem Frm.trans {S R:Nat} {g g1 g2:G} (h:Frm S R g g1) (k:Frm S R g1 g2):Frm S R g g2:=
 ⟨Nat.le_trans h.nx k.nx,fun b cs ro h1 h2 h3 h4 => k.cells b cs ro h1 h2 (Nat.lt_of_lt_of_le h3 h.nx) (h.cells b cs ro h1 h2 h3 h4)⟩
theorem Frm.of {S R:Nat} {g:G} {hp':Nat→Option Blk} {m:Nat} (hm:g.nx≤m) (ho:∀ i,i < g.nx→i≠S→i≠R→hp' i = g.hp i):Frm S R g ⟨hp',m⟩:=
 ⟨hm,fun b cs ro h1 h2 h3 h4 => by show hp' b = _;rw[ho b h3 h1 h2];exact h4⟩
end Go.Ab
end
section
set_option linter.unusedVariables false
set_option linter.unusedSimpArgs false
namespace Go.Ab
variable {F:Funs}
def zR:List AV:=[.sl [] 0 .rig,.sl [] 0 .rig,.sl [] 0 .rig,.sl [] 0 .rig,.sl [] 0 .rig,.i .i64 0,.sl [] 0 .rig]
structure DoI (F:Funs) (V:List (Int × Int)→List Int→Int) (th:List Ins) (reads:List Int) (R S k:Nat) (s:RS) (T:TkS) (e:Env) (g:G):Prop where
 hk:k≤th.length
 e0:e 0 = .sl (insLC th) th.length .non
 e4:e 4 = .mp 0 0
 e6:e 6 = .mp S 0
 e7:e 7 = .i .i64 ((k:Nat):Int)
 h0:g.hp 0 = some (.cells zR false)
 ok:SOk s R S reads T g
 s0:0 < S
 r0:0 < R
 inv:RInv s
 run:runR V reads th (th.length - k) k s = doR V th reads
 used:s.used≤k
 evs:s.evs.length≤2 * k
theorem DoI.mv {V:List (Int × Int)→List Int→Int} {th:List Ins} {reads:List Int} {R S k:Nat} {s:RS} {T:TkS} {e e':Env} {g:G} {m:Nat} (I:DoI F V th reads R S k s T e g) (h0:e' 0 = e 0) (h4:e' 4 = e 4) (h6:e' 6 = e 6) (h7:e' 7 = e 7) (hm:g.nx≤m):DoI F V th reads R S k s T e' ⟨g.hp,m⟩:=
 ⟨I.hk,h0.trans I.e0,h4.trans I.e4,h6.trans I.e6,h7.trans I.e7,I.h0,I.ok.old (fun i hi => rfl) hm,I.s0,I.r0,I.inv,I.run,I.used,I.evs⟩
end Go.Ab
end
section
set_option linter.unusedVariables false
set_option linter.unusedSimpArgs false
namespace Go.Ab
variable {F:Funs}
def TkOk (esz:Nat) (g:G) (t:Tok):Prop:=t = .rig∨∃ i,t = .own i esz∧g.hp i = some (.tok true)∧i < g.nx
def TkNe (t u:Tok):Prop:=∀ i e f,t = .own i e→u≠.own i f
theorem TkNe.rig_l {u:Tok}:TkNe .rig u:=fun _ _ _ h => by cases h
theorem TkNe.symm {t u:Tok} (h:TkNe t u):TkNe u t:=fun i e f h1 h2 => h i f e h2 h1
structure AppR (esz id:Nat) (t t':Tok) (g:G) (hp':Nat→Option Blk):Prop where
 tok:t' = .rig∨(t' = .own id esz∧hp' id = some (.tok true))
 keep:∀ i,i≠id→(∀ e,t≠.own i e)→hp' i = g.hp i
theorem bindO_app1 {d:Bool} {b j:Nat} {dst:Option Nat} {os:List AOper} {e:Env} {K:Env→G→Prop} {al:Nat→Bool} {id esz bytes n m:Nat} {cs ds:List AV} {t t2:Tok} {g:G}
  (ht:TkOk esz g t) (hal:∀ i,t = .own i esz→al i = true) (hc:bytes≤1000∧n + m≤1000000∧cs.length = n * esz∧ds.length = m * esz)
  (hk:∀ t' hp',AppR esz id t t' g hp'→(0 < m→t' = .own id esz∧hp' id = some (.tok true))→WR F d b j os (put e dst (.sl (cs ++ ds) (n + m) t')) ⟨hp',g.nx⟩ K):bindO F d b j dst os e K (vApp al id esz bytes (.sl cs n t) (.sl ds m t2) g):=by
 obtain ⟨h1,h2,h3,h4⟩:=hc
 have h5:(n + m) * bytes≤2 ^ 46:=Nat.le_trans (Nat.mul_le_mul h2 h1) (by omega)
 have h6:n + m≤2 ^ 62:=Nat.le_trans h2 (by omega)
 rcases ht with rfl | ⟨i,rfl,hi,hlt⟩
 ·by_cases hm:m = 0
  ·subst hm
   have hd:ds = []:=List.length_eq_zero_iff.1 (by omega)
   subst hd
   rw[vApp_rig0,appD_ok ⟨h5,h6,h3,h4⟩]
   have:=hk .rig g.hp ⟨.inl rfl,fun _ _ _ => rfl⟩ (fun h => absurd h (Nat.lt_irrefl 0))
   rw[List.append_nil,Nat.add_zero] at this
   exact this
  ·rw[vApp_rig hm,appD_ok ⟨h5,h6,h3,h4⟩]
   exact hk (.own id esz) _ ⟨.inr ⟨rfl,by simp[upd]⟩,fun i hi _ => by simp[upd,hi]⟩ (fun _ => ⟨rfl,by simp[upd]⟩)
 ·rw[vApp_own,appD_ok ⟨h5,h6,h3,h4⟩,hal i rfl,selB_true,hi,appK_ok]
  exact hk (.own id esz) _ ⟨.inr ⟨rfl,by simp[upd]⟩,fun k hk' hne => by
   have:k≠i:=fun h => hne esz (by rw[h])
   simp[upd,hk',this]⟩ (fun _ => ⟨rfl,by simp[upd]⟩)
theorem bindO_app {d:Bool} {b j:Nat} {dst:Option Nat} {os:List AOper} {e:Env} {K:Env→G→Prop} {al:Nat→Bool} {id esz bytes n m:Nat} {cs ds:List AV} {t t2:Tok} {g:G}
  (ht:TkOk esz g t) (hal:∀ i,t = .own i esz→al i = true) (hc:bytes≤1000∧n + m≤1000000∧cs.length = n * esz∧ds.length = m * esz)
  (hk:∀ t' hp',AppR esz id t t' g hp'→WR F d b j os (put e dst (.sl (cs ++ ds) (n + m) t')) ⟨hp',g.nx⟩ K):bindO F d b j dst os e K (vApp al id esz bytes (.sl cs n t) (.sl ds m t2) g):=
 bindO_app1 ht hal hc fun t' hp' h _ => hk t' hp' h
theorem TkOk.mono {esz:Nat} {g:G} {t:Tok} {hp':Nat→Option Blk} {m:Nat} (h:TkOk esz g t) (hk:∀ i,t = .own i esz→hp' i = g.hp i) (hm:g.nx≤m):TkOk esz ⟨hp',m⟩ t:=by
 rcases h with rfl | ⟨i,rfl,h1,h2⟩
 ·exact .inl rfl
 ·exact .inr ⟨i,rfl,by show hp' i = _;rw[hk i rfl,h1],by show i < m;omega⟩
theorem AppR.ok {esz id:Nat} {t t':Tok} {g:G} {hp':Nat→Option Blk} (h:AppR esz id t t' g hp') {m:Nat} (hm:id < m):TkOk esz ⟨hp',m⟩ t':=by
 rcases h.tok with rfl | ⟨rfl,h1⟩
 ·exact .inl rfl
 ·exact .inr ⟨id,rfl,h1,hm⟩
theorem AppR.ne {esz id:Nat} {t t' u:Tok} {g:G} {hp':Nat→Option Blk} (h:AppR esz id t t' g hp') (hu:∀ e,u≠.own id e):TkNe t' u:=by
 rcases h.tok with rfl | ⟨rfl,_⟩
 ·exact TkNe.rig_l
 ·intro i e f h1 h2
  cases h1
  exact hu f h2
end Go.Ab
end
section
set_option linter.unusedVariables false
set_option linter.unusedSimpArgs false
namespace Go.Ab
variable {F:Funs}
theorem llC_snoc {L:List (List Int)} {k:Nat} (h:k < L.length):llC (L.take (k + 1)) = llC (L.take k) ++ [lv (L.getD k [])]:=by
 unfold llC
 rw[List.take_succ_eq_append_getElem h,getD_get h,List.map_append]
 rfl
theorem llC_tl {L:List (List Int)} {k:Nat} (h:k≤L.length):(llC (L.take k)).length = k:=by rw[llC_len,List.length_take];omega
theorem frzL_ll (hp:Nat→Option Blk) (d:Nat):∀ L:List (List Int),frzL hp (d + 1) (llC L) = some (llC L)
 | [] => by simp[llC,frzL]
 | l :: L => by
   show frzL hp (d + 1) (.sl (intsC l) l.length .non :: llC L) = _
   simp only[frzL,frz,frzL_ll hp d L]
   rfl
theorem frz_llM {hp:Nat→Option Blk} {id n:Nat} {ro:Bool} {L:List (List Int)} (h:hp id = some (.cells (llC L) ro)):frz hp depth (.ms id 0 n) = some (.sl (llC L) n .non):=by
 show frz hp (8 + 1) _ = _
 simp only[frz,h,List.drop_zero,frzL_ll]
 rfl
def PileLL (L:List (List Int)) (k:Nat) (v:AV) (g:G):Prop:=(k = 0∧v = .sl [] 0 .rig)∨(1≤k∧∃ id,v = .ms id 0 k∧g.hp id = some (.cells (llC (L.take k)) false)∧id < g.nx)
structure MsI (L:List (List Int)) (t:Tok) (k:Nat) (e:Env) (g:G):Prop where
 hk:k≤L.length
 e6:e 6 = .sl (llC L) L.length t
 e7:e 7 = .i .i64 ((L.length:Nat):Int)
 e8:e 8 = .i .i64 ((k:Nat):Int)
 e3:PileLL L k (e 3) g
structure MsE (L:List (List Int)) (e:Env) (g:G):Prop where
 e3:PileLL L L.length (e 3) g
theorem apmK {id esz bytes b n m ld:Nat} {cs ds:List AV} {g:G} (h:1≤n∧1≤m∧bytes≤1000∧n + m≤2000000∧cs.length = n * esz∧ld = m * esz):apmS id esz bytes b n m ld ds g true (some (.cells cs false)) = some (.ms id 0 (n + m),⟨upd (upd g.hp b (some (.tok false))) id (some (.cells (cs ++ ds) false)),g.nx⟩):=by
 obtain ⟨h1,h2,h3,h4,h5,h6⟩:=h
 have h7:(n + m) * bytes≤2 ^ 46:=Nat.le_trans (Nat.mul_le_mul h4 h3) (by omega)
 exact if_pos ⟨h1,h2,h7,Nat.le_trans h4 (by omega),h5,h6,rfl⟩
structure SrtF (F:Funs):Prop extends CmpF F where
 sort:F 298 = some A_mem_Sort
 clone:F 373 = some A_clone
 sortF:F 374 = some A_sortFunc
 cptF:F 375 = some A_slices_CompactFunc_llint_lint
theorem sp_cloneL (h:F 373 = some A_clone) (l:List Int) (hl:l.length≤1000000):pureS F 373 [lv l] = some (lv l):=sp_clone h l .non hl
theorem sp_msort (A:SrtF F) {L:List (List Int)} (hl:∀ l∈L,l.length≤1000000) (h2:L.length≤999999) (t:Tok):
  pureS F 298 [.sl (llC L) L.length t] = some (.sl (llC (srtL L)) (srtL L).length .non):=by
 refine pure_of A.sort ?_
 simp (disch:=omega) only[A_mem_Sort,wp,qa,qb,qc]
 refine blk_cut (fun e g => MsE L e g) ?_ ?_
 ·refine W_loop (fun q e g => ∃ k,q = L.length - k∧MsI L t k e g) L.length ?_ ?_
  ·exact ⟨0,rfl,Nat.zero_le _,rfl,rfl,rfl,.inl ⟨rfl,rfl⟩⟩
  ·rintro q e g ⟨k,rfl,hk,e6,e7,e8,e3⟩
   by_cases c1:k < L.length
   ·have c1':((k:Nat):Int) < ((L.length:Nat):Int):=by omega
    have hp1:=llC_at (L:=L) (k:=k) c1
    have hw:=succ_wrap (k:=k) (by omega)
    have hc:=sp_cloneL A.clone (L.getD k []) (hl _ (getL_mem c1))
    have hsn:=llC_snoc c1
    have htl:=llC_tl (L:=L) (k:=k) hk
    generalize L.getD k [] = x at hp1 hc hsn
    have htl1:(llC (L.take k)).length = k * 1:=by omega
    rcases e3 with ⟨h0,e3⟩ | ⟨h0,b,e3,hb,hlt⟩
    ·simp (disch:=omega) only[wp,qa,qb,qc,e3,e6,e7,e8,c1',hp1,hc,hw,f_lv,v_lv,cells_lv,one_lv,o_appM,vAppM_rig,apmR_ok]
     subst h0
     refine ⟨L.length - (0 + 1),by omega,0 + 1,rfl,⟨by omega,e6,e7,rfl,.inr ⟨by omega,_,rfl,?_,by dsimp only;omega⟩⟩⟩
     rw[hsn]
     simp (disch:=omega) only[upd_same]
     rfl
    ·simp (disch:=omega) only[wp,qa,qb,qc,e3,e6,e7,e8,c1',hp1,hc,hw,hb,f_lv,v_lv,cells_lv,one_lv,o_appM,vAppM_S,apmK]
     refine ⟨L.length - (k + 1),by omega,k + 1,rfl,⟨by omega,e6,e7,rfl,.inr ⟨by omega,_,rfl,?_,by dsimp only;omega⟩⟩⟩
     rw[hsn]
     simp (disch:=omega) only[upd_same]
   ·have c1':¬ ((k:Nat):Int) < ((L.length:Nat):Int):=by omega
    simp (disch:=omega) only[wp,qa,qb,qc,e6,e7,e8,c1']
    obtain rfl:k = L.length:=by omega
    refine ⟨?_⟩
    rcases e3 with h | ⟨h1,b,h2,h3,h4⟩
    ·exact .inl h
    ·exact .inr ⟨h1,b,h2,h3,by dsimp only;omega⟩
 ·rintro e g ⟨e3⟩
  rcases e3 with ⟨h0,e3⟩ | ⟨h1,b,e3,hb,hlt⟩
  ·have:L = []:=List.length_eq_zero_iff.1 h0
   subst this
   have hs:=fun g => rp_sort0 A.sortF (g:=g)
   simp (disch:=omega) only[wp,qa,qb,qc,gl,e3,hs]
   refine bindO_call (fun v g' => v = .sl [] 0 .rig) ?_ ?_
   ·refine raw_of A.cptF ?_
    have c0:(((0:Nat)):Int) < 2:=by omega
    simp (disch:=omega) only[A_slices_CompactFunc_llint_lint,wp,qa,qb,qc,gl,c0]
    exact ⟨_,rfl,rfl⟩
   ·rintro v g' rfl
    simp (disch:=omega) only[wp,qa,qb,qc,gl]
    rfl
  ·rw[List.take_length] at hb
   simp (disch:=omega) only[wp,qa,qb,qc,gl,e3]
   refine bindO_call (fun v g' => g'.hp b = some (.cells (llC (srtD L)) false)∧b < g'.nx) ⟨_,_,rp_sort A.sortF L hl h1 (by omega) (g:=⟨g.hp,g.nx + 2⟩) hb,upd_same ..,by dsimp only;omega⟩ ?_
   rintro v g' ⟨hb',hlt'⟩
   simp (disch:=omega) only[wp,qa,qb,qc,gl,e3]
   have hlen:=srtD_len L
   refine bindO_call (CpOut (srtD L)) ?_ ?_
   ·have:=rp_cpt A.toCmpF A.cptF (L:=srtD L) (fun l h => hl l ((srtD_perm L).mem_iff.1 h)) (by omega) (by omega) (g:=⟨g'.hp,g'.nx + 3⟩) hb' (by dsimp only;omega)
    rw[hlen] at this
    exact this
   ·rintro v g'' ⟨id',rfl,hb''⟩
    rw[cpt_srt] at hb'' ⊢
    simp (disch:=omega) only[W_reg,WR_cons,WR_nil,nrmQ_is,selO_true,bindO_some,wanted_none,thenQ_nrm,W_ret,thenQ_ret,put_some,upd_same,upd_ne,o_mv,ev_t,retQ_ret,res_1]
    exact frz_llM hb''
theorem ltD (x y:List Int):decide (ltL x y) = decide (cmpL x y < 0):=decide_eq_decide.2 Iff.rfl
structure LsI (x y:List Int) (t1 t2:Tok) (k:Nat) (e:Env) (g:G):Prop where
 hk:k≤x.length∧k≤y.length
 e0:e 0 = .sl (intsC x) x.length t1
 e1:e 1 = .sl (intsC y) y.length t2
 e5:e 5 = .i .i64 ((k:Nat):Int)
 hc:cmpL x y = cmpL (x.drop k) (y.drop k)
structure LsE (x y:List Int) (t1 t2:Tok) (e:Env) (g:G):Prop where
 e0:e 0 = .sl (intsC x) x.length t1
 e1:e 1 = .sl (intsC y) y.length t2
 hc:decide (ltL x y) = decide (((x.length:Nat):Int) < ((y.length:Nat):Int))
theorem sp_rless (h543:F 543 = some A_xref08_less) (x y:List Int) (hx:x.length≤1000000) (hy:y.length≤1000000) (t1 t2:Tok):pureS F 543 [.sl (intsC x) x.length t1,.sl (intsC y) y.length t2] = some (.b (decide (ltL x y))):=by
 refine pure_of h543 ?_
 simp (disch:=omega) only[A_xref08_less,wp,qa,qb,qc]
 refine blk_cutR (fun e g => LsE x y t1 t2 e g) ?_ ?_
 ·refine W_loop (fun q e g => ∃ k,q = x.length - k∧LsI x y t1 t2 k e g) x.length ?_ ?_
  ·exact ⟨0,rfl,⟨Nat.zero_le _,Nat.zero_le _⟩,rfl,rfl,rfl,rfl⟩
  ·rintro q e g ⟨k,rfl,⟨hk1,hk2⟩,e0,e1,e5,hc⟩
   by_cases c1:k < x.length
   ·have c1':((k:Nat):Int) < ((x.length:Nat):Int):=by omega
    by_cases c2:k < y.length
    ·have c2':((k:Nat):Int) < ((y.length:Nat):Int):=by omega
     have hp1:=ints_part (l:=x) (k:=k) c1
     have hp2:=ints_part (l:=y) (k:=k) c2
     have hw:=succ_wrap (k:=k) (by omega)
     by_cases c3:x.getD k 0 = y.getD k 0
     ·have c3':(x.getD k 0 != y.getD k 0) = false:=by simpa using c3
      rw[cmpL_drop c1 c2 c3] at hc
      simp (disch:=omega) only[wp,qa,qb,qc,e0,e1,e5,c1',c2',hp1,hp2,c3',hw]
      exact ⟨x.length - (k + 1),by omega,k + 1,rfl,⟨⟨by omega,by omega⟩,e0,e1,rfl,hc⟩⟩
     ·have c3':(x.getD k 0 != y.getD k 0) = true:=by simpa using c3
      rw[cmpL_here c1 c2 c3] at hc
      have hd:decide (ltL x y) = decide (x.getD k 0 < y.getD k 0):=by
       rw[ltD,hc]
       unfold cmpZ
       by_cases h1:x.getD k 0 < y.getD k 0
       ·rw[if_pos h1,decide_eq_true h1];rfl
       ·rw[if_neg h1,if_pos (by omega),decide_eq_false h1];rfl
      simp (disch:=omega) only[wp,qa,qb,qc,e0,e1,e5,c1',c2',hp1,hp2,c3',hd]
    ·have c2':¬ ((k:Nat):Int) < ((y.length:Nat):Int):=by omega
     simp (disch:=omega) only[wp,qa,qb,qc,e0,e1,e5,c1',c2']
     refine ⟨e0,e1,?_⟩
     obtain rfl:k = y.length:=by omega
     rw[List.drop_length,List.drop_eq_getElem_cons c1] at hc
     rw[ltD,hc,decide_eq_false (show ¬ ((x.length:Nat):Int) < ((y.length:Nat):Int) by omega)]
     rfl
   ·have c1':¬ ((k:Nat):Int) < ((x.length:Nat):Int):=by omega
    simp (disch:=omega) only[wp,qa,qb,qc,e0,e1,e5,c1']
    refine ⟨e0,e1,?_⟩
    obtain rfl:k = x.length:=by omega
    rw[List.drop_length] at hc
    rw[ltD,hc]
    by_cases c2:x.length < y.length
    ·rw[List.drop_eq_getElem_cons c2,decide_eq_true (show ((x.length:Nat):Int) < ((y.length:Nat):Int) by omega)]
     rfl
    ·rw[List.drop_eq_nil_of_le (by omega),decide_eq_false (show ¬ ((x.length:Nat):Int) < ((y.length:Nat):Int) by omega)]
     rfl
 ·rintro e g ⟨e0,e1,hc⟩
  simp (disch:=omega) only[wp,qa,qb,qc,e0,e1,hc]
end Go.Ab
end
section
set_option linter.unusedVariables false
set_option linter.unusedSimpArgs false
namespace Go.Ab
variable {F:Funs}
theorem insL_at:∀ {M:List (List Int)} {x:List Int} {k:Nat},k≤M.length→(∀ j,j < k→ltL (M.getD j []) x)→(k < M.length→¬ ltL (M.getD k []) x) →
  insL M x = if k < M.length∧M.getD k [] = x then M else M.take k ++ [x] ++ M.drop k
 | [],x,k,h,_,_ => by
   obtain rfl:k = 0:=by simpa using h
   rfl
 | a :: M,x,0,h,h1,h2 => by
   have ha:¬ ltL a x:=h2 (by simp)
   unfold insL
   rw[if_neg ha]
   by_cases hx:a = x
   ·rw[if_pos hx,if_pos ⟨by simp,hx⟩]
   ·rw[if_neg hx,if_neg (fun h => hx h.2)]
    rfl
 | a :: M,x,k + 1,h,h1,h2 => by
   have ha:ltL a x:=h1 0 (by omega)
   unfold insL
   rw[if_pos ha,insL_at (M:=M) (k:=k) (by simpa using h) (fun j hj => h1 (j + 1) (by omega)) (fun hk => h2 (by simpa using hk))]
   simp only[List.length_cons,Nat.add_lt_add_iff_right,List.getD_cons_succ]
   split
   ·rfl
   ·rfl
structure RsO (L:List (List Int)) (t:Tok) (k:Nat) (M:List (List Int)) (u:Tok) (e:Env) (g:G):Prop where
 hk:k≤L.length
 e0:e 0 = .sl (llC L) L.length t
 e4:e 4 = .i .i64 ((k:Nat):Int)
 e3:e 3 = .sl (llC M) M.length u
 tk:TkOk 1 g u
 hM:M = (L.take k).foldl insL []
structure RsI (L:List (List Int)) (t:Tok) (k:Nat) (M:List (List Int)) (u:Tok) (j:Nat) (e:Env) (g:G):Prop where
 hj:j≤M.length
 e0:e 0 = .sl (llC L) L.length t
 e4:e 4 = .i .i64 ((k:Nat):Int)
 e3:e 3 = .sl (llC M) M.length u
 e5:e 5 = .i .i64 ((j:Nat):Int)
 tk:TkOk 1 g u
 hl:∀ i,i < j→ltL (M.getD i []) (L.getD k [])
structure RsM (L:List (List Int)) (t:Tok) (k:Nat) (M:List (List Int)) (u:Tok) (j:Nat) (e:Env) (g:G):Prop extends RsI L t k M u j e g where
 hn:j < M.length→¬ ltL (M.getD j []) (L.getD k [])
structure RsE (L:List (List Int)) (e:Env) (g:G):Prop where
 e3:∃ u,e 3 = .sl (llC (srtL L)) (srtL L).length u
theorem llC_take (M:List (List Int)) (k:Nat):(llC M).take (k * 1) = llC (M.take k):=by simp[llC,List.map_take]
theorem llC_dt (M:List (List Int)) (k:Nat):((llC M).drop (k * 1)).take ((M.length - k) * 1) = llC (M.drop k):=by
 rw[List.take_of_length_le (by rw[List.length_drop,llC_len];omega)]
 simp[llC,List.map_drop]
theorem llC_app (A B:List (List Int)):llC A ++ llC B = llC (A ++ B):=by simp[llC]
theorem fold_take {L:List (List Int)} {k:Nat} (h:k < L.length):(L.take (k + 1)).foldl insL [] = insL ((L.take k).foldl insL []) (L.getD k []):=by
 rw[List.take_succ_eq_append_getElem h,List.foldl_append,getD_get h]
 rfl
theorem TkOk.after {e1 e2 id1 id2 m n:Nat} {u1 u2:Tok} {g:G} {hp1 hp2:Nat→Option Blk} (a1:AppR e1 id1 .rig u1 g hp1) (a2:AppR e2 id2 .rig u2 ⟨hp1,n⟩ hp2) (hne:id1≠id2) (hm:id1 < m):TkOk e1 ⟨hp2,m⟩ u1:=by
 rcases a1.tok with rfl | ⟨rfl,h1⟩
 ·exact .inl rfl
 ·refine .inr ⟨id1,rfl,?_,hm⟩
  show hp2 id1 = _
  rw[a2.keep id1 hne (fun _ h => by cases h)]
  exact h1
theorem sp_rsort (h540:F 540 = some A_xref08_Sort) (h543:F 543 = some A_xref08_less) (h296:F 296 = some A_xref06_SameInts) {L:List (List Int)} (hl:∀ l∈L,l.length≤1000000) (h2:L.length≤100000) (t:Tok):
  pureS F 540 [.sl (llC L) L.length t] = some (.sl (llC (srtL L)) (srtL L).length .non):=by
 refine pure_of h540 ?_
 simp (disch:=omega) only[A_xref08_Sort,wp,qa,qb,qc]
 refine blk_cut (fun e g => RsE L e g) ?_ ?_
 ·refine W_loop (fun q e g => ∃ (k:Nat) (M:List (List Int)) (u:Tok),q = L.length - k∧RsO L t k M u e g) L.length ?_ ?_
  ·exact ⟨0,[],.rig,rfl,Nat.zero_le _,rfl,rfl,rfl,.inl rfl,rfl⟩
  ·rintro q e g ⟨k,M,u,rfl,hk,e0,e4,e3,tk,hM⟩
   by_cases c1:k < L.length
   ·have c1':((k:Nat):Int) < ((L.length:Nat):Int):=by omega
    have hp1L:=llC_at (L:=L) (k:=k) c1
    have hw:=succ_wrap (k:=k) (by omega)
    have hx:=hl _ (getL_mem c1)
    have hMl:M.length≤k:=by
     have:=srtL_len (L.take k) []
     rw[←hM,List.length_take] at this
     simp at this
     omega
    have hMm:∀ l∈M,l.length≤1000000:=fun l h => by
     rw[hM] at h
     have:=((srtL_gen (L.take k) [] List.Pairwise.nil).2 l).1 h
     simp at this
     exact hl l (List.mem_of_mem_take this)
    simp (disch:=omega) only[wp,qa,qb,qc,e0,e3,e4,c1']
    refine blk_cut (fun e g => ∃ j,RsM L t k M u j e g) ?_ ?_
    ·refine W_loop (fun q e g => ∃ j,q = M.length - j∧RsI L t k M u j e g) M.length ?_ ?_
     ·refine ⟨0,rfl,Nat.zero_le _,e0,e4,e3,rfl,tk.mono (fun _ _ => rfl) (by first | omega | (dsimp only;omega)),fun i h => absurd h (Nat.not_lt_zero _)⟩
     ·rintro q e g ⟨j,rfl,hj,e0,e4,e3,e5,tk,hlt⟩
      by_cases c2:j < M.length
      ·have c2':((j:Nat):Int) < ((M.length:Nat):Int):=by omega
       have hp2:=llC_at (L:=M) (k:=j) c2
       have hwj:=succ_wrap (k:=j) (by omega)
       have hs:=sp_rless h543 (M.getD j []) (L.getD k []) (hMm _ (getL_mem c2)) hx .non .non
       unfold lv at hp1L hp2
       by_cases c3:ltL (M.getD j []) (L.getD k [])
       ·rw[decide_eq_true c3] at hs
        simp (disch:=omega) only[wp,qa,qb,qc,e0,e3,e4,e5,c1',c2',hp1L,hp2,hs,hwj]
        refine ⟨M.length - (j + 1),by omega,j + 1,rfl,by omega,e0,e4,e3,rfl,tk.mono (fun _ _ => rfl) (by first | omega | (dsimp only;omega)),fun i hi => ?_⟩
        by_cases h:i < j
        ·exact hlt i h
        ·obtain rfl:i = j:=by omega
         exact c3
       ·rw[decide_eq_false c3] at hs
        simp (disch:=omega) only[wp,qa,qb,qc,e0,e3,e4,e5,c1',c2',hp1L,hp2,hs,hwj]
        exact ⟨j,⟨⟨hj,e0,e4,e3,e5,tk.mono (fun _ _ => rfl) (by first | omega | (dsimp only;omega)),hlt⟩,fun _ => c3⟩⟩
      ·have c2':¬ ((j:Nat):Int) < ((M.length:Nat):Int):=by omega
       simp (disch:=omega) only[wp,qa,qb,qc,e0,e3,e4,e5,c2']
       exact ⟨j,⟨⟨hj,e0,e4,e3,e5,tk.mono (fun _ _ => rfl) (by first | omega | (dsimp only;omega)),hlt⟩,fun h => absurd h c2⟩⟩
    ·rintro e g ⟨j,⟨hj,e0,e4,e3,e5,tk,hlt⟩,hn⟩
     have hins:=insL_at hj hlt hn
     have hft:=fold_take c1
     rw[←hM] at hft
     have done:∀ (M':List (List Int)) (u':Tok) (e':Env) (g':G),e' 0 = .sl (llC L) L.length t→e' 4 = .i .i64 ((k + 1:Nat):Int)→e' 3 = .sl (llC M') M'.length u'→TkOk 1 g' u'→M' = insL M (L.getD k [])→∃ m',m' < L.length - k∧∃ (k:Nat) (M:List (List Int)) (u:Tok),m' = L.length - k∧RsO L t k M u e' g':=
      fun M' u' e' g' a0 a4 a3 at' aM => ⟨L.length - (k + 1),by omega,k + 1,M',u',rfl,⟨by omega,a0,a4,a3,at',by rw[aM,hft]⟩⟩
     have ins:¬ (j < M.length∧M.getD j [] = L.getD k [])→∀ (e':Env) (g':G) (c:ACode) (Q:Out→Env→G→Prop),True:=fun _ _ _ _ _ => trivial
     unfold lv at hp1L
     by_cases c2:j < M.length
     ·have c2':((j:Nat):Int) < ((M.length:Nat):Int):=by omega
      have hp2:=llC_at (L:=M) (k:=j) c2
      have hs:=sp_sameI h296 (M.getD j []) (L.getD k []) (hMm _ (getL_mem c2)) hx .non .non
      unfold lv at hp2
      by_cases c3:M.getD j [] = L.getD k []
      ·rw[decide_eq_true c3] at hs
       rw[if_pos ⟨c2,c3⟩] at hins
       simp (disch:=omega) only[wp,qa,qb,qc,e0,e3,e4,e5,c1',c2',hp1L,hp2,hs,hw]
       exact done M u _ _ e0 rfl e3 (tk.mono (fun _ _ => rfl) (by first | omega | (dsimp only;omega))) hins.symm
      ·rw[decide_eq_false c3] at hs
       rw[if_neg (fun h => c3 h.2)] at hins
       simp (disch:=omega) only[wp,qa,qb,qc,e0,e3,e4,e5,c1',c2',hp1L,hp2,hs,hw,oSlice,evoN,evoS,slTo,slFrom,llC_take,llC_dt]
       refine bindO_app (.inl rfl) (fun _ h => by cases h) ⟨by omega,by omega,rfl,by rw[llC_tl hj,Nat.mul_one]⟩ ?_
       intro u1 hp1 a1
       simp (disch:=omega) only[wp,qa,qb,qc,e0,e3,e4,e5,hp1L]
       refine bindO_app (.inl rfl) (fun _ h => by cases h) ⟨by omega,by omega,rfl,by rw[intsC_len,Nat.mul_one]⟩ ?_
       intro u2 hp2 a2
       simp (disch:=omega) only[wp,qa,qb,qc,e0,e3,e4,e5,hw]
       refine bindO_app (TkOk.after a1 a2 (by omega) (by omega)) (fun _ _ => rfl) ⟨by omega,by omega,by rw[llC_tl hj,Nat.mul_one],rfl⟩ ?_
       intro u3 hp3 a3
       simp (disch:=omega) only[wp,qa,qb,qc,e0,e3,e4,e5,oSlice,evoN,evoS,slTo,slFrom,llC_take,llC_dt]
       refine bindO_app (a3.ok (by omega)) (fun _ _ => rfl) ⟨by omega,by omega,by rw[List.length_append,llC_tl hj,Nat.mul_one];rfl,by rw[llC_len,List.length_drop,Nat.mul_one]⟩ ?_
       intro u4 hp4 a4
       simp (disch:=omega) only[wp,qa,qb,qc,e0,e3,e4,e5,hw]
       refine done (M.take j ++ [L.getD k []] ++ M.drop j) u4 _ _ e0 rfl ?_ (a4.ok (by first | omega | (dsimp only;omega))) hins.symm
       have e1:llC (M.take j) ++ [lv (L.getD k [])] ++ llC (M.drop j) = llC (M.take j ++ [L.getD k []] ++ M.drop j):=by rw[←llC_app,←llC_app];rfl
       have e2:(M.take j ++ [L.getD k []] ++ M.drop j).length = j + 1 + (M.length - j):=by simp;omega
       rw[e2,←e1]
       rfl
     ·have c2':¬ ((j:Nat):Int) < ((M.length:Nat):Int):=by omega
      rw[if_neg (fun h => c2 h.1)] at hins
      simp (disch:=omega) only[wp,qa,qb,qc,e0,e3,e4,e5,c1',c2',hp1L,hw,oSlice,evoN,evoS,slTo,slFrom,llC_take,llC_dt]
      refine bindO_app (.inl rfl) (fun _ h => by cases h) ⟨by omega,by omega,rfl,by rw[llC_tl hj,Nat.mul_one]⟩ ?_
      intro u1 hp1 a1
      simp (disch:=omega) only[wp,qa,qb,qc,e0,e3,e4,e5,hp1L]
      refine bindO_app (.inl rfl) (fun _ h => by cases h) ⟨by omega,by omega,rfl,by rw[intsC_len,Nat.mul_one]⟩ ?_
      intro u2 hp2 a2
      simp (disch:=omega) only[wp,qa,qb,qc,e0,e3,e4,e5,hw]
      refine bindO_app (TkOk.after a1 a2 (by omega) (by omega)) (fun _ _ => rfl) ⟨by omega,by omega,by rw[llC_tl hj,Nat.mul_one],rfl⟩ ?_
      intro u3 hp3 a3
      simp (disch:=omega) only[wp,qa,qb,qc,e0,e3,e4,e5,oSlice,evoN,evoS,slTo,slFrom,llC_take,llC_dt]
      refine bindO_app (a3.ok (by omega)) (fun _ _ => rfl) ⟨by omega,by omega,by rw[List.length_append,llC_tl hj,Nat.mul_one];rfl,by rw[llC_len,List.length_drop,Nat.mul_one]⟩ ?_
      intro u4 hp4 a4
      simp (disch:=omega) only[wp,qa,qb,qc,e0,e3,e4,e5,hw]
      refine done (M.take j ++ [L.getD k []] ++ M.drop j) u4 _ _ e0 rfl ?_ (a4.ok (by first | omega | (dsimp only;omega))) hins.symm
      have e1:llC (M.take j) ++ [lv (L.getD k [])] ++ llC (M.drop j) = llC (M.take j ++ [L.getD k []] ++ M.drop j):=by rw[←llC_app,←llC_app];rfl
      have e2:(M.take j ++ [L.getD k []] ++ M.drop j).length = j + 1 + (M.length - j):=by simp;omega
      rw[e2,←e1]
      rfl
   ·have c1':¬ ((k:Nat):Int) < ((L.length:Nat):Int):=by omega
    obtain rfl:k = L.length:=by omega
    rw[List.take_length] at hM
    simp (disch:=omega) only[wp,qa,qb,qc,e0,e3,e4,c1']
    exact ⟨⟨u,by rw[show srtL L = M from hM.symm];exact e3⟩⟩
 ·rintro e g ⟨u,e3⟩
  simp (disch:=omega) only[wp,qa,qb,qc,e3]
end Go.Ab
end
section
set_option linter.unusedVariables false
set_option linter.unusedSimpArgs false
namespace Go.Ab
variable {F:Funs}
def FewLL (L:List (List Int)):Prop:=L.length≤60∧∀ l∈L,l.length≤20
structure FwI (L:List (List Int)) (t:Tok) (k:Nat) (e:Env) (g:G):Prop where
 hk:k≤L.length
 e0:e 0 = .sl (llC L) L.length t
 e3:e 3 = .i .i64 ((k:Nat):Int)
 h:∀ i,i < k→(L.getD i []).length≤20
structure FwE (L:List (List Int)) (t:Tok) (e:Env) (g:G):Prop where
 e0:e 0 = .sl (llC L) L.length t
 h:L.length≤60→∀ l∈L,l.length≤20
theorem sp_few (h539:F 539 = some A_xlaw08_few) (L:List (List Int)) (t:Tok):∃ b,pureS F 539 [.sl (llC L) L.length t] = some (.b b)∧(b = true→FewLL L):=by
 refine pureB_of h539 ?_
 simp (disch:=omega) only[A_xlaw08_few,wp,qa,qb,qc]
 refine blk_cutR (fun e g => FwE L t e g) ?_ ?_
 ·refine W_loop (fun q e g => ∃ k,q = L.length - k∧FwI L t k e g) L.length ?_ ?_
  ·exact ⟨0,rfl,Nat.zero_le _,rfl,rfl,fun i h => absurd h (Nat.not_lt_zero _)⟩
  ·rintro q e g ⟨k,rfl,hk,e0,e3,h⟩
   have fin:L.length≤k∨60≤k→L.length≤60→∀ l∈L,l.length≤20:=fun c hL l hl => by
    obtain ⟨i,hi,rfl⟩:=List.getElem_of_mem hl
    have:=h i (by omega)
    rwa [getD_get hi] at this
   by_cases c1:k < L.length
   ·have c1':((k:Nat):Int) < ((L.length:Nat):Int):=by omega
    by_cases c2:k < 60
    ·have c2':((k:Nat):Int) < 60:=by omega
     have hp1:=llC_at (L:=L) (k:=k) c1
     have hw:=succ_wrap (k:=k) (by omega)
     unfold lv at hp1
     by_cases c3:(L.getD k []).length≤20
     ·have c3':¬ (20:Int) < (((L.getD k []).length:Nat):Int):=by omega
      simp (disch:=omega) only[wp,qa,qb,qc,e0,e3,c1',c2',c3',hp1,hw]
      refine ⟨L.length - (k + 1),by omega,k + 1,rfl,by omega,e0,rfl,fun i hi => ?_⟩
      by_cases hik:i < k
      ·exact h i hik
      ·obtain rfl:i = k:=by omega
       exact c3
     ·have c3':(20:Int) < (((L.getD k []).length:Nat):Int):=by omega
      simp (disch:=omega) only[wp,qa,qb,qc,e0,e3,c1',c2',c3',hp1,hw]
      exact ⟨_,rfl,fun h => by cases h⟩
    ·have c2':¬ ((k:Nat):Int) < 60:=by omega
     simp (disch:=omega) only[wp,qa,qb,qc,e0,e3,c1',c2']
     exact ⟨e0,fin (.inr (by omega))⟩
   ·have c1':¬ ((k:Nat):Int) < ((L.length:Nat):Int):=by omega
    simp (disch:=omega) only[wp,qa,qb,qc,e0,e3,c1']
    exact ⟨e0,fin (.inl (by omega))⟩
 ·rintro e g ⟨e0,h⟩
  by_cases c:L.length≤60
  ·have c':((L.length:Nat):Int)≤60:=by omega
   simp (disch:=omega) only[wp,qa,qb,qc,e0,c']
   exact ⟨_,rfl,fun _ => ⟨c,h c⟩⟩
  ·have c':¬ ((L.length:Nat):Int)≤60:=by omega
   simp (disch:=omega) only[wp,qa,qb,qc,e0,c']
   exact ⟨_,rfl,fun h => by cases h⟩
theorem FewLL.l6 {L:List (List Int)} (h:FewLL L):∀ l∈L,l.length≤1000000:=fun l hl => Nat.le_trans (h.2 l hl) (by omega)
theorem srtL_len' (L:List (List Int)):(srtL L).length≤L.length:=by have h:=srtL_len L [];rw[List.length_nil,Nat.zero_add] at h;exact h
theorem srtL_ext {A B:List (List Int)} (h:∀ x,x∈A↔x∈B):srtL A = srtL B:=rise_ext (srtL_rise A) (srtL_rise B) fun x => by rw[srtL_mem,srtL_mem,h]
theorem srtL_few {L:List (List Int)} (h:FewLL L):FewLL (srtL L):=⟨Nat.le_trans (srtL_len' L) h.1,fun l hl => h.2 l (srtL_mem.1 hl)⟩
theorem hasL_iff {L:List (List Int)} {m:List Int}:hasL L m = true↔m∈L:=by
 unfold hasL
 rw[List.any_eq_true]
 constructor
 ·rintro ⟨x,hx,h⟩
  rw[←of_decide_eq_true h]
  exact hx
 ·intro h
  exact ⟨m,h,decide_eq_true rfl⟩
theorem inL_iff {A B:List (List Int)}:inL A B = true↔∀ x∈A,x∈B:=by
 unfold inL
 rw[List.all_eq_true]
 exact ⟨fun h x hx => hasL_iff.1 (h x hx),fun h x hx => hasL_iff.2 (h x hx)⟩
structure LawMm (F:Funs):Prop extends MemF F where
 few:F 539 = some A_xlaw08_few
 sort:F 298 = some A_mem_Sort
 clone:F 373 = some A_clone
 sortF:F 374 = some A_sortFunc
 cptF:F 375 = some A_slices_CompactFunc_llint_lint
 rsort:F 540 = some A_xref08_Sort
 rhas:F 541 = some A_xref08_Has
 rin:F 542 = some A_xref08_In
 rless:F 543 = some A_xref08_less
 sameI:F 296 = some A_xref06_SameInts
 sameL:F 297 = some A_xref06_SameLists
 place:F 10 = some A_xlaw00_Place
 awake:pureS F 279 [] = some (.b true)
theorem LawMm.srt (A:LawMm F):SrtF F:=⟨A.toCmpF,A.sort,A.clone,A.sortF,A.cptF⟩
theorem law_memLists (A:LawMm F) (h536:F 536 = some A_xlaw08_MemLists) (a b:List (List Int)) (m:List Int):
  pureS F 536 [.sl (llC a) a.length .non,.sl (llC b) b.length .non,.sl (intsC m) m.length .non] = some (.b true):=by
 refine pure_of h536 ?_
 have hw:=A.awake
 obtain ⟨b1,f1,g1⟩:=sp_few A.few a .non
 obtain ⟨b2,f2,g2⟩:=sp_few A.few b .non
 cases b1 with
 | false => simp (disch:=omega) only[A_xlaw08_MemLists,wp,qa,qb,qc,f1,hw]
 | true =>
 cases b2 with
 | false => simp (disch:=omega) only[A_xlaw08_MemLists,wp,qa,qb,qc,f1,f2,hw]
 | true =>
 have ha:=g1 rfl
 have hb:=g2 rfl
 by_cases c:m.length≤20
 ·have c':¬ (20:Int) < ((m.length:Nat):Int):=by omega
  have a1:=ha.1
  have b1:=hb.1
  have hs:=sp_msort A.srt ha.l6 (by omega) .non
  have hsf:=srtL_few ha
  have s1:=hsf.1
  have hs2:=sp_msort A.srt hsf.l6 (by omega) .non
  have hss:srtL (srtL a) = srtL a:=srtL_ext fun x => srtL_mem
  rw[hss] at hs2
  have hrs:=sp_rsort A.rsort A.rless A.sameI ha.l6 (by omega) .non
  have hsl:=sp_sameLL A.sameL A.sameI (srtL a) (by omega) hsf.l6 .non .non
  have hh1:=sp_mhas A.toMemF (L:=a) (by omega) ha.l6 .non .non m
  have hh2:=sp_rhas A.rhas A.sameI (L:=a) (by omega) ha.l6 m (by omega) .non .non
  have hi1:=sp_min A.toMemF (L:=a) (B:=b) (by omega) (by omega) hb.l6 .non .non
  have hi2:=sp_rin A.rin A.rhas A.sameI (L:=a) (B:=b) (by omega) ha.l6 (by omega) hb.l6 .non .non
  have hi3:=sp_min A.toMemF (L:=a) (B:=srtL a) (by omega) (by omega) hsf.l6 .non .non
  have hi4:=sp_min A.toMemF (L:=srtL a) (B:=a) (by omega) (by omega) ha.l6 .non .non
  rw[show inL a (srtL a) = true from inL_iff.2 fun x h => srtL_mem.2 h] at hi3
  rw[show inL (srtL a) a = true from inL_iff.2 fun x h => srtL_mem.1 h] at hi4
  simp (disch:=omega) only[A_xlaw08_MemLists,wp,qa,qb,qc,f1,f2,c']
  refine bindO_app (.inl rfl) (fun _ h => by cases h) ⟨by omega,by omega,rfl,by rw[llC_len,Nat.mul_one]⟩ ?_
  intro u hp _
  simp (disch:=omega) only[wp,qa,qb,qc,hs,hs2,hrs,hsl,hh1,hh2,hi1,hi2,hi3,hi4,hw]
 ·have c':(20:Int) < ((m.length:Nat):Int):=by omega
  simp (disch:=omega) only[A_xlaw08_MemLists,wp,qa,qb,qc,f1,f2,c',hw]
end Go.Ab
end
section
set_option linter.unusedVariables false
set_option maxRecDepth 100000
namespace Go.Ab
def decLN:List AV→Option (List (List Int))
 | [] => some []
 | .sl cs n .non :: r => match decI cs,decLN r with
   | some l,some L => if l.length = n∧n≤1000000 then some (l :: L) else none
   | _,_ => none
 | _ => none
theorem decLN_inv:∀ {cs:List AV} {L:List (List Int)},decLN cs = some L→cs = llC L∧∀ l∈L,l.length≤1000000
 | [],L,h => by cases h;exact ⟨rfl,fun _ h => by cases h⟩
 | x :: cs,L,h => by
   cases x with
   | sl a n t =>
     cases t with
     | non =>
       simp only[decLN] at h
       cases h2:decI a with
       | none => rw[h2] at h;cases h
       | some l =>
         cases h3:decLN cs with
         | none => rw[h2,h3] at h;cases h
         | some M =>
           rw[h2,h3] at h
           simp only at h
           by_cases hn:l.length = n∧n≤1000000
           ·rw[if_pos hn] at h
            cases h
            obtain ⟨e1,e2⟩:=decLN_inv h3
            obtain ⟨rfl,hn⟩:=hn
            refine ⟨?_,fun x hx => ?_⟩
            ·rw[decI_inv h2,e1];rfl
            ·rcases List.mem_cons.1 hx with rfl | hx
             ·exact hn
             ·exact e2 x hx
           ·rw[if_neg hn] at h;cases h
     | _ => cases h
   | _ => cases h
def msOrc:Orc:=fun f bs => if f = 298 then (match bs with
 | [.sl cs n .non] => match decLN cs with
   | some L => if L.length = n∧n≤999999 then some (.sl (llC (srtL L)) (srtL L).length .non) else none
   | none => none
 | _ => none) else none
theorem msOrc_ok {F:Funs} (A:SrtF F):OrcOk F msOrc:=by
 intro f bs v hv
 unfold msOrc at hv
 split at hv
 ·rename_i hf
  subst hf
  split at hv
  ·rename_i cs n
   cases hd:decLN cs with
   | none => rw[hd] at hv;cases hv
   | some L =>
     rw[hd] at hv
     simp only at hv
     by_cases hn:L.length = n∧n≤999999
     ·rw[if_pos hn] at hv
      cases hv
      obtain ⟨e1,e2⟩:=decLN_inv hd
      obtain ⟨rfl,hn⟩:=hn
      subst e1
      exact sp_msort A e2 hn .non
     ·rw[if_neg hn] at hv;cases hv
  ·cases hv
 ·cases hv
end Go.Ab
namespace Go.Proofs.Ythpfjbakmedfiaa
open Go.Ab
theorem srtF:SrtF funs:=⟨⟨rfl,rfl,rfl,rfl,rfl⟩,rfl,rfl,rfl,rfl⟩
theorem mm_awake:pureS funs 279 [] = some (.b true):=pure_eval (msOrc_ok srtF) 1000 (fn:=A_xlaw08_awake) rfl (by kernel_rfl)
theorem lawMm:LawMm funs:=⟨⟨srtF.toCmpF,rfl,rfl,rfl,rfl,rfl,rfl⟩,rfl,rfl,rfl,rfl,rfl,rfl,rfl,rfl,rfl,rfl,rfl,rfl,mm_awake⟩
theorem memLists_law (a b:List (List Int)) (m:List Int):pureS funs 536 [.sl (llC a) a.length .non,.sl (llC b) b.length .non,.sl (intsC m) m.length .non] = some (.b true):=law_memLists lawMm rfl a b m
end Go.Proofs.Ythpfjbakmedfiaa
end
section
set_option linter.unusedVariables false
set_option linter.unusedSimpArgs false
namespace Go.Ab
open Go.RowKit
section
variable {H:Type} {enc:TypeId × Value→H} {P:Program} {c:Cx}
end
theorem sh_int {P:Program} {m:Nat} {t:TypeId} {asx:List AV} (ht:P.underlying t = some (.int .i64)) (h:Sh P (m + 1) t asx):∃ n,asx = [.i .i64 n]:=by
 simp only[Sh,ht] at h
 obtain ⟨n,h,_⟩:=h
 exact ⟨n,h⟩
theorem sh_slice {P:Program} {m:Nat} {t e:TypeId} {asx:List AV} {α:Type} {f:α→List AV} (ht:P.underlying t = some (.slice e)) (he:∀ r,Sh P m e r→∃ p,r = f p) (h:Sh P (m + 1) t asx):∃ l:List α,asx = [.sl (l.flatMap f) l.length .non]∧l.length≤maxLen:=by
 simp only[Sh,ht] at h
 obtain ⟨cs,n,rfl,hn,rows,hl,rfl,hS⟩:=h
 have key:∀ rows:List (List AV),(∀ r∈rows,Sh P m e r)→∃ l:List α,rows.flatten = l.flatMap f∧l.length = rows.length:=by
  intro rows
  induction rows with
  | nil => intro _;exact ⟨[],rfl,rfl⟩
  | cons r rows ih =>
    intro h
    obtain ⟨p,rfl⟩:=he r (h r (List.mem_cons_self ..))
    obtain ⟨l,h1,h2⟩:=ih fun r hr => h r (List.mem_cons_of_mem _ hr)
    exact ⟨p :: l,by rw[List.flatten_cons,h1];rfl,by simp[h2]⟩
 obtain ⟨l,h1,h2⟩:=key rows hS
 exact ⟨l,by rw[h1,←hl,h2],by omega⟩
theorem intsC_flat (l:List Int):l.flatMap (fun v => [AV.i .i64 v]) = intsC l:=by
 induction l with
 | nil => rfl
 | cons a l ih => rw[List.flatMap_cons,ih];rfl
section
variable {P:Program} {i b e g sE sI sC sP p:TypeId} {fe fg fp:Array Field}
theorem sh_intsG {m:Nat} (hi:P.underlying i = some (.int .i64)) (hI:P.underlying sI = some (.slice i)) {asx:List AV} (h:Sh P (m + 2) sI asx):∃ l:List Int,asx = [.sl (intsC l) l.length .non]∧l.length≤maxLen:=by
 obtain ⟨l,h1,h2⟩:=sh_slice (f:=fun v => [AV.i .i64 v]) hI (fun r hr => sh_int hi hr) h
 exact ⟨l,by rw[h1,intsC_flat],h2⟩
end
end Go.Ab
end
section
namespace Go.Ab
open Go.RowKit
theorem llC_flatMap (L:List (List Int)):L.flatMap (fun c => [AV.sl (intsC c) c.length .non]) = llC L:=by
 induction L with
 | nil => rfl
 | cons a l ih => rw[List.flatMap_cons,ih];rfl
theorem sh_lls {P:Program} {t e i:TypeId} {x:AV} (ht:P.underlying t = some (.slice e)) (he:P.underlying e = some (.slice i)) (hi:P.underlying i = some (.int .i64)) (h:Sh P 3 t [x]):
  ∃ L:List (List Int),x = .sl (llC L) L.length .non∧L.length≤maxLen:=by
 obtain ⟨l,h1,h2⟩:=sh_slice (m:=2) (f:=fun c:List Int => [AV.sl (intsC c) c.length .non]) ht (fun r hr => by
  obtain ⟨l,h1,_⟩:=sh_intsG (m:=0) hi he hr
  exact ⟨l,h1⟩) h
 rw[llC_flatMap] at h1
 exact ⟨l,(List.cons.inj h1).1,h2⟩
end Go.Ab
end
