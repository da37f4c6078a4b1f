/- What MemSets rests on, part 2: lemmas, no claim of its own. -/
import Derived.LoopN
import Derived.Scope
import Derived.Test.YthpfjbakmedfiaaChecked
import Derived.KernelRfl
import Derived.OpenShut
import Derived.ChangeArms
import Derived.Laws.Rows
import Derived.Shelf.SlSortCmp.Whole1
import Derived.Test.YthpfjbakmedfiaaProg
import Derived.Lib.QuietBelow
import Derived.Ground.Names2Prog
import Derived.Shelf.Slices.Clone
import Derived.Test.YthpfjbakmedfiaaPMemSets1
set_option maxRecDepth 100000
set_option maxHeartbeats 16000000
open Nat renaming reduceAdd → qa, reduceMul → qb, reduceSub → qc
section
set_option linter.unusedVariables false
set_option linter.unusedSimpArgs false
namespace Go.Ab
def Opd.names:Opd→List Nat
 | .t n => [n]
 | .c _ => []
def onames:Option Opd→List Nat
 | some x => x.names
 | none => []
def pnames (ps:List (Nat × Nat × Opd)):List Nat:=ps.flatMap fun p => p.2.2.names
def AOp.names:AOp→List Nat
 | .mv x | .box x | .boxI x | .ld _ x | .ldF _ x | .nilck x | .eqs _ x | .clr _ _ x | .un _ x | .conv _ x | .fa _ x | .fld _ _ x | .ext _ x | .len x | .slen x => x.names
 | .pick x y z | .mput x y z => x.names ++ y.names ++ z.names
 | .new _ | .mkmap => []
 | .build _ ps | .bsl _ _ _ ps => pnames ps
 | .st _ x y | .stL _ x y | .stW _ x y | .bin _ x y | .eqb _ x y | .eqn _ x y | .eqa _ _ x y | .mget x y | .mksl _ _ _ x y | .ia _ x y | .iaa _ _ x y | .idx _ _ _ x y | .sidx x y | .mx x y | .mn x y | .app _ _ x y | .appM _ _ x y | .cutM _ x y => x.names ++ y.names
 | .bad => []
 | .ldQ _ x t => x.names ++ [t]
 | .stN _ x y ts => x.names ++ y.names ++ ts
 | .mkfn _ a b => a.flatMap (·.names) ++ b.flatMap (·.names)
 | .slice _ x l h m => x.names ++ onames l ++ onames h ++ onames m
 | .sslice x l h => x.names ++ onames l ++ onames h
 | .call _ f asx => f.names ++ asx.flatMap (·.names)
theorem ev_congr {e e':Env} {x:Opd} (h:∀ t∈x.names,e' t = e t):x.ev e' = x.ev e:=by
 cases x with
 | t n => exact h n (by simp[Opd.names])
 | c v => rfl
theorem evo_congr {e e':Env} {x:Option Opd} (h:∀ t∈onames x,e' t = e t):evo e' x = evo e x:=by
 cases x with
 | none => rfl
 | some x => exact congrArg some (ev_congr h)
theorem evl_congr {e e':Env}:∀ {xs:List Opd},(∀ t∈xs.flatMap (·.names),e' t = e t)→xs.map (·.ev e') = xs.map (·.ev e)
 | [],_ => rfl
 | x :: xs,h => by
   rw[List.map_cons,List.map_cons,ev_congr (fun t ht => h t (by simp[ht])),evl_congr (xs:=xs) (fun t ht => h t (by rw[List.flatMap_cons];exact List.mem_append_right _ ht))]
theorem fill_congr {e e':Env}:∀ {ps:List (Nat × Nat × Opd)} {cs:List AV},(∀ t∈pnames ps,e' t = e t)→fill e' cs ps = fill e cs ps
 | [],_,_ => rfl
 | (off,n,x) :: ps,cs,h => by
   have hx:x.ev e' = x.ev e:=ev_congr (fun t ht => h t (by simp[pnames,ht]))
   simp only[fill,hx]
   split
   ·exact fill_congr (ps:=ps) (fun t ht => h t (by
     unfold pnames at ht ⊢
     rw[List.flatMap_cons]
     exact List.mem_append_right _ ht))
   ·rfl
theorem opE_congr {call:CS} {al:Nat→Bool} {lo id:Nat} {op:AOp} {e e':Env} (h:∀ t∈op.names,e' t = e t) (g:G):opE call al lo id op e' g = opE call al lo id op e g:=by
 have l1:∀ {x:Opd} {ns:List Nat},(∀ t∈x.names ++ ns,e' t = e t)→x.ev e' = x.ev e:=fun h => ev_congr fun t ht => h t (List.mem_append_left _ ht)
 cases op<;>simp only[AOp.names] at h<;>simp only[opE]
 case mv => rw[ev_congr h]
 case pick => rw[ev_congr fun t ht => h t (by simp[ht]),ev_congr fun t ht => h t (by simp[ht]),ev_congr fun t ht => h t (by simp[ht])]
 case box => rw[ev_congr h]
 case boxI => rw[ev_congr h]
 case build => rw[fill_congr h]
 case bsl => rw[fill_congr h]
 case ld => rw[ev_congr h]
 case ldF => rw[ev_congr h]
 case ldQ => rw[ev_congr fun t ht => h t (by simp[ht]),h _ (by simp)]
 case stN =>
  rename_i n a x ts
  have hts:ts.map e' = ts.map e:=List.map_congr_left fun t ht => h t (by simp[ht])
  rw[ev_congr fun t ht => h t (by simp[ht]),ev_congr fun t ht => h t (by simp[ht]),hts]
 case stW => rw[ev_congr fun t ht => h t (by simp[ht]),ev_congr fun t ht => h t (by simp[ht])]
 case st => rw[ev_congr fun t ht => h t (by simp[ht]),ev_congr fun t ht => h t (by simp[ht])]
 case stL => rw[ev_congr fun t ht => h t (by simp[ht]),ev_congr fun t ht => h t (by simp[ht])]
 case nilck => rw[ev_congr h]
 case bin => rw[ev_congr fun t ht => h t (by simp[ht]),ev_congr fun t ht => h t (by simp[ht])]
 case eqb => rw[ev_congr fun t ht => h t (by simp[ht]),ev_congr fun t ht => h t (by simp[ht])]
 case eqn => rw[ev_congr fun t ht => h t (by simp[ht]),ev_congr fun t ht => h t (by simp[ht])]
 case eqs => rw[ev_congr h]
 case clr => rw[ev_congr h]
 case eqa => rw[ev_congr fun t ht => h t (by simp[ht]),ev_congr fun t ht => h t (by simp[ht])]
 case un => rw[ev_congr h]
 case conv => rw[ev_congr h]
 case mkfn => rw[evl_congr fun t ht => h t (List.mem_append_left _ ht),evl_congr fun t ht => h t (List.mem_append_right _ ht)]
 case mput => rw[ev_congr fun t ht => h t (by simp[ht]),ev_congr fun t ht => h t (by simp[ht]),ev_congr fun t ht => h t (by simp[ht])]
 case mget => rw[ev_congr fun t ht => h t (by simp[ht]),ev_congr fun t ht => h t (by simp[ht])]
 case mksl => rw[ev_congr fun t ht => h t (by simp[ht]),ev_congr fun t ht => h t (by simp[ht])]
 case slice => rw[ev_congr fun t ht => h t (by simp[ht]),evo_congr fun t ht => h t (by simp[ht]),evo_congr fun t ht => h t (by simp[ht]),evo_congr fun t ht => h t (by simp[ht])]
 case sslice => rw[ev_congr fun t ht => h t (by simp[ht]),evo_congr fun t ht => h t (by simp[ht]),evo_congr fun t ht => h t (by simp[ht])]
 case fa => rw[ev_congr h]
 case fld => rw[ev_congr h]
 case ia => rw[ev_congr fun t ht => h t (by simp[ht]),ev_congr fun t ht => h t (by simp[ht])]
 case iaa => rw[ev_congr fun t ht => h t (by simp[ht]),ev_congr fun t ht => h t (by simp[ht])]
 case idx => rw[ev_congr fun t ht => h t (by simp[ht]),ev_congr fun t ht => h t (by simp[ht])]
 case sidx => rw[ev_congr fun t ht => h t (by simp[ht]),ev_congr fun t ht => h t (by simp[ht])]
 case ext => rw[ev_congr h]
 case len => rw[ev_congr h]
 case slen => rw[ev_congr h]
 case mx => rw[ev_congr fun t ht => h t (by simp[ht]),ev_congr fun t ht => h t (by simp[ht])]
 case mn => rw[ev_congr fun t ht => h t (by simp[ht]),ev_congr fun t ht => h t (by simp[ht])]
 case app => rw[ev_congr fun t ht => h t (by simp[ht]),ev_congr fun t ht => h t (by simp[ht])]
 case appM => rw[ev_congr fun t ht => h t (by simp[ht]),ev_congr fun t ht => h t (by simp[ht])]
 case cutM => rw[ev_congr fun t ht => h t (by simp[ht]),ev_congr fun t ht => h t (by simp[ht])]
 case call => rw[l1 h,evl_congr fun t ht => h t (List.mem_append_right _ ht)]
inductive Cls where
 | p | r | a | t | s | x
 deriving DecidableEq
def cls:AOp→Cls
 | .ld _ _ | .mget _ _ | .call .pure _ _ => .r
 | .new _ | .box _ | .bsl false _ _ _ | .mkmap | .mksl _ _ _ _ _ | .call .thaw _ _ | .call .melt _ _ => .a
 | .app _ _ _ _ => .t
 | .stL _ _ _ => .s
 | .appM _ _ (.c (.sl [] 0 .rig)) _ => .a
 | .st _ _ _ | .mput _ _ _ | .call .raw _ _ | .call .see _ _ | .call .lock _ _ | .appM _ _ _ _ | .cutM _ _ _ | .clr _ _ _ | .bad | .ldF _ _ | .stW _ _ _ | .ldQ _ _ _ | .stN _ _ _ _ => .x
 | _ => .p
theorem cls_appM (esz b:Nat) (x y:Opd):cls (.appM esz b x y) = .x∨(cls (.appM esz b x y) = .a∧x = .c (.sl [] 0 .rig)):=by
 cases x with
 | t n => exact .inl rfl
 | c v =>
   cases v with
   | sl cs n t =>
     cases cs with
     | cons _ _ => exact .inl rfl
     | nil => cases n with
       | succ _ => exact .inl rfl
       | zero => cases t with
         | rig => exact .inr ⟨rfl,rfl⟩
         | _ => exact .inl rfl
   | _ => exact .inl rfl
theorem cls_appM_ne {esz b:Nat} {x y:Opd} {c:Cls} (h:cls (.appM esz b x y) = c) (h1:c≠.x) (h2:c≠.a):False:=by
 rcases cls_appM esz b x y with e | ⟨e,_⟩
 ·exact h1 (h.symm.trans e)
 ·exact h2 (h.symm.trans e)
def CM:Option Blk→Prop
 | some (.cells _ _) | some (.map _) => True
 | _ => False
def isT:Option Blk→Prop
 | some (.tok true) => True
 | _ => False
def Rd (c:Cls) (al:Nat→Bool) (lo:Nat) (g:G) (i:Nat):Prop:=match c with
 | .p => False
 | .r | .a => al i = true∧CM (g.hp i)
 | .t => al i = true∧(CM (g.hp i)∨isT (g.hp i))
 | .s => lo≤i∧al i = true∧CM (g.hp i)
 | .x => True
def Wr (c:Cls) (al:Nat→Bool) (lo id:Nat) (g:G) (i:Nat):Prop:=match c with
 | .p | .r => False
 | .a => i = id
 | .t => i = id∨(al i = true∧isT (g.hp i))
 | .s => lo≤i∧al i = true∧CM (g.hp i)
 | .x => True
open Classical in
structure Foot (call:CS) (al:Nat→Bool) (lo id:Nat) (op:AOp) (e:Env) (g:G) (v:AV) (g1:G):Prop where
 nx:g1.nx = g.nx
 kind:∀ i,i≠id→CM (g1.hp i)→CM (g.hp i)
 foot:∃ W:Nat→Prop,(∀ i,W i→Wr (cls op) al lo id g i)∧(∀ i,¬ W i→g1.hp i = g.hp i) ∧
  ∀ g':G,(∀ i,Rd (cls op) al lo g i→g'.hp i = g.hp i)→opE call al lo id op e g' = some (v,⟨fun i => if W i then g1.hp i else g'.hp i,g'.nx⟩)
theorem foot_none {call:CS} {al:Nat→Bool} {lo id:Nat} {op:AOp} {e:Env} {g:G} {v:AV} (h:∀ g':G,(∀ i,Rd (cls op) al lo g i→g'.hp i = g.hp i)→opE call al lo id op e g' = some (v,g')):Foot call al lo id op e g v g:=
 ⟨rfl,fun _ _ h => h,fun _ => False,fun _ h => h.elim,fun _ _ => rfl,fun g' hg' => by
  rw[h g' hg']
  congr 2
  simp⟩
theorem foot_new {call:CS} {al:Nat→Bool} {lo id:Nat} {op:AOp} {e:Env} {g:G} {v:AV} {b:Blk} (hw:Wr (cls op) al lo id g id) (h:∀ g':G,(∀ i,Rd (cls op) al lo g i→g'.hp i = g.hp i)→opE call al lo id op e g' = some (v,⟨upd g'.hp id (some b),g'.nx⟩)):Foot call al lo id op e g v ⟨upd g.hp id (some b),g.nx⟩:=
 ⟨rfl,fun i hi h => by
  have h:CM (upd g.hp id (some b) i):=h
  rwa [upd,if_neg hi] at h,fun i => i = id,fun i hi => by subst hi;exact hw,fun i hi => by show upd _ _ _ _ = _;rw[upd,if_neg hi],fun g' hg' => by
  rw[h g' hg']
  congr 3
  funext i
  by_cases hi:i = id
  ·subst hi;simp[upd]
  ·simp[upd,hi]⟩
mutual
theorem frz_agree {hp hp':Nat→Option Blk} (h:∀ i,CM (hp i)→hp' i = hp i):∀ (k:Nat) {x y:AV},frz hp k x = some y→frz hp' k x = some y∧vis hp' k x = vis hp k x
 | 0,_,_,hf => by simp[frz] at hf
 | k + 1,x,y,hf => by
   cases x with
   | agg cs =>
     simp only[frz] at hf
     cases hc:frzL hp k cs with
     | none => rw[hc] at hf;cases hf
     | some ds => rw[hc] at hf;obtain ⟨h1,h2⟩:=frzL_agree h k hc;exact ⟨by simp only[frz,h1];exact hf,by simp only[vis,h2]⟩
   | tup cs =>
     simp only[frz] at hf
     cases hc:frzL hp k cs with
     | none => rw[hc] at hf;cases hf
     | some ds => rw[hc] at hf;obtain ⟨h1,h2⟩:=frzL_agree h k hc;exact ⟨by simp only[frz,h1];exact hf,by simp only[vis,h2]⟩
   | fn f asx bs =>
     simp only[frz] at hf
     cases hc:frzL hp k asx with
     | none => rw[hc] at hf;cases hf
     | some ds =>
       cases hd:frzL hp k bs with
       | none => rw[hc,hd] at hf;cases hf
       | some es =>
         rw[hc,hd] at hf
         obtain ⟨h1,h2⟩:=frzL_agree h k hc
         obtain ⟨h3,h4⟩:=frzL_agree h k hd
         exact ⟨by simp only[frz,h1,h3];exact hf,by simp only[vis,h2,h4]⟩
   | ifc t v =>
     simp only[frz] at hf
     cases hc:frz hp k v with
     | none => rw[hc] at hf;cases hf
     | some ds => rw[hc] at hf;obtain ⟨h1,h2⟩:=frz_agree h k hc;exact ⟨by simp only[frz,h1];exact hf,by simp only[vis,h2]⟩
   | mp id off =>
     simp only[frz] at hf
     split at hf
     ·rename_i cs ro hb
      have hb':hp' id = some (.cells cs ro):=by rw[h id (by rw[hb];trivial),hb]
      cases hc:frzL hp k (cs.drop off) with
      | none => rw[hc] at hf;cases hf
      | some ds =>
        rw[hc] at hf
        obtain ⟨h1,h2⟩:=frzL_agree h k hc
        exact ⟨by simp only[frz,hb',h1];exact hf,by simp only[vis,hb',hb,h2]⟩
     ·cases hf
   | ms id off n =>
     simp only[frz] at hf
     split at hf
     ·rename_i cs ro hb
      have hb':hp' id = some (.cells cs ro):=by rw[h id (by rw[hb];trivial),hb]
      cases hc:frzL hp k (cs.drop off) with
      | none => rw[hc] at hf;cases hf
      | some ds =>
        rw[hc] at hf
        obtain ⟨h1,h2⟩:=frzL_agree h k hc
        exact ⟨by simp only[frz,hb',h1];exact hf,by simp only[vis,hb',hb,h2]⟩
     ·cases hf
   | mm id => simp[frz] at hf
   | mc id k e n => simp[frz] at hf
   | undef => exact ⟨by simpa only[frz] using hf,by simp only[vis]⟩
   | b x => exact ⟨by simpa only[frz] using hf,by simp only[vis]⟩
   | i k n => exact ⟨by simpa only[frz] using hf,by simp only[vis]⟩
   | s x => exact ⟨by simpa only[frz] using hf,by simp only[vis]⟩
   | nilp => exact ⟨by simpa only[frz] using hf,by simp only[vis]⟩
   | nilf => exact ⟨by simpa only[frz] using hf,by simp only[vis]⟩
   | nili => exact ⟨by simpa only[frz] using hf,by simp only[vis]⟩
   | sl cs n t => exact ⟨by simpa only[frz] using hf,by simp only[vis]⟩
   | ptr cs => exact ⟨by simpa only[frz] using hf,by simp only[vis]⟩
theorem frzL_agree {hp hp':Nat→Option Blk} (h:∀ i,CM (hp i)→hp' i = hp i):∀ (k:Nat) {cs ds:List AV},frzL hp k cs = some ds→frzL hp' k cs = some ds∧cs.flatMap (vis hp' k) = cs.flatMap (vis hp k)
 | k,[],ds,hf => ⟨by simpa only[frzL] using hf,rfl⟩
 | k,x :: cs,ds,hf => by
   simp only[frzL] at hf
   split at hf
   ·rename_i hx hs
    obtain ⟨h1,h2⟩:=frz_agree h k hx
    obtain ⟨h3,h4⟩:=frzL_agree h k hs
    refine ⟨by simp only[frzL,h1,h3];exact hf,?_⟩
    rw[List.flatMap_cons,List.flatMap_cons,h2,h4]
   ·cases hf
end
theorem rd_agree {al:Nat→Bool} {g g':G} (h:∀ i,(al i = true∧CM (g.hp i))→g'.hp i = g.hp i):∀ i,CM (rd g al i)→rd g' al i = rd g al i:=by
 intro i hi
 unfold rd at hi ⊢
 split at hi
 ·rename_i ha
  rw[if_pos ha,if_pos ha]
  exact h i ⟨ha,hi⟩
 ·cases hi
theorem rd_cells {al:Nat→Bool} {g g':G} (h:∀ i,(al i = true∧CM (g.hp i))→g'.hp i = g.hp i) {i:Nat} {b:Blk} (hb:rd g al i = some b) (hc:CM (some b)):rd g' al i = some b:=by
 rw[rd_agree h i (by rw[hb];exact hc),hb]
def Any (f:G→Option (AV × G)):Prop:=∀ g v g1,f g = some (v,g1)→g1 = g∧∀ g',f g' = some (v,g')
theorem any_pick (c a b:AV):Any (vPick c a b):=by
 intro g v g1 h;cases c<;>simp only[vPick] at h<;>first | (cases h;done) | (cases h;exact ⟨rfl,fun _ => rfl⟩)
theorem any_map (o:Option AV):Any fun g => vMap g o:=by
 intro g v g1 h;cases o<;>simp only[vMap] at h<;>first | (cases h;done) | (cases h;exact ⟨rfl,fun _ => rfl⟩)
theorem any_mapL (f) (o:Option (List AV)):Any fun g => vMapL f g o:=by
 intro g v g1 h;cases o<;>simp only[vMapL] at h<;>first | (cases h;done) | (cases h;exact ⟨rfl,fun _ => rfl⟩)
theorem any_some (x:AV):Any fun g => some (x,g):=by intro g v g1 h;cases h;exact ⟨rfl,fun _ => rfl⟩
theorem any_none:Any fun _ => none:=by intro g v g1 h;cases h
theorem any_ite (c:Prop) [Decidable c] {f k:G→Option (AV × G)} (h1:Any f) (h2:Any k):Any fun g => if c then f g else k g:=by
 by_cases h:c
 ·simpa only[if_pos h] using h1
 ·simpa only[if_neg h] using h2
theorem any_boxI (x:AV):Any (vBoxI x):=by unfold vBoxI;exact any_ite _ (any_mapL _ _) any_none
theorem any_bslI (id n:Nat) (o:Option (List AV)):Any (vBsl id true n o):=by
 cases o with
 | none => exact any_none
 | some cs => exact any_mapL _ _
theorem any_nil (x:AV):Any (vNil x):=by cases x<;>first | exact any_none | exact any_some _
theorem any_conv (k:IntKind) (x:AV):Any (vConv k x):=by cases x<;>first | exact any_none | exact any_some _
theorem any_slice (esz:Nat) (x:AV) (l h m:Option AV):Any (vSlice esz x l h m):=by
 cases x<;>first | exact any_none | skip
 ·rename_i cs n t
  show Any fun g => vSlice esz (.sl cs n t) l h m g
  simp only[vSlice]
  split<;>first | exact any_none | exact any_ite _ (any_some _) any_none
 ·rename_i id off n
  show Any fun g => vSlice esz (.ms id off n) l h m g
  simp only[vSlice]
  split<;>first | exact any_none | exact any_ite _ (any_some _) any_none
theorem any_sslice (x:AV) (l h:Option AV):Any (vSslice x l h):=by
 cases x<;>first | exact any_none | skip
 rename_i s
 show Any fun g => vSslice (.s s) l h g
 simp only[vSslice]
 split<;>first | exact any_none | exact any_ite _ (any_some _) any_none
theorem any_fa (off:Nat) (x:AV):Any (vFa off x):=by cases x<;>first | exact any_none | exact any_some _ | exact any_ite _ (any_some _) any_none
theorem any_fld (off:Nat) (agg) (x:AV):Any (vFld off agg x):=by cases x<;>first | exact any_none | exact any_map _
theorem any_ia (esz:Nat) (x i:AV):Any (vIa esz x i):=by
 cases x<;>cases i<;>first | exact any_none | exact any_ite _ (any_some _) any_none
theorem any_iaa (len esz:Nat) (x i:AV):Any (vIaa len esz x i):=by
 cases x<;>cases i<;>first | exact any_none | exact any_ite _ (any_some _) any_none
theorem any_idx (len esz:Nat) (agg) (x i:AV):Any (vIdx len esz agg x i):=by
 cases x<;>cases i<;>first | exact any_none | exact any_ite _ (any_map _) any_none
theorem any_sidx (x i:AV):Any (vSidx x i):=by
 cases x<;>cases i<;>first | exact any_none | skip
 rename_i s k z
 show Any fun g => vSidx (.s s) (.i k z) g
 simp only[vSidx]
 split<;>first | exact any_none | exact any_some _
theorem any_ext (i:Nat) (x:AV):Any (vExt i x):=by cases x<;>first | exact any_none | exact any_map _
theorem any_len (x:AV):Any (vLen x):=by cases x<;>first | exact any_none | exact any_some _
theorem any_slen (x:AV):Any (vSlen x):=by cases x<;>first | exact any_none | exact any_some _
theorem any_mx (x y:AV):Any (vMx x y):=by cases x<;>cases y<;>first | exact any_none | exact any_some _
theorem any_mn (x y:AV):Any (vMn x y):=by cases x<;>cases y<;>first | exact any_none | exact any_some _
section
variable {call:CS} {al:Nat→Bool} {lo id:Nat} {e:Env} {g:G} {v:AV} {g1:G}
theorem any_p {op:AOp} (hc:cls op = .p):Any (opE call al lo id op e):=by
 cases op
 case mv => exact any_some _
 case pick => exact any_pick _ _ _
 case boxI => exact any_boxI _
 case build => exact any_mapL _ _
 case bsl imm n z ps =>
  cases imm with
  | false => cases hc
  | true => exact any_bslI _ _ _
 case nilck => exact any_nil _
 case bin => exact any_map _
 case eqb => exact any_map _
 case eqn => exact any_map _
 case eqs => exact any_map _
 case eqa => exact any_map _
 case un => exact any_map _
 case conv => exact any_conv _ _
 case mkfn => exact any_some _
 case slice => exact any_slice _ _ _ _ _
 case sslice => exact any_sslice _ _ _
 case fa => exact any_fa _ _
 case fld => exact any_fld _ _ _
 case ia => exact any_ia _ _ _
 case iaa => exact any_iaa _ _ _ _
 case idx => exact any_idx _ _ _ _ _
 case sidx => exact any_sidx _ _
 case ext => exact any_ext _ _
 case len => exact any_len _
 case slen => exact any_slen _
 case mx => exact any_mx _ _
 case mn => exact any_mn _ _
 case call m f asx => cases m<;>cases hc
 case appM => exact (cls_appM_ne hc (by decide) (by decide)).elim
 all_goals cases hc
theorem foot_p {op:AOp} (hc:cls op = .p) (h:opE call al lo id op e g = some (v,g1)):Foot call al lo id op e g v g1:=by
 obtain ⟨rfl,hk⟩:=any_p hc g v g1 h
 exact foot_none fun g' _ => hk g'
theorem foot_r {op:AOp} (hc:cls op = .r) (h:opE call al lo id op e g = some (v,g1)):Foot call al lo id op e g v g1:=by
 have key:g1 = g∧∀ g':G,(∀ i,Rd (cls op) al lo g i→g'.hp i = g.hp i)→opE call al lo id op e g' = some (v,g'):=by
  rw[hc]
  cases op
  case ld agg x =>
   simp only[opE] at h ⊢
   unfold vLd at h ⊢
   split at h
   ·rename_i cs hx
    obtain ⟨rfl,hk⟩:=any_map _ _ _ _ h
    exact ⟨rfl,fun g' _ => hk g'⟩
   ·rename_i b off hx
    split at h
    ·rename_i cs ro hb
     obtain ⟨rfl,hk⟩:=any_map _ _ _ _ h
     exact ⟨rfl,fun g' hg' => by simp only[rd_cells hg' hb trivial];exact hk g'⟩
    ·cases h
   ·cases h
  case mget m k =>
   simp only[opE] at h ⊢
   unfold vMget at h ⊢
   split at h
   ·rename_i b s hx hy
    split at h
    ·rename_i es hb
     obtain ⟨rfl,hk⟩:=any_map _ _ _ _ h
     exact ⟨rfl,fun g' hg' => by simp only[rd_cells hg' hb trivial];exact hk g'⟩
    ·cases h
   ·cases h
  case call m f asx =>
   cases m with
   | pure =>
     simp only[opE] at h ⊢
     unfold vCall at h ⊢
     split at h
     ·rename_i fid fst caps hx
      simp only at h
      split at h
      ·cases h
      ·rename_i bs hbs
       split at h
       ·cases h
       ·rename_i v' g' hcr
        split at h
        ·cases h
        ·rename_i v2 hfz
         split at h
         ·rename_i hcond
          cases h
          refine ⟨rfl,fun g'' hg' => ?_⟩
          obtain ⟨h1,h2⟩:=frzL_agree (rd_agree hg') depth hbs
          simp only[h1,hcr,hfz,h2,hcond,if_true]
         ·cases h
     ·cases h
   | lock => cases hc
   | thaw => cases hc
   | melt => cases hc
   | raw => cases hc
   | see => cases hc
  case bsl imm n z ps => cases imm<;>cases hc
  case appM => exact (cls_appM_ne hc (by decide) (by decide)).elim
  all_goals cases hc
 obtain ⟨rfl,hk⟩:=key
 exact foot_none hk
theorem vSrcM_agree {esz:Nat} {y:AV} {g g':G} {r:List AV × Nat} (h:∀ i,(al i = true∧CM (g.hp i))→g'.hp i = g.hp i) (hs:vSrcM al esz y g = some r):vSrcM al esz y g' = some r:=by
 unfold vSrcM at hs ⊢
 cases y<;>simp only at hs ⊢<;>first | exact hs | (cases hs;done) | skip
 split at hs
 ·rename_i hb
  simp only[rd_cells h hb trivial]
  exact hs
 ·cases hs
theorem foot_a {op:AOp} (hc:cls op = .a) (h:opE call al lo id op e g = some (v,g1)):Foot call al lo id op e g v g1:=by
 have hw:Wr (cls op) al lo id g id:=by rw[hc];rfl
 cases op
 case new z =>
  simp only[opE] at h;cases h
  exact foot_new hw fun g' _ => rfl
 case box x =>
  simp only[opE] at h
  unfold vBox at h
  split at h
  ·rename_i hh
   cases h
   exact foot_new hw fun g' _ => by simp only[opE,vBox];rw[if_pos hh]
  ·cases h
 case bsl imm n z ps =>
  cases imm with
  | true => cases hc
  | false =>
    simp only[opE] at h
    unfold vBsl at h
    split at h
    ·cases h
    ·rename_i cs hf
     simp only[Bool.false_eq_true,if_false] at h
     cases h
     exact foot_new hw fun g' _ => by simp only[opE,vBsl,hf,Bool.false_eq_true,if_false]
 case mkmap =>
  simp only[opE] at h;cases h
  exact foot_new hw fun g' _ => rfl
 case mksl z esz b l cp =>
  simp only[opE] at h
  unfold vMksl at h
  split at h
  ·rename_i n m hx hy
   split at h
   ·rename_i h1
    split at h
    ·rename_i h2
     cases h
     exact foot_new hw fun g' _ => by simp only[opE,vMksl,hx,hy];rw[if_pos h1,if_pos h2]
    ·rename_i h2
     split at h
     ·rename_i h3
      cases h
      exact foot_new hw fun g' _ => by simp only[opE,vMksl,hx,hy];rw[if_pos h1,if_neg h2,if_pos h3]
     ·cases h
   ·cases h
  ·cases h
 case call m f asx =>
  cases m with
  | thaw =>
    simp only[opE] at h
    unfold vCall at h
    split at h
    ·rename_i fid fst caps hx
     simp only at h
     split at h
     ·cases h
     ·rename_i bs hbs
      split at h
      ·rename_i b g' hcr
       split at h
       ·rename_i cs hb
        split at h
        ·rename_i cs' hfz
         split at h
         ·rename_i hcond
          cases h
          refine foot_new hw fun g'' hg' => ?_
          rw[hc] at hg'
          obtain ⟨h1,h2⟩:=frzL_agree (rd_agree hg') depth hbs
          simp only[opE,vCall,hx,h1,hcr,hb,hfz,h2,hcond,if_true]
         ·cases h
        ·cases h
       ·cases h
      ·cases h
    ·cases h
  | melt =>
    simp only[opE] at h
    unfold vCall at h
    split at h
    ·rename_i fid fst caps hx
     simp only at h
     split at h
     ·cases h
     ·rename_i bs hbs
      split at h
      ·rename_i b n g' hcr
       split at h
       ·rename_i cs hb
        split at h
        ·rename_i cs' hfz
         split at h
         ·rename_i hcond
          cases h
          refine foot_new hw fun g'' hg' => ?_
          rw[hc] at hg'
          obtain ⟨h1,h2⟩:=frzL_agree (rd_agree hg') depth hbs
          simp only[opE,vCall,hx,h1,hcr,hb,hfz,h2,hcond,if_true]
         ·cases h
        ·cases h
       ·cases h
      ·cases h
    ·cases h
  | pure => cases hc
  | lock => cases hc
  | raw => cases hc
  | see => cases hc
 case appM esz b x y =>
  rcases cls_appM esz b x y with e' | ⟨_,rfl⟩
  ·rw[e'] at hc;cases hc
  ·simp only[opE,Opd.ev] at h
   unfold vAppM at h
   split at h
   ·cases h
   ·rename_i ds m hsrc
    simp only at h
    split at h
    ·rename_i hcond
     cases h
     refine foot_new hw fun g' hg' => ?_
     rw[hc] at hg'
     simp only[opE,Opd.ev,vAppM,vSrcM_agree hg' hsrc]
     rw[if_pos hcond]
    ·cases h
 all_goals cases hc
theorem vSrc_agree {esz:Nat} {y:AV} {g g':G} {r:List AV × Nat} (h:∀ i,(al i = true∧CM (g.hp i))→g'.hp i = g.hp i) (hs:vSrc al esz y g = some r):vSrc al esz y g' = some r:=by
 unfold vSrc at hs ⊢
 cases y<;>simp only at hs ⊢<;>first | exact hs | (cases hs;done) | skip
 split at hs
 ·rename_i hb
  simp only[rd_cells h hb trivial]
  exact hs
 ·cases hs
open Classical in
theorem foot_t {op:AOp} (hc:cls op = .t) (h:opE call al lo id op e g = some (v,g1)):Foot call al lo id op e g v g1:=by
 cases op
 case app esz b x y =>
  simp only[opE] at h
  unfold vApp at h
  split at h
  ·rename_i cs n tk hx
   split at h
   ·cases h
   ·rename_i ds m hsrc
    split at h
    ·rename_i hcond
     have hsrc':∀ g':G,(∀ i,Rd (cls (.app esz b x y)) al lo g i→g'.hp i = g.hp i)→vSrc al esz (y.ev e) g' = some (ds,m):=fun g' hg' => vSrc_agree (fun i hi => hg' i ⟨hi.1,.inl hi.2⟩) hsrc
     split at h
     ·cases h
     ·split at h
      ·rename_i hm
       cases h
       exact foot_none fun g' hg' => by simp only[opE,vApp,hx,hsrc' g' hg',if_pos hcond,if_pos hm]
      ·rename_i hm
       cases h
       exact foot_new (.inl rfl) fun g' hg' => by simp only[opE,vApp,hx,hsrc' g' hg',if_pos hcond,if_neg hm]
     ·rename_i τ e'
      split at h
      ·rename_i htk
       split at h
       ·rename_i he'
        cases h
        have hal:al τ = true:=by
         unfold rd at htk;split at htk
         ·assumption
         ·cases htk
        have hhp:=rd_g htk
        refine ⟨rfl,fun i hi h => ?_,fun i => i = id∨i = τ,fun i hi => ?_,fun i hi => ?_,fun g' hg' => ?_⟩
        ·have h:CM (upd (upd g.hp τ (some (.tok false))) id (some (.tok true)) i):=h
         rw[upd,if_neg hi] at h
         by_cases h2:i = τ
         ·subst h2;rw[upd,if_pos rfl] at h;exact h.elim
         ·rwa [upd,if_neg h2] at h
        ·rcases hi with rfl | rfl
         ·exact .inl rfl
         ·exact .inr ⟨hal,by rw[hhp];trivial⟩
        ·show upd _ _ _ _ = _
         rw[upd,if_neg (fun h => hi (.inl h)),upd,if_neg (fun h => hi (.inr h))]
        ·have hrd:rd g' al τ = some (.tok true):=by
          unfold rd;rw[if_pos hal,hg' τ ⟨hal,.inr (by rw[hhp];trivial)⟩,hhp]
         simp only[opE,vApp,hx,hsrc' g' hg',if_pos hcond,hrd,if_pos he']
         congr 3
         funext i
         by_cases h1:i = id
         ·subst h1;simp[upd]
         ·by_cases h2:i = τ
          ·subst h2;simp[upd,h1]
          ·simp[upd,h1,h2]
       ·cases h
      ·cases h
    ·cases h
  ·cases h
 case bsl imm n z ps => cases imm<;>cases hc
 case call m f asx => cases m<;>cases hc
 case appM => exact (cls_appM_ne hc (by decide) (by decide)).elim
 all_goals cases hc
open Classical in
theorem foot_s {op:AOp} (hc:cls op = .s) (h:opE call al lo id op e g = some (v,g1)):Foot call al lo id op e g v g1:=by
 cases op
 case stL n x y =>
  simp only[opE] at h
  unfold vSt at h
  split at h
  ·rename_i b off hx
   split at h
   ·rename_i cs hb
    split at h
    ·rename_i hcond
     cases h
     have hal:lo≤b∧al b = true:=by
      unfold rd at hb;split at hb
      ·rename_i hh;simpa using hh
      ·cases hb
     have hhp:=rd_g hb
     refine ⟨rfl,fun i hi h => ?_,fun i => i = b,fun i hi => ?_,fun i hi => ?_,fun g' hg' => ?_⟩
     ·by_cases h2:i = b
      ·subst h2;rw[hhp];trivial
      ·have h:CM (upd g.hp b _ i):=h
       rwa [upd,if_neg h2] at h
     ·subst hi;exact ⟨hal.1,hal.2,by rw[hhp];trivial⟩
     ·show upd _ _ _ _ = _
      rw[upd,if_neg hi]
     ·have hrd:rd g' (fun i => decide (lo≤i) && al i) b = some (.cells cs false):=by
       unfold rd;rw[if_pos (by simp[hal.1,hal.2]),hg' b ⟨hal.1,hal.2,by rw[hhp];trivial⟩,hhp]
      simp only[opE,vSt,hx,hrd,if_pos hcond]
      congr 3
      funext i
      by_cases h1:i = b
      ·subst h1;simp[upd]
      ·simp[upd,h1]
    ·cases h
   ·cases h
  ·cases h
 case bsl imm n z ps => cases imm<;>cases hc
 case call m f asx => cases m<;>cases hc
 case appM => exact (cls_appM_ne hc (by decide) (by decide)).elim
 all_goals cases hc
theorem foot_all {op:AOp} (hc:cls op≠.x) (h:opE call al lo id op e g = some (v,g1)):Foot call al lo id op e g v g1:=by
 cases hcl:cls op with
 | p => exact foot_p hcl h
 | r => exact foot_r hcl h
 | a => exact foot_a hcl h
 | t => exact foot_t hcl h
 | s => exact foot_s hcl h
 | x => exact absurd hcl hc
end
end Go.Ab
end
section
set_option linter.unusedVariables false
set_option linter.unusedSimpArgs false
namespace Go.Ab
open Go.RowKit
def gnames:Option (Nat × Bool)→List Nat
 | none => []
 | some (t,_) => [t]
def AOper.looks (o:AOper):List Nat:=gnames o.grd ++ o.op.names
def dnot (d:Option Nat) (l:List Nat):Bool:=match d with
 | none => true
 | some d => !l.contains d
def ddif (d d':Option Nat):Bool:=match d,d' with
 | some a,some b => a != b
 | _,_ => true
def clsOk0 (k i:Nat) (x y:AOper):Bool:=
 cls x.op == .p || cls y.op == .p || (cls x.op != .x && cls y.op != .x &&
  (!y.pre.contains k && !x.pre.contains i && (!(cls x.op == .s || cls y.op == .s) || x.pre.all (fun p => !y.pre.contains p)) && !(cls x.op == .t && cls y.op == .t)))
def fOp:AOp→Bool
 | .ldF _ _ => true
 | _ => false
def wOp:AOp→Bool
 | .stW _ _ _ => true
 | _ => false
def fwOk (x y:AOp):Bool:=(fOp x && fOp y) || (fOp x && wOp y) || (wOp x && fOp y)
def qnOk (x y:AOp):Bool:=match x,y with
 | .ldQ _ _ _,.ldQ _ _ _ => true
 | .ldQ _ _ t,.stN _ _ _ ts => ts.contains t
 | .stN _ _ _ ts,.ldQ _ _ t => ts.contains t
 | _,_ => false
def seeOk (x y:AOp):Bool:=match x,y with
 | .ld _ _,.call .see _ _ => true
 | _,_ => false
def clsOk (k i:Nat) (x y:AOper):Bool:=seeOk x.op y.op || (qnOk x.op y.op || (fwOk x.op y.op || clsOk0 k i x y))
def swapB (k i:Nat) (x y:AOper):Bool:=
 dnot x.dst y.looks && dnot y.dst x.looks && ddif x.dst y.dst && clsOk k i x y
theorem put_not {d:Option Nat} {l:List Nat} (h:dnot d l = true) (e:Env) (v:AV):∀ t∈l,put e d v t = e t:=by
 intro t ht
 cases d with
 | none => rfl
 | some d =>
   simp only[dnot,Bool.not_eq_true',List.contains_eq_mem,decide_eq_false_iff_not] at h
   have:t≠d:=fun h' => h (h' ▸ ht)
   simp only[put,upd,if_neg this]
theorem put_comm {d d':Option Nat} (h:ddif d d' = true) (e:Env) (v u:AV):put (put e d v) d' u = put (put e d' u) d v:=by
 cases d with
 | none => cases d'<;>rfl
 | some d =>
   cases d' with
   | none => rfl
   | some d' =>
     simp only[ddif,bne_iff_ne,ne_eq] at h
     funext t
     simp only[put,upd]
     by_cases h1:t = d'
     ·subst h1;rw[if_pos rfl,if_neg (fun h2 => h h2.symm),if_pos rfl]
     ·rw[if_neg h1]
      by_cases h2:t = d
      ·rw[if_pos h2,if_pos h2]
      ·rw[if_neg h2,if_neg h2,if_neg h1]
theorem wanted_congr {e e':Env} {grd:Option (Nat × Bool)} (h:∀ t∈gnames grd,e' t = e t):wanted e' grd = wanted e grd:=by
 cases grd with
 | none => rfl
 | some p => obtain ⟨t,w⟩:=p;simp only[wanted];rw[h t (by simp[gnames])]
noncomputable def stepV (call:CS) (base j:Nat) (o:AOper) (e:Env) (g:G):Option (AV × G):=
 if wanted e o.grd then opE call (allow true base o.pre) base (base + j) o.op e g else some (.undef,g)
theorem opStep_V (call:CS) (base j:Nat) (o:AOper) (e:Env) (g:G):opStep call true base j o e g = (stepV call base j o e g).map fun r => (put e o.dst r.1,r.2):=by
 unfold opStep stepV
 by_cases h:wanted e o.grd = true
 ·rw[if_pos h,if_pos h]
  cases opE call (allow true base o.pre) base (base + j) o.op e g with
  | none => rfl
  | some r => rfl
 ·rw[if_neg h,if_neg h];rfl
theorem stepV_congr {call:CS} {base j:Nat} {o:AOper} {e e':Env} (h:∀ t∈o.looks,e' t = e t) (g:G):stepV call base j o e' g = stepV call base j o e g:=by
 unfold stepV
 rw[wanted_congr fun t ht => h t (List.mem_append_left _ ht),opE_congr fun t ht => h t (List.mem_append_right _ ht)]
theorem allow_slot {base k:Nat} {pre:List Nat} (h:allow true base pre (base + k) = true):pre.contains k = true:=by
 simp only[allow,Bool.not_true,Bool.false_or,Bool.or_eq_true,decide_eq_true_eq] at h
 rcases h with h | h
 ·omega
 ·simpa using h
theorem allow_ge {base k:Nat} {pre:List Nat} (h:allow true base pre k = true) (hk:base≤k):pre.contains (k - base) = true:=by
 simp only[allow,Bool.not_true,Bool.false_or,Bool.or_eq_true,decide_eq_true_eq] at h
 rcases h with h | h
 ·omega
 ·exact h
theorem Foot.out {call:CS} {al:Nat→Bool} {lo id:Nat} {op:AOp} {e:Env} {g:G} {v:AV} {g1:G} (F:Foot call al lo id op e g v g1) {i:Nat} (h:¬ Wr (cls op) al lo id g i):g1.hp i = g.hp i:=by
 obtain ⟨_,_,W,h1,h2,_⟩:=F
 exact h2 i fun hw => h (h1 i hw)
open Classical in
theorem opE_swap0 {call:CS} {base k i:Nat} (hki:k≠i) {x y:AOper} (hc:clsOk0 k i x y = true) {e:Env} {g g1 g2:G} {v u:AV}
  (h1:opE call (allow true base x.pre) base (base + k) x.op e g = some (v,g1)) (h2:opE call (allow true base y.pre) base (base + i) y.op e g1 = some (u,g2)):
  ∃ g1',opE call (allow true base y.pre) base (base + i) y.op e g = some (u,g1')∧opE call (allow true base x.pre) base (base + k) x.op e g1' = some (v,g2):=by
 by_cases hx:cls x.op = .p
 ·obtain ⟨rfl,hh⟩:=any_p hx _ _ _ h1
  exact ⟨g2,h2,hh g2⟩
 by_cases hy:cls y.op = .p
 ·obtain ⟨rfl,hh⟩:=any_p hy _ _ _ h2
  exact ⟨g,hh g,h1⟩
 simp only[clsOk0,Bool.or_eq_true,beq_iff_eq,hx,hy,false_or,Bool.and_eq_true,bne_iff_ne,ne_eq,Bool.not_eq_true'] at hc
 obtain ⟨⟨cx,cy⟩,⟨⟨pk,pi⟩,ps⟩,ptt⟩:=hc
 have ak:allow true base y.pre (base + k)≠true:=fun h => by rw[allow_slot h] at pk;cases pk
 have ai:allow true base x.pre (base + i)≠true:=fun h => by rw[allow_slot h] at pi;cases pi
 have pp:(cls x.op = .s∨cls y.op = .s)→∀ m,base≤m→allow true base x.pre m = true→allow true base y.pre m = true→False:=by
  intro hs m hm h3 h4
  rcases ps with ps | ps
  ·simp only[Bool.or_eq_false_iff,beq_eq_false_iff_ne,ne_eq] at ps
   rcases hs with hs | hs
   ·exact ps.1 hs
   ·exact ps.2 hs
  ·have h3:=allow_ge h3 hm
   have h4:=allow_ge h4 hm
   have:=List.all_eq_true.1 ps (m - base) (by simpa using h3)
   rw[h4] at this;cases this
 have tt:¬ (cls x.op = .t∧cls y.op = .t):=by simpa [Bool.and_eq_false_iff] using ptt
 have F:=foot_all cx h1
 have F':=foot_all cy h2
 have out1:∀ m,¬ Wr (cls x.op) (allow true base x.pre) base (base + k) g m→g1.hp m = g.hp m:=fun m hm => F.out hm
 -- what y looks at,x has not turned
 have A:∀ m,Rd (cls y.op) (allow true base y.pre) base g1 m→¬ Wr (cls x.op) (allow true base x.pre) base (base + k) g m:=by
  intro m hr hw
  have hal:allow true base y.pre m = true:=by
   cases hcy:cls y.op<;>rw[hcy] at hr<;>simp only[Rd] at hr
   ·exact hr.1
   ·exact hr.1
   ·exact hr.1
   ·exact hr.2.1
   ·exact absurd hcy cy
  have hne:m≠base + k:=fun h => ak (h ▸ hal)
  cases hcx:cls x.op with
  | p => exact hx hcx
  | r => rw[hcx] at hw;exact hw
  | a => rw[hcx] at hw;exact hne hw
  | t =>
    rw[hcx] at hw
    rcases hw with hw | hw
    ·exact hne hw
    ·have hcm:CM (g1.hp m):=by
      cases hcy:cls y.op<;>rw[hcy] at hr<;>simp only[Rd] at hr
      ·exact hr.2
      ·exact hr.2
      ·exact absurd ⟨hcx,hcy⟩ tt
      ·exact hr.2.2
      ·exact absurd hcy cy
     have:=F.kind m hne hcm
     have h3:=hw.2
     cases hh:g.hp m with
     | none => rw[hh] at h3;exact h3
     | some b => rw[hh] at h3 this;cases b<;>first | exact h3 | exact this
  | s =>
    rw[hcx] at hw
    exact pp (.inl hcx) m hw.1 hw.2.1 hal
  | x => exact cx hcx
 have B:∀ m,Wr (cls y.op) (allow true base y.pre) base (base + i) g1 m→¬ Wr (cls x.op) (allow true base x.pre) base (base + k) g m:=by
  intro m hr hw
  have hor:m = base + i∨Rd (cls y.op) (allow true base y.pre) base g1 m:=by
   cases hcy:cls y.op<;>rw[hcy] at hr<;>simp only[Wr] at hr
   ·exact .inl hr
   ·rcases hr with hr | hr
    ·exact .inl hr
    ·exact .inr ⟨hr.1,.inr hr.2⟩
   ·exact .inr hr
   ·exact absurd hcy cy
  rcases hor with rfl | hr
  ·cases hcx:cls x.op with
   | p => exact hx hcx
   | r => rw[hcx] at hw;exact hw
   | a => rw[hcx] at hw;simp only[Wr] at hw;omega
   | t =>
     rw[hcx] at hw
     rcases hw with hw | hw
     ·omega
     ·exact ai hw.1
   | s => rw[hcx] at hw;exact ai hw.2.1
   | x => exact cx hcx
  ·exact A m hr hw
 have C:∀ m,Rd (cls x.op) (allow true base x.pre) base g m→¬ Wr (cls y.op) (allow true base y.pre) base (base + i) g1 m:=by
  intro m hr hw
  have hal:allow true base x.pre m = true:=by
   cases hcx:cls x.op<;>rw[hcx] at hr<;>simp only[Rd] at hr
   ·exact hr.1
   ·exact hr.1
   ·exact hr.1
   ·exact hr.2.1
   ·exact absurd hcx cx
  have hne:m≠base + i:=fun h => ai (h ▸ hal)
  have hold:g1.hp m = g.hp m:=out1 m (B m hw)
  cases hcy:cls y.op with
  | p => exact hy hcy
  | r => rw[hcy] at hw;exact hw
  | a => rw[hcy] at hw;exact hne hw
  | t =>
    rw[hcy] at hw
    rcases hw with hw | hw
    ·exact hne hw
    ·have h3:=hw.2
     rw[hold] at h3
     have hcm:CM (g.hp m):=by
      cases hcx:cls x.op<;>rw[hcx] at hr<;>simp only[Rd] at hr
      ·exact hr.2
      ·exact hr.2
      ·exact absurd ⟨hcx,hcy⟩ tt
      ·exact hr.2.2
      ·exact absurd hcx cx
     cases hh:g.hp m with
     | none => rw[hh] at h3;exact h3
     | some b => rw[hh] at h3 hcm;cases b<;>first | exact h3 | exact hcm
  | s =>
    rw[hcy] at hw
    exact pp (.inr hcy) m hw.1 hal hw.2.1
  | x => exact cy hcy
 obtain ⟨n1,_,W,w1,w2,w3⟩:=F
 obtain ⟨n2,_,W',w1',w2',w3'⟩:=F'
 have hAg:∀ m,Rd (cls y.op) (allow true base y.pre) base g1 m→g.hp m = g1.hp m:=fun m hm => (out1 m (A m hm)).symm
 refine ⟨_,w3' g hAg,?_⟩
 rw[w3 _ (fun m hm => ?_)]
 ·congr 2
  have:g2 = ⟨g2.hp,g2.nx⟩:=rfl
  rw[this]
  congr 1
  ·funext m
   show (if W m then g1.hp m else if W' m then g2.hp m else g.hp m) = g2.hp m
   by_cases hm:W m
   ·rw[if_pos hm]
    exact (w2' m (fun h' => B m (w1' m h') (w1 m hm))).symm
   ·rw[if_neg hm]
    by_cases hm':W' m
    ·rw[if_pos hm']
    ·rw[if_neg hm',w2' m hm',w2 m hm]
  ·show g.nx = g2.nx
   rw[n2,n1]
 ·show (if W' m then g2.hp m else g.hp m) = g.hp m
  rw[if_neg (fun h' => C m hm (w1' m h'))]
theorem ldF_any {call:CS} {al:Nat→Bool} {lo id:Nat} {op:AOp} (ho:fOp op = true) {e:Env} {g g1:G} {v:AV} (h:opE call al lo id op e g = some (v,g1)):
  g1 = g∧∀ g':G,(∀ i cs,g.hp i = some (.cells cs true)→g'.hp i = g.hp i)→opE call al lo id op e g' = some (v,g'):=by
 cases op<;>first | (cases ho;done) | skip
 rename_i agg x
 simp only[opE] at h ⊢
 unfold vLdF at h ⊢
 split at h
 ·obtain ⟨rfl,hk⟩:=any_map _ _ _ _ h
  exact ⟨rfl,fun g' _ => hk g'⟩
 ·rename_i b off hx
  split at h
  ·rename_i cs hb
   obtain ⟨rfl,hk⟩:=any_map _ _ _ _ h
   refine ⟨rfl,fun g' hg' => ?_⟩
   have hrd:rd g' al b = some (.cells cs true):=by
    unfold rd at hb ⊢
    split at hb
    ·rename_i ha
     rw[if_pos ha,hg' b cs hb];exact hb
    ·cases hb
   simp only[hrd]
   exact hk g'
  ·cases h
 ·cases h
theorem stW_keeps {call:CS} {al:Nat→Bool} {lo id:Nat} {op:AOp} (ho:wOp op = true) {e:Env} {g g1:G} {v:AV} (h:opE call al lo id op e g = some (v,g1)):
  (∀ i cs,g.hp i = some (.cells cs true)→g1.hp i = g.hp i)∧(∀ i cs,g1.hp i = some (.cells cs true)→g.hp i = g1.hp i):=by
 cases op<;>first | (cases ho;done) | skip
 rename_i n a x
 simp only[opE] at h
 unfold vSt at h
 split at h
 ·rename_i b off hx
  split at h
  ·rename_i cs hb
   split at h
   ·cases h
    have hhp:g.hp b = some (.cells cs false):=by
     unfold rd at hb
     split at hb
     ·exact hb
     ·cases hb
    refine ⟨fun i ds hi => ?_,fun i ds hi => ?_⟩
    ·have hne:i≠b:=fun h => by subst h;rw[hhp] at hi;cases hi
     show upd _ _ _ _ = _
     rw[upd,if_neg hne]
    ·have hne:i≠b:=fun h => by
      subst h
      have hi:upd g.hp i _ i = _:=hi
      rw[upd,if_pos rfl] at hi
      cases hi
     show _ = upd _ _ _ _
     rw[upd,if_neg hne]
   ·cases h
  ·cases h
 ·cases h
theorem ldQ_any {call:CS} {al:Nat→Bool} {lo id:Nat} {agg:Option Nat} {x:Opd} {t:Nat} {e:Env} {g g1:G} {v:AV} (h:opE call al lo id (.ldQ agg x t) e g = some (v,g1)):
  g1 = g∧∀ g':G,(∀ i,i∈ids1 (e t)→g'.hp i = g.hp i)→opE call al lo id (.ldQ agg x t) e g' = some (v,g'):=by
 simp only[opE] at h ⊢
 unfold vLdQ at h ⊢
 split at h
 ·rename_i b off hx
  split at h
  ·rename_i hb0
   split at h
   ·rename_i cs ro hb
    obtain ⟨rfl,hk⟩:=any_map _ _ _ _ h
    refine ⟨rfl,fun g' hg' => ?_⟩
    have hrd:rd g' al b = some (.cells cs ro):=by
     unfold rd at hb ⊢
     split at hb
     ·rename_i ha
      rw[if_pos ha,hg' b (by simpa using hb0)];exact hb
     ·cases hb
    rw[if_pos hb0]
    simp only[hrd]
    exact hk g'
   ·cases h
  ·cases h
 ·cases h
theorem stN_keeps {call:CS} {al:Nat→Bool} {lo id:Nat} {n:Nat} {a x:Opd} {ts:List Nat} {e:Env} {g g1:G} {v:AV} (h:opE call al lo id (.stN n a x ts) e g = some (v,g1)) {t:Nat} (ht:t∈ts) {i:Nat} (hi:i∈ids1 (e t)):g1.hp i = g.hp i:=by
 simp only[opE] at h
 unfold vStN at h
 split at h
 ·rename_i hall
  unfold vSt at h
  split at h
  ·rename_i b off hx
   split at h
   ·split at h
    ·cases h
     have hne:i≠b:=by
      intro hib
      subst hib
      rw[hx] at hall
      have h1:=List.all_eq_true.1 hall i (by simp[ids1])
      have h2:i∈(ts.map e).flatMap ids1:=List.mem_flatMap.2 ⟨e t,List.mem_map.2 ⟨t,ht,rfl⟩,hi⟩
      have h3:((ts.map e).flatMap ids1).contains i = true:=by simpa using h2
      rw[h3] at h1
      cases h1
     show upd _ _ _ _ = _
     rw[upd,if_neg hne]
    ·cases h
   ·cases h
  ·cases h
 ·cases h
theorem opE_swapQ {call:CS} {base k i:Nat} {x y:AOper} (hc:qnOk x.op y.op = true) {e:Env} {g g1 g2:G} {v u:AV}
  (h1:opE call (allow true base x.pre) base (base + k) x.op e g = some (v,g1)) (h2:opE call (allow true base y.pre) base (base + i) y.op e g1 = some (u,g2)):
  ∃ g1',opE call (allow true base y.pre) base (base + i) y.op e g = some (u,g1')∧opE call (allow true base x.pre) base (base + k) x.op e g1' = some (v,g2):=by
 unfold qnOk at hc
 split at hc
 ·rename_i hx hy
  rw[hx] at h1 ⊢
  rw[hy] at h2 ⊢
  obtain ⟨rfl,_⟩:=ldQ_any h1
  obtain ⟨rfl,_⟩:=ldQ_any h2
  exact ⟨g2,h2,h1⟩
 ·rename_i hx hy
  rw[hx] at h1 ⊢
  rw[hy] at h2 ⊢
  obtain ⟨rfl,k1⟩:=ldQ_any h1
  exact ⟨g2,h2,k1 g2 fun j hj => stN_keeps h2 (by simpa using hc) hj⟩
 ·rename_i hx hy
  rw[hx] at h1 ⊢
  rw[hy] at h2 ⊢
  obtain ⟨rfl,k2⟩:=ldQ_any h2
  exact ⟨g,k2 g fun j hj => (stN_keeps h1 (by simpa using hc) hj).symm,h1⟩
 ·cases hc
theorem ld_any {call:CS} {al:Nat→Bool} {lo id:Nat} {agg:Option Nat} {x:Opd} {e:Env} {g g1:G} {v:AV} (h:opE call al lo id (.ld agg x) e g = some (v,g1)):
  g1 = g∧∀ g':G,(∀ i b,g.hp i = some b→g'.hp i = some b)→opE call al lo id (.ld agg x) e g' = some (v,g'):=by
 have F:=foot_all (fun h => by cases h) h
 obtain ⟨hnx,_,W,h1,h2,h3⟩:=F
 have hW:∀ i,¬ W i:=fun i hi => h1 i hi
 have hg:g1 = g:=by
  obtain ⟨hp,nx⟩:=g
  obtain ⟨hp1,nx1⟩:=g1
  simp only at hnx h2
  subst hnx
  congr 1
  funext i
  exact h2 i (hW i)
 refine ⟨hg,fun g' hk => ?_⟩
 rw[h3 g' fun i hi => by
  have hc:CM (g.hp i):=hi.2
  cases hb:g.hp i with
  | none => rw[hb] at hc;exact hc.elim
  | some b => exact hk i b hb]
 congr 2
 obtain ⟨hp',nx'⟩:=g'
 congr 1
 funext i
 exact if_neg (hW i)
theorem opE_swapS {call:CS} {base k i:Nat} {x y:AOper} (hc:seeOk x.op y.op = true) {e:Env} {g g1 g2:G} {v u:AV}
  (h1:opE call (allow true base x.pre) base (base + k) x.op e g = some (v,g1)) (h2:opE call (allow true base y.pre) base (base + i) y.op e g1 = some (u,g2)):
  ∃ g1',opE call (allow true base y.pre) base (base + i) y.op e g = some (u,g1')∧opE call (allow true base x.pre) base (base + k) x.op e g1' = some (v,g2):=by
 unfold seeOk at hc
 split at hc
 ·rename_i hx hy
  rw[hx] at h1 ⊢
  rw[hy] at h2 ⊢
  obtain ⟨rfl,k1⟩:=ld_any h1
  refine ⟨g2,h2,k1 g2 ?_⟩
  simp only[opE,vCall] at h2
  split at h2
  ·obtain ⟨g',hce,h3,hkp⟩:=seeR_inv h2
   simp only at h3
   rw[h3]
   exact hkp
  ·cases h2
 ·cases hc
theorem opE_swap {call:CS} {base k i:Nat} (hki:k≠i) {x y:AOper} (hc:clsOk k i x y = true) {e:Env} {g g1 g2:G} {v u:AV}
  (h1:opE call (allow true base x.pre) base (base + k) x.op e g = some (v,g1)) (h2:opE call (allow true base y.pre) base (base + i) y.op e g1 = some (u,g2)):
  ∃ g1',opE call (allow true base y.pre) base (base + i) y.op e g = some (u,g1')∧opE call (allow true base x.pre) base (base + k) x.op e g1' = some (v,g2):=by
 unfold clsOk at hc
 rw[Bool.or_eq_true,Bool.or_eq_true,Bool.or_eq_true] at hc
 rcases hc with hc | hc | hc | hc
 ·exact opE_swapS hc h1 h2
 ·exact opE_swapQ hc h1 h2
 ·unfold fwOk at hc
  simp only[Bool.or_eq_true,Bool.and_eq_true] at hc
  rcases hc with (⟨hx,hy⟩ | ⟨hx,hy⟩) | ⟨hx,hy⟩
  ·obtain ⟨rfl,k1⟩:=ldF_any hx h1
   obtain ⟨rfl,k2⟩:=ldF_any hy h2
   exact ⟨g2,h2,h1⟩
  ·obtain ⟨rfl,k1⟩:=ldF_any hx h1
   exact ⟨g2,h2,k1 g2 (stW_keeps hy h2).1⟩
  ·obtain ⟨rfl,k2⟩:=ldF_any hy h2
   exact ⟨g,k2 g (stW_keeps hx h1).2,h1⟩
 ·exact opE_swap0 hki hc h1 h2
theorem stepV_swap {call:CS} {base k i:Nat} (hki:k≠i) {x y:AOper} (hc:clsOk k i x y = true) {e:Env} {g g1 g2:G} {v u:AV}
  (h1:stepV call base k x e g = some (v,g1)) (h2:stepV call base i y e g1 = some (u,g2)):∃ g1',stepV call base i y e g = some (u,g1')∧stepV call base k x e g1' = some (v,g2):=by
 unfold stepV at *
 by_cases hx:wanted e x.grd = true
 ·rw[if_pos hx] at h1
  by_cases hy:wanted e y.grd = true
  ·rw[if_pos hy] at h2
   obtain ⟨g1',h3,h4⟩:=opE_swap hki hc h1 h2
   exact ⟨g1',by rw[if_pos hy];exact h3,by rw[if_pos hx];exact h4⟩
  ·rw[if_neg hy] at h2
   cases h2
   exact ⟨g,by rw[if_neg hy],by rw[if_pos hx];exact h1⟩
 ·rw[if_neg hx] at h1
  cases h1
  exact ⟨g2,h2,by rw[if_neg hx]⟩
theorem opStep_swap {call:CS} {base k i:Nat} (hki:k≠i) {x y:AOper} (hc:swapB k i x y = true) {e e1 e2:Env} {g g1 g2:G}
  (h1:opStep call true base k x e g = some (e1,g1)) (h2:opStep call true base i y e1 g1 = some (e2,g2)):
  ∃ e1' g1',opStep call true base i y e g = some (e1',g1')∧opStep call true base k x e1' g1' = some (e2,g2):=by
 simp only[swapB,Bool.and_eq_true] at hc
 obtain ⟨⟨⟨d1,d2⟩,d3⟩,d4⟩:=hc
 rw[opStep_V] at h1 h2
 cases hv:stepV call base k x e g with
 | none => rw[hv] at h1;cases h1
 | some r =>
   obtain ⟨v,g1⟩:=r
   rw[hv] at h1
   cases h1
   rw[stepV_congr (put_not d1 e v)] at h2
   cases hu:stepV call base i y e g1 with
   | none => rw[hu] at h2;cases h2
   | some r =>
     obtain ⟨u,g2⟩:=r
     rw[hu] at h2
     cases h2
     obtain ⟨g1',h3,h4⟩:=stepV_swap hki d4 hv hu
     refine ⟨put e y.dst u,g1',by rw[opStep_V,h3];rfl,?_⟩
     rw[opStep_V,stepV_congr (put_not d2 e u),h4]
     show some _ = some _
     rw[put_comm d3]
noncomputable def runL (call:CS) (base:Nat) (aos:List AOper):List Nat→Env→G→Option (Env × G)
 | [],e,g => some (e,g)
 | i :: is,e,g => match aos[i]? with
   | some o => match opStep call true base i o e g with
     | some (e',g') => runL call base aos is e' g'
     | none => none
   | none => none
theorem runL_text (call:CS) (base:Nat) (aos:List AOper):∀ (os:List AOper) (j:Nat) (e:Env) (g:G),(∀ i o,os[i]? = some o→aos[j + i]? = some o)→runL call base aos (List.range' j os.length) e g = regE call true base j os e g
 | [],j,e,g,_ => rfl
 | o :: os,j,e,g,h => by
   rw[regE_step,List.length_cons,List.range'_succ]
   have h0:aos[j]? = some o:=by simpa using h 0 o rfl
   simp only[runL,h0]
   cases opStep call true base j o e g with
   | none => rfl
   | some r =>
     obtain ⟨e',g'⟩:=r
     exact runL_text call base aos os (j + 1) e' g' (fun i o' hi => by have:=h (i + 1) o' (by simpa using hi);rwa [show j + (i + 1) = j + 1 + i by omega] at this)
theorem runL_front {call:CS} {base:Nat} {aos:List AOper} {i:Nat} {y:AOper} (hy:aos[i]? = some y):∀ (pre post:List Nat) (e e':Env) (g g':G),(∀ k∈pre,k≠i∧∀ x,aos[k]? = some x→swapB k i x y = true) →
  runL call base aos (pre ++ i :: post) e g = some (e',g')→runL call base aos (i :: (pre ++ post)) e g = some (e',g')
 | [],post,e,e',g,g',_,h => h
 | k :: pre,post,e,e',g,g',hp,h => by
   rw[List.cons_append] at h
   simp only[runL] at h
   split at h
   ·rename_i x hx
    split at h
    ·rename_i e1 g1 hst
     have:=runL_front hy pre post e1 e' g1 g' (fun m hm => hp m (List.mem_cons_of_mem _ hm)) h
     simp only[runL,hy] at this
     split at this
     ·rename_i e2 g2 hst2
      obtain ⟨hne,hsw⟩:=hp k (List.mem_cons_self ..)
      obtain ⟨e1',g1',h3,h4⟩:=opStep_swap hne (hsw x hx) hst hst2
      simp only[runL,hy,h3,List.cons_append,hx,h4]
      exact this
     ·cases this
    ·cases h
   ·cases h
def cloAt (es:Array Edge) (clo:List Nat):Nat:=
 es.foldl (fun b e => if Region.binds .any e then b ||| (1 <<< e.on) ||| (clo.getD e.on 0) else b) 0
def clos:List Oper→List Nat→List Nat
 | [],clo => clo
 | o :: os,clo => clos os (clo ++ [cloAt o.after clo])
def edgesB:Nat→List Oper→Bool
 | _,[] => true
 | j,o :: os => o.after.all (fun e => !Region.binds .any e || decide (e.on < j)) && edgesB (j + 1) os
def pairsB (clo:Nat) (i:Nat) (y:AOper):Nat→List AOper→Bool
 | _,[] => true
 | k,x :: xs => (clo.testBit k || swapB k i x y) && pairsB clo i y (k + 1) xs
def drawB (aos:List AOper):Nat→List AOper→List Nat→Bool
 | _,[],_ => true
 | i,y :: ys,clo :: cs => pairsB clo i y 0 (aos.take i) && drawB aos (i + 1) ys cs
 | _,_ :: _,[] => false
end Go.Ab
end
section
set_option linter.unusedVariables false
set_option linter.unusedSimpArgs false
set_option linter.unnecessarySimpa false
namespace Go.Ab
open Go.RowKit
theorem testBit_fold (es:List Edge) (clo:List Nat) (k:Nat):∀ b:Nat,(es.foldl (fun b e => if Region.binds .any e then b ||| (1 <<< e.on) ||| (clo.getD e.on 0) else b) b).testBit k = true →
  b.testBit k = true∨∃ e∈es,Region.binds .any e = true∧(k = e.on∨(clo.getD e.on 0).testBit k = true):=by
 induction es with
 | nil => intro b h;exact .inl h
 | cons e es ih =>
   intro b h
   rw[List.foldl_cons] at h
   rcases ih _ h with h1 | ⟨e',he',h2⟩
   ·by_cases hb:Region.binds .any e = true
    ·rw[if_pos hb] at h1
     simp only[Nat.testBit_or,Bool.or_eq_true] at h1
     rcases h1 with (h1 | h1) | h1
     ·exact .inl h1
     ·refine .inr ⟨e,List.mem_cons_self ..,hb,.inl ?_⟩
      rw[Nat.testBit_shiftLeft] at h1
      simp only[Bool.and_eq_true,decide_eq_true_eq] at h1
      have h2:Nat.testBit 1 (k - e.on) = true:=h1.2
      have h3:k - e.on = 0:=by
       cases hz:k - e.on with
       | zero => rfl
       | succ z => rw[hz] at h2;simp[Nat.testBit_succ] at h2
      omega
     ·exact .inr ⟨e,List.mem_cons_self ..,hb,.inr h1⟩
    ·rw[if_neg hb] at h1
     exact .inl h1
   ·exact .inr ⟨e',List.mem_cons_of_mem _ he',h2⟩
def cloB (clo:List Nat):List Oper→List Nat→Bool
 | [],[] => true
 | o :: os,c :: cs => (cloAt o.after clo == c) && cloB clo os cs
 | _,_ => false
theorem cloB_get {clo:List Nat}:∀ {os:List Oper} {cs:List Nat},cloB clo os cs = true→os.length = cs.length∧∀ (i:Nat) o,os[i]? = some o→cs[i]? = some (cloAt o.after clo)
 | [],[],_ => ⟨rfl,fun _ _ h => by simp at h⟩
 | [],_ :: _,h => by simp[cloB] at h
 | _ :: _,[],h => by simp[cloB] at h
 | o :: os,c :: cs,h => by
   simp only[cloB,Bool.and_eq_true,beq_iff_eq] at h
   obtain ⟨h1,h2⟩:=cloB_get h.2
   refine ⟨by simp[h1],fun i o' hi => ?_⟩
   cases i with
   | zero => simp at hi;subst hi;simp[h.1]
   | succ i => simp at hi ⊢;exact h2 i o' hi
theorem edgesB_get:∀ {os:List Oper} {j:Nat},edgesB j os = true→∀ (i:Nat) o,os[i]? = some o→∀ e∈o.after,Region.binds .any e = true→e.on < j + i
 | [],_,_,_,_,h => by simp at h
 | o :: os,j,h,i,o',hi => by
   simp only[edgesB,Bool.and_eq_true] at h
   cases i with
   | zero =>
     simp at hi;subst hi
     intro e he hb
     have:=Array.all_eq_true_iff_forall_mem.1 h.1 e he
     rw[hb] at this
     simpa using this
   | succ i =>
     simp at hi
     intro e he hb
     have:=edgesB_get h.2 i o' hi e he hb
     omega
def Closed (ops:List Oper) (L:Nat→Bool):Prop:=∀ (i:Nat) o,ops[i]? = some o→L i = true→∀ e∈o.after,Region.binds .any e = true→L e.on = true
theorem clo_sound {ops:List Oper} {clo:List Nat} (hc:cloB clo ops clo = true) (he:edgesB 0 ops = true) {L:Nat→Bool} (hL:Closed ops L):∀ (i:Nat) (o:Oper),ops[i]? = some o→(∀ e∈o.after,Region.binds .any e = true→L e.on = true)→∀ k,(clo.getD i 0).testBit k = true→L k = true:=by
 intro i
 induction i using Nat.strongRecOn with
 | _ i ih =>
   intro o ho hp k hk
   obtain ⟨hl,hg⟩:=cloB_get hc
   have h1:clo.getD i 0 = cloAt o.after clo:=by rw[List.getD_eq_getElem?_getD,hg i o ho];rfl
   rw[h1] at hk
   unfold cloAt at hk
   rw[←Array.foldl_toList] at hk
   rcases testBit_fold _ _ _ _ hk with h2 | ⟨e,hm,hb,h2⟩
   ·simp at h2
   ·have hm':e∈o.after:=Array.mem_toList_iff.1 hm
    rcases h2 with rfl | h2
    ·exact hp e hm' hb
    ·have hlt:=edgesB_get he i o ho e hm' hb
     cases ho':ops[e.on]? with
     | none =>
       rw[List.getElem?_eq_none_iff] at ho'
       rw[List.getD_eq_getElem?_getD,List.getElem?_eq_none (by omega)] at h2
       simp at h2
     | some o' => exact ih e.on (by omega) o' ho' (fun e' he' hb' => hL e.on o' ho' (hp e hm' hb) e' he' hb') k h2
theorem pairsB_get {clo i:Nat} {y:AOper}:∀ {xs:List AOper} {j:Nat},pairsB clo i y j xs = true→∀ (k:Nat) x,xs[k]? = some x→clo.testBit (j + k) = true∨swapB (j + k) i x y = true
 | [],_,_,_,_,h => by simp at h
 | x :: xs,j,h,k,x',hk => by
   simp only[pairsB,Bool.and_eq_true,Bool.or_eq_true] at h
   cases k with
   | zero => simp at hk;subst hk;exact h.1
   | succ k =>
     simp at hk
     have:=pairsB_get h.2 k x' hk
     rwa [show j + 1 + k = j + (k + 1) by omega] at this
theorem drawB_get {aos:List AOper}:∀ {ys:List AOper} {cs:List Nat} {j:Nat},drawB aos j ys cs = true→∀ (i:Nat) y,ys[i]? = some y→pairsB (cs.getD i 0) (j + i) y 0 (aos.take (j + i)) = true
 | [],_,_,_,_,_,h => by simp at h
 | y :: ys,[],_,h,_,_,_ => by simp[drawB] at h
 | y :: ys,c :: cs,j,h,i,y',hi => by
   simp only[drawB,Bool.and_eq_true] at h
   cases i with
   | zero => simp at hi;subst hi;simpa using h.1
   | succ i =>
     simp at hi
     have:=drawB_get h.2 i y' hi
     rw[show j + 1 + i = j + (i + 1) by omega] at this
     simpa using this
theorem opersB_get {P:Program} {nm:Nat→Nat} {N:Nat} {ops:Array Oper}:∀ {os:List Oper} {aos:List AOper},opersB P nm N ops os aos = true→os.length = aos.length∧∀ (i:Nat) o,os[i]? = some o→∃ ao,aos[i]? = some ao∧operB P nm N ops o ao = true
 | [],[],_ => ⟨rfl,fun _ _ h => by simp at h⟩
 | [],_ :: _,h => by simp[opersB] at h
 | _ :: _,[],h => by simp[opersB] at h
 | o :: os,ao :: aos,h => by
   simp only[opersB,Bool.and_eq_true] at h
   obtain ⟨h1,h2⟩:=opersB_get h.2
   refine ⟨by simp[h1],fun i o' hi => ?_⟩
   cases i with
   | zero => simp at hi;subst hi;exact ⟨ao,rfl,h.1⟩
   | succ i => simp at hi ⊢;exact h2 i o' hi
def regB (P:Program) (nm:Nat→Nat) (N:Nat) (ops:Array Oper) (draw:Bool) (aos:List AOper):Bool:=
 opersB P nm N ops ops.toList aos && (!draw || (edgesB 0 ops.toList && (let clo:=clos ops.toList [];cloB clo ops.toList clo && drawB aos 0 aos clo)))
def pend (ops:Array Oper) (listed:Array Bool):List Nat:=(List.range ops.size).filter fun i => !listed.getD i true
theorem ready_some {ops:Array Oper} {listed:Array Bool} (he:edgesB 0 ops.toList = true) (hs:listed.size = ops.size):∀ i,i < ops.size→listed.getD i true = false→Region.ready .any ops listed≠[]:=by
 intro i
 induction i using Nat.strongRecOn with
 | _ i ih =>
   intro hi hl hr
   have ho:ops[i]? = some ops[i]:=Array.getElem?_eq_getElem hi
   by_cases hall:(ops[i].after.all fun e => !Region.binds .any e || listed.getD e.on false) = true
   ·have:i∈Region.ready .any ops listed:=by
     unfold Region.ready
     rw[List.mem_filter]
     exact ⟨List.mem_range.2 hi,by rw[hl,ho];simpa using hall⟩
    rw[hr] at this
    cases this
   ·rw[Array.all_eq_true_iff_forall_mem] at hall
    simp only[Bool.or_eq_true,Bool.not_eq_true'] at hall
    have:∃ e∈ops[i].after,Region.binds .any e = true∧listed.getD e.on false≠true:=by
     refine Classical.byContradiction fun hn => hall fun e hm => ?_
     by_cases hb:Region.binds .any e = true
     ·by_cases hl:listed.getD e.on false = true
      ·exact .inr hl
      ·exact absurd ⟨e,hm,hb,hl⟩ hn
     ·exact .inl (by simpa using hb)
    obtain ⟨e,hm,hb,hne⟩:=this
    have hlt:=edgesB_get he i ops[i] (by simpa using ho) e hm hb
    have hlt':e.on < ops.size:=by omega
    refine ih e.on (by omega) hlt' ?_ hr
    have h1:e.on < listed.size:=by omega
    simp only[Array.getD_eq_getD_getElem?,Array.getElem?_eq_getElem h1,Option.getD_some] at hne ⊢
    simpa using hne
section
variable {P:Program} {call:CS} {N:Nat}
theorem any_wp {num:Nat→Nat} (hcall:CallOk P num call) (hk:CallKeep call) {ops:Array Oper} {aos:List AOper} (hb:regB P num N ops true aos = true) {Q:Exit→Act→World→Prop} {base:Nat} {e':Env} {g':G}:
  ∀ (fuel:Nat) (listed:Array Bool) {c:Cx} {e:Env} {g:G} {a:Act},listed.size = ops.size→(pend ops listed).length = fuel→Closed ops.toList (fun i => listed.getD i false)→c.num = num→St N c e g a→base + ops.size≤g.nx →
  (∀ i∈pend ops listed,g.hp (base + i) = none)→runL call base aos (pend ops listed) e g = some (e',g')→(∀ c' a',Evo c c'→St N c' e' g' a'→Q .normal a' c'.w)→wpAny P .any ops Q fuel listed a c.w
 | 0,listed,c,e,g,a,hs,hl,hc,hn,S,hnx,hf,hr,hQ => by
   have hp:pend ops listed = []:=List.eq_nil_of_length_eq_zero hl
   refine ⟨?_,?_⟩
   ·refine List.eq_nil_iff_forall_not_mem.2 fun i hi => ?_
    have:i∈pend ops listed:=by
     unfold Region.ready at hi
     rw[List.mem_filter] at hi
     unfold pend
     rw[List.mem_filter]
     exact ⟨hi.1,by have:=hi.2;simp only[Bool.and_eq_true] at this;exact this.1⟩
    rw[hp] at this;cases this
   ·rw[hp] at hr
    simp only[runL] at hr
    cases hr
    exact hQ c a (Evo.refl c) S
 | fuel + 1,listed,c,e,g,a,hs,hl,hc,hn,S,hnx,hf,hr,hQ => by
   simp only[regB,Bool.and_eq_true,Bool.not_true,Bool.false_or] at hb
   obtain ⟨hb1,hb2,hb3,hb4⟩:=hb
   refine ⟨fun h0 => ?_,fun i hi => ?_⟩
   ·exfalso
    cases hp:pend ops listed with
    | nil => rw[hp] at hl;simp at hl
    | cons m ms =>
      have hm:m∈pend ops listed:=by rw[hp];exact List.mem_cons_self ..
      unfold pend at hm
      rw[List.mem_filter] at hm
      exact ready_some hb2 hs m (List.mem_range.1 hm.1) (by simpa using hm.2) h0
   ·have hi':=hi
    unfold Region.ready at hi'
    rw[List.mem_filter] at hi'
    obtain ⟨hir,hiu⟩:=hi'
    have hilt:i < ops.size:=List.mem_range.1 hir
    simp only[Bool.and_eq_true,Bool.not_eq_true'] at hiu
    obtain ⟨hul,hpre⟩:=hiu
    have ho:ops[i]? = some ops[i]:=Array.getElem?_eq_getElem hilt
    rw[ho] at hpre
    simp only[Option.map_some,Option.getD_some] at hpre
    have hpre':∀ ed∈ops[i].after,Region.binds .any ed = true→listed.getD ed.on false = true:=by
     intro ed hm hbd
     have:=Array.all_eq_true_iff_forall_mem.1 hpre ed hm
     rw[hbd] at this
     simpa using this
    have him:i∈pend ops listed:=by
     unfold pend;rw[List.mem_filter];exact ⟨hir,by rw[hul];rfl⟩
    obtain ⟨pre,post,hsplit⟩:=List.append_of_mem him
    have hsort:(pend ops listed).Pairwise (· < ·):=List.Pairwise.filter _ List.pairwise_lt_range
    rw[hsplit,List.pairwise_append] at hsort
    obtain ⟨s1,s2,s3⟩:=hsort
    rw[List.pairwise_cons] at s2
    obtain ⟨hlen,hget⟩:=opersB_get hb1
    obtain ⟨y,hy,hoy⟩:=hget i ops[i] (by simpa using ho)
    have hmem:∀ k,k∈pre∨k∈post→k∈pend ops listed:=by
     intro k hk;rw[hsplit]
     rcases hk with hk | hk
     ·exact List.mem_append_left _ hk
     ·exact List.mem_append_right _ (List.mem_cons_of_mem _ hk)
    have hfront:=runL_front hy pre post e e' g g' (fun k hk => by
     have hki:k < i:=s3 k hk i (List.mem_cons_self ..)
     refine ⟨by omega,fun x hx => ?_⟩
     have hpb:=drawB_get hb4 i y hy
     rw[Nat.zero_add] at hpb
     have:=pairsB_get hpb k x (by rw[List.getElem?_take_of_lt hki];exact hx)
     rw[Nat.zero_add] at this
     rcases this with h1 | h1
     ·exfalso
      have hL:=clo_sound hb3 hb2 hc i ops[i] (by simpa using ho) hpre' k h1
      have hkm:=hmem k (.inl hk)
      unfold pend at hkm
      rw[List.mem_filter] at hkm
      have hkl:k < listed.size:=by rw[hs];exact List.mem_range.1 hkm.1
      have h2:=hkm.2
      simp only[Array.getD_eq_getD_getElem?,Array.getElem?_eq_getElem hkl,Option.getD_some] at hL h2
      rw[hL] at h2;cases h2
     ·exact h1) (by rw[hsplit] at hr;exact hr)
    simp only[runL,hy] at hfront
    have hpend':pend ops (listed.setIfInBounds i true) = pre ++ post:=by
     have h1:pend ops (listed.setIfInBounds i true) = (pend ops listed).filter (fun k => k != i):=by
      unfold pend
      rw[List.filter_filter]
      refine List.filter_congr fun k hk => ?_
      have hkl:k < listed.size:=by rw[hs];exact List.mem_range.1 hk
      by_cases hki:k = i
      ·subst hki
       rw[Array.getD_eq_getD_getElem?,Array.getElem?_setIfInBounds_self_of_lt hkl]
       simp
      ·rw[Array.getD_eq_getD_getElem?,Array.getElem?_setIfInBounds_ne (fun h => hki h.symm),Array.getD_eq_getD_getElem?]
       simp[hki]
     rw[h1,hsplit,List.filter_append,List.filter_cons]
     have f1:pre.filter (fun k => k != i) = pre:=List.filter_eq_self.2 fun k hk => by
      have:=s3 k hk i (List.mem_cons_self ..)
      simp;omega
     have f2:post.filter (fun k => k != i) = post:=List.filter_eq_self.2 fun k hk => by
      have:=s2.1 k hk
      simp;omega
     rw[f1,f2]
     simp
    split at hfront
    ·rename_i e1 g1 hst
     have hkp:=opStep_keep hk hst
     refine opStep_wp (hn ▸ hcall) S ho (hn ▸ hoy) (hf i him) (by omega) hst (fun c1 a1 E1 S1 => ?_)
     have hb:regB P num N ops true aos = true:=by
      simp only[regB,Bool.and_eq_true,Bool.not_true,Bool.false_or]
      exact ⟨hb1,hb2,hb3,hb4⟩
     refine any_wp hcall hk hb fuel (listed.setIfInBounds i true) (by simpa using hs) (by
       rw[hpend']
       rw[hsplit] at hl
       simp at hl ⊢
       omega) ?_ (E1.num.trans hn) S1 (Nat.le_trans hnx hkp.1) ?_ (by rw[hpend'];exact hfront) (fun c' a' E' S' => hQ c' a' (E1.trans E') S')
     ·intro m o hm hlm ed hed hbd
      have hset:∀ k,listed.getD k false = true→(listed.setIfInBounds i true).getD k false = true:=by
       intro k hk
       by_cases hki:k = i
       ·subst hki
        have hkl:k < listed.size:=by omega
        rw[Array.getD_eq_getD_getElem?,Array.getElem?_setIfInBounds_self_of_lt hkl];rfl
       ·rw[Array.getD_eq_getD_getElem?,Array.getElem?_setIfInBounds_ne (fun h => hki h.symm),←Array.getD_eq_getD_getElem?];exact hk
      refine hset _ ?_
      by_cases hmi:m = i
      ·subst hmi
       have:o = ops[m]:=by
        have h2:ops[m]? = some o:=by simpa using hm
        rw[ho] at h2;cases h2;rfl
       subst this
       exact hpre' ed hed hbd
      ·have hlm':listed.getD m false = true:=by
        have h3:(listed.setIfInBounds i true).getD m false = true:=hlm
        rw[Array.getD_eq_getD_getElem?,Array.getElem?_setIfInBounds_ne (fun h => hmi h.symm),←Array.getD_eq_getD_getElem?] at h3
        exact h3
       exact hc m o hm hlm' ed hed hbd
     ·intro k hk
      rw[hpend'] at hk
      have hkm:=hmem k (List.mem_append.1 hk)
      have hki:k≠i:=by
       rcases List.mem_append.1 hk with hk | hk
       ·have:=s3 k hk i (List.mem_cons_self ..);omega
       ·have:=s2.1 k hk;omega
      have hklt:k < ops.size:=by
       unfold pend at hkm;rw[List.mem_filter] at hkm;exact List.mem_range.1 hkm.1
      exact hkp.2 _ (by omega) (by omega) (hf k hkm)
    ·cases hfront
theorem region_wp {num:Nat→Nat} (hcall:CallOk P num call) (hk:CallKeep call) (hm:P.follows .mixedOrders = true) {ops:Array Oper} {draw:Bool} {aos:List AOper} (hb:regB P num N ops draw aos = true) {Q:Exit→Act→World→Prop} {id:Nat}
  {c:Cx} {e e':Env} {g g':G} {a:Act} (hn:c.num = num) (S:St N c e g a) (h:regE call draw g.nx 0 aos e { g with nx:=g.nx + aos.length } = some (e',g')) (hQ:∀ c' a',Evo c c'→St N c' e' g' a'→Q .normal a' c'.w):(Code.region id ops draw).wp P Q a c.w:=by
 have hb':=hb
 simp only[regB,Bool.and_eq_true] at hb'
 obtain ⟨hlen,_⟩:=opersB_get hb'.1
 have hlen':ops.size = aos.length:=by simpa using hlen
 have S':St N c e { g with nx:=g.nx + aos.length } a:=⟨S.env,⟨S.ok.basele,S.ok.cells,S.ok.maps,S.ok.toks,S.ok.inj,fun id hid => S.ok.fresh id (by have:g.nx + aos.length≤id:=hid;omega),S.ok.gl⟩,S.hp,S.size,S.defers⟩
 have hfree:∀ i,i < ops.size→g.hp (g.nx + i) = none:=fun i _ => by rw[←S.hp];exact S.ok.fresh _ (by omega)
 cases draw with
 | false =>
   refine wp_region ?_
   rw[List.range_eq_range']
   have:=reg_wp (Q:=Q) hcall hk (draw:=false) (base:=g.nx) (n:=ops.size) ops.toList aos 0 hn (fun i o hi => by simpa using hi) hb'.1 (by simp) S' (by simp[hlen']) (fun i _ hi => hfree i hi) h hQ
   simpa using this
 | true =>
   refine wp_region_any hm ?_
   have hpend:pend ops (Array.replicate ops.size false) = List.range ops.size:=by
    unfold pend
    refine List.filter_eq_self.2 fun i hi => ?_
    have hi:=List.mem_range.1 hi
    rw[Array.getD_eq_getD_getElem?,Array.getElem?_replicate,if_pos hi];rfl
   refine any_wp (c:=c.drew) (base:=g.nx) hcall hk hb ops.size (Array.replicate ops.size false) (by simp) (by rw[hpend];simp) ?_ hn ⟨S'.env.evo (Evo.drew c),S'.ok.drew,S'.hp,S'.size,S'.defers⟩ (by show g.nx + ops.size≤g.nx + aos.length;omega) (fun i hi => ?_) ?_ (fun c' a' E Sc => hQ c' a' ((Evo.drew c).trans E) Sc)
   ·intro i o _ hl
    have hl:(Array.replicate ops.size false).getD i false = true:=hl
    rw[Array.getD_eq_getD_getElem?,Array.getElem?_replicate] at hl
    split at hl<;>cases hl
   ·rw[hpend] at hi
    exact hfree i (List.mem_range.1 hi)
   ·rw[hpend,List.range_eq_range',hlen']
    rw[runL_text call g.nx aos aos 0 e _ (fun i o hi => by simpa using hi)]
    exact h
end
end Go.Ab
end
section
set_option linter.unusedVariables false
set_option linter.unusedSimpArgs false
set_option linter.unnecessarySimpa false
namespace Go.Ab
open Go.RowKit
def codeB (P:Program) (nm:Nat→Nat) (N:Nat):Code→ACode→Bool
 | .skip,.skip => true
 | .region _ ops d,.reg d' aos => (d == d') && regB P nm N ops d aos
 | .seq a b,.seq a' b' => codeB P nm N a a' && codeB P nm N b b'
 | .cond c t f,.cond c' t' f' => opdB nm c c' && codeB P nm N t t' && codeB P nm N f f'
 | .block i c,.blk i' c' => (i == i') && codeB P nm N c c'
 | cd,.lck _ c' => codeB P nm N cd c'
 | cd,.lckS _ c' => codeB P nm N cd c'
 | cd,.imm _ c' => codeB P nm N cd c'
 | cd,.tmp c' => codeB P nm N cd c'
 | .scope c,.scp c' => codeB P nm N c c'
 | .label _,.lab => true
 | .loop c,.loop c' => codeB P nm N c c'
 | .exit i,.ext i' => i == i'
 | .ret,.ret => true
 | _,_ => false
def Keeps (g g':G):Prop:=g.nx≤g'.nx∧∀ i,i < g.nx→g.hp i = none→g'.hp i = none
theorem Keeps.refl (g:G):Keeps g g:=⟨Nat.le_refl _,fun _ _ h => h⟩
theorem Keeps.trans {g g1 g2:G} (h:Keeps g g1) (k:Keeps g1 g2):Keeps g g2:=⟨Nat.le_trans h.1 k.1,fun i hi hn => k.2 i (Nat.lt_of_lt_of_le hi h.1) (h.2 i hi hn)⟩
theorem regE_keep {call:CS} (hk:CallKeep call) {draw:Bool} {base:Nat} {e':Env} {g':G}:∀ (aos:List AOper) (j:Nat) {e:Env} {g:G},regE call draw base j aos e g = some (e',g')→g.nx≤g'.nx∧∀ i,i < base→i < g.nx→g.hp i = none→g'.hp i = none
 | [],j,e,g,h => by simp only[regE] at h;cases h;exact ⟨Nat.le_refl _,fun _ _ _ h => h⟩
 | o :: os,j,e,g,h => by
   rw[regE_step] at h
   split at h
   ·rename_i e1 g1 hst
    have h1:=opStep_keep hk hst
    have h2:=regE_keep hk os (j + 1) h
    exact ⟨Nat.le_trans h1.1 h2.1,fun i hb hi hn => h2.2 i hb (Nat.lt_of_lt_of_le hi h1.1) (h1.2 i hi (by omega) hn)⟩
   ·cases h
theorem iter_keep {f:Env→G→Option (Out × Env × G)} (hf:∀ e g o e' g',f e g = some (o,e',g')→Keeps g g'):∀ (k:Nat) {e:Env} {g:G} {o:Out} {e':Env} {g':G},iter f k e g = some (o,e',g')→Keeps g g'
 | 0,_,_,_,_,_,h => by simp[iter] at h
 | k + 1,e,g,o,e',g',h => by
   simp only[iter] at h
   split at h
   ·rename_i e1 g1 h1
    exact (hf _ _ _ _ _ h1).trans (iter_keep hf k h)
   ·exact hf _ _ _ _ _ h
theorem primE_keep {f:List AV→(Nat→Option Blk)→Option (AV × Option (Nat × List AV))} {asx:List AV} {g g':G} {v:AV} (h:primE f asx g = some (v,g')):Keeps g g':=by
 unfold primE at h
 split at h
 ·cases h
 ·cases h;exact Keeps.refl _
 ·rename_i v0 id cs hf
  split at h
  ·rename_i cs0 hid
   cases h
   refine ⟨Nat.le_refl _,fun i hi hn => ?_⟩
   by_cases he:i = id
   ·subst he;rw[hid] at hn;cases hn
   ·show upd g.hp id _ i = none
    unfold upd;rw[if_neg he];exact hn
  ·cases h
theorem codeE_keep {call:CS} (hk:CallKeep call) (k:Nat):∀ (c:ACode) {e:Env} {g:G} {o:Out} {e':Env} {g':G},codeE call k c e g = some (o,e',g')→Keeps g g'
 | .skip,_,_,_,_,_,h => by simp only[codeE] at h;cases h;exact Keeps.refl _
 | .reg draw ops,e,g,_,_,_,h => by
   simp only[codeE] at h
   split at h
   ·rename_i e1 g1 h1
    cases h
    have:=regE_keep hk ops 0 h1
    exact ⟨Nat.le_trans (Nat.le_add_right _ _) this.1,fun i hi hn => this.2 i hi (Nat.lt_of_lt_of_le hi (Nat.le_add_right _ _)) hn⟩
   ·cases h
 | .seq a b,_,_,_,_,_,h => by
   simp only[codeE] at h
   split at h
   ·rename_i e1 g1 h1
    exact (codeE_keep hk k a h1).trans (codeE_keep hk k b h)
   ·exact codeE_keep hk k a h
 | .cond c t f,e,g,_,_,_,h => by
   simp only[codeE] at h
   split at h
   ·split at h
    ·exact codeE_keep hk k t h
    ·exact codeE_keep hk k f h
   ·cases h
 | .blk id c,_,_,_,_,_,h => by
   simp only[codeE] at h
   split at h
   ·rename_i n e1 g1 h1
    cases h
    exact codeE_keep hk k c h1
   ·exact codeE_keep hk k c h
 | .scp c,_,_,_,_,_,h => by
   simp only[codeE] at h
   exact codeE_keep hk k c h
 | .lab,_,_,_,_,_,h => by simp only[codeE] at h;cases h;exact Keeps.refl _
 | .tmp c,e0,gg,_,_,_,h => by
   simp only[codeE] at h
   split at h
   ·rename_i o e2 g2 h1
    split at h
    ·cases h
     exact ⟨(codeE_keep hk k c h1).1,fun _ _ hn => hn⟩
    ·cases h
   ·cases h
 | .imm t c,e0,gg,_,_,_,h => by
   simp only[codeE] at h
   split at h
   ·rename_i v hv
    have h2:=codeE_keep hk k c h
    refine Keeps.trans (g1:=⟨Ab.lock gg.hp (vis gg.hp depth (e0 t)),gg.nx⟩) ⟨Nat.le_refl _,fun i hi hn => ?_⟩ h2
    show Ab.lock _ _ _ = none
    rcases lock_cases _ _ i with h' | ⟨_,cs,ro,h1,_⟩
    ·rw[h'];exact hn
    ·rw[hn] at h1;cases h1
   ·cases h
 | .lckS t c,e0,gg,_,_,_,h => by
   simp only[codeE] at h
   have h2:=codeE_keep hk k c h
   refine Keeps.trans (g1:=⟨Ab.lock gg.hp (ids1 (e0 t)),gg.nx⟩) ⟨Nat.le_refl _,fun i hi hn => ?_⟩ h2
   show Ab.lock _ _ _ = none
   rcases lock_cases _ _ i with h' | ⟨_,cs,ro,h1,_⟩
   ·rw[h'];exact hn
   ·rw[hn] at h1;cases h1
 | .lck t c,e0,gg,_,_,_,h => by
   simp only[codeE] at h
   have h2:=codeE_keep hk k c h
   refine Keeps.trans (g1:=⟨Ab.lock gg.hp (vis gg.hp depth (e0 t)),gg.nx⟩) ⟨Nat.le_refl _,fun i hi hn => ?_⟩ h2
   show Ab.lock _ _ _ = none
   rcases lock_cases _ _ i with h' | ⟨_,cs,ro,h1,_⟩
   ·rw[h'];exact hn
   ·rw[hn] at h1;cases h1
 | .loop c,_,_,_,_,_,h => by
   simp only[codeE] at h
   exact iter_keep (fun e g o e' g' h => codeE_keep hk k c h) k h
 | .ext _,_,_,_,_,_,h => by simp only[codeE] at h;cases h;exact Keeps.refl _
 | .ret,_,_,_,_,_,h => by simp only[codeE] at h;cases h;exact Keeps.refl _
 | .prim n f,_,_,_,_,_,h => by
   simp only[codeE] at h
   split at h
   ·rename_i v g1 hp
    cases h
    exact primE_keep hp
   ·cases h
theorem St.lock {N:Nat} {c:Cx} {e:Env} {g:G} {a:Act} (S:St N c e g a) (ids:List Nat):St N (c.lock ids) e ⟨Ab.lock g.hp ids,g.nx⟩ a:=
 ⟨S.env.evo (Evo.lock c ids),S.ok.lock ids,by show Ab.lock c.hp ids = _;rw[S.hp],S.size,S.defers⟩
theorem tmpOk_at {hp hp2:Nat→Option Blk} {n i:Nat} (h:tmpOk hp hp2 n = true) (hi:i < n):(∀ es,hp i≠some (.map es))∧(hp i = some (.tok true)→hp2 i = some (.tok true))∧(∀ cs ro,hp i = some (.cells cs ro)→∃ cs' ro',hp2 i = some (.cells cs' ro')):=by
 have:=List.all_eq_true.1 h i (List.mem_range.2 hi)
 refine ⟨fun es he => ?_,fun he => ?_,fun cs ro he => ?_⟩
 ·rw[he] at this;cases this
 ·rw[he] at this
  simp only at this
  split at this
  ·assumption
  ·cases this
 ·rw[he] at this
  simp only at this
  split at this
  ·exact ⟨_,_,by assumption⟩
  ·cases this
theorem lock_isSome {hp:Nat→Option Blk} {ids:List Nat} {i:Nat} (h:(hp i).isSome):(Ab.lock hp ids i).isSome:=by
 rcases lock_cases hp ids i with h1 | ⟨_,cs,ro,_,h1⟩
 ·rw[h1];exact h
 ·rw[h1];rfl
def Cx.unl (c1:Cx) (hp:Nat→Option Blk):Cx:={ c1 with hp:=hp }
section
variable {c c1:Cx} {nx nx2:Nat}
theorem id_lt (K:Ok c nx) {i:Nat} (h:(c.hp i).isSome):i < nx:=by
 by_cases hi:i < nx
 ·exact hi
 ·rw[K.fresh i (by omega)] at h;cases h
theorem Evo.unl (K:Ok c nx) (E1:Evo (c.lock (List.range nx)) c1) (hk:tmpOk c.hp c1.hp nx = true):Evo c (c1.unl c.hp) where
 num:=E1.num
 dr:=E1.dr
 base:=E1.base
 J:=E1.J
 below:=E1.below
 imm:=fun ad hI => by
  have h1:=E1.imm ad ((Evo.lock c (List.range nx)).imm ad hI).1
  refine ⟨?_,fun v hv => h1.2 v hv⟩
  have hb:c1.base = c.base:=E1.base
  rcases hI with ⟨a1,a2⟩ | ⟨a1,a2,a3⟩
  ·refine .inl ⟨by show _ < c1.base;rw[hb];exact a1,?_⟩
   have:c1.J = c.J:=E1.J
   show c1.J ad
   rw[this];exact a2
  ·refine .inr ⟨by show c1.base≤_;rw[hb];exact a1,Nat.lt_of_lt_of_le a2 E1.below.size,fun hw => a3 ?_⟩
   rcases hw with ⟨i,cs,hi,hl⟩ | ⟨i,hi,hl,ho⟩
   ·have hi':c.hp i = some (.cells cs false):=hi
    have e:=(E1.ids i (lock_isSome (by show (c.hp i).isSome;rw[hi'];rfl))).2
    have hl':(c1.loc i).1 = ad.block:=hl
    rw[e] at hl'
    exact .inl ⟨i,cs,hi',hl'⟩
   ·have hi':c.hp i = some (.tok true):=hi
    have e:=(E1.ids i (lock_isSome (by show (c.hp i).isSome;rw[hi'];rfl))).2
    have hl':(c1.loc i).1 = ad.block:=hl
    have ho':(c1.loc i).2≤ad.off:=ho
    rw[e] at hl' ho'
    exact .inr ⟨i,hi',hl',ho'⟩
 ids:=fun i hi => ⟨hi,(E1.ids i (lock_isSome hi)).2⟩
 tok:=fun i hi ht => by
  have ht:c.hp i = some (.tok true):=ht
  refine ⟨ht,?_⟩
  exact (E1.tok i (lock_isSome hi) ((tmpOk_at hk (id_lt K hi)).2.1 ht)).2
 cel:=fun i cs ro hi hc => by
  have hc:c.hp i = some (.cells cs ro):=hc
  obtain ⟨cs',ro',h1⟩:=(tmpOk_at hk (id_lt K hi)).2.2 cs ro hc
  obtain ⟨_,_,_,_,h2⟩:=E1.cel i cs' ro' (lock_isSome hi) h1
  exact ⟨cs,ro,hc,rfl,h2⟩
theorem Ok.unl (K:Ok c nx) (E1:Evo (c.lock (List.range nx)) c1) (hk:tmpOk c.hp c1.hp nx = true) (K1:Ok c1 nx2) (hn:nx≤nx2):Ok (c1.unl c.hp) nx2:=by
 have E:=Evo.unl K E1 hk
 have hloc:∀ i,(c.hp i).isSome→c1.loc i = c.loc i:=fun i hi => (E.ids i hi).2
 refine ⟨K1.basele,?_,?_,?_,?_,?_,K.gl.evo E⟩
 ·intro i cs ro hi
  have hi:c.hp i = some (.cells cs ro):=hi
  have hs:(c.hp i).isSome:=by rw[hi];rfl
  obtain ⟨cs1,ro1,h1⟩:=(tmpOk_at hk (id_lt K hs)).2.2 cs ro hi
  obtain ⟨k1,vs1,us1,ty1,k2,k3,_⟩:=K1.cells i cs1 ro1 h1
  obtain ⟨cs0,ro0,h0,hl0,_⟩:=E1.cel i cs1 ro1 (lock_isSome hs) h1
  obtain ⟨j1,vs,us,ty,j2,j3,j4⟩:=K.cells i cs ro hi
  have hcl:cs.length = cs1.length:=by
   rcases lock_cases c.hp (List.range nx) i with h | ⟨_,cs2,ro2,h3,h4⟩
   ·have h0':Ab.lock c.hp (List.range nx) i = some (.cells cs0 ro0):=h0
    rw[h,hi] at h0';cases h0';exact hl0
   ·have h0':Ab.lock c.hp (List.range nx) i = some (.cells cs0 ro0):=h0
    rw[h4] at h0'
    rw[hi] at h3
    cases h3;cases h0';exact hl0
  have hvl:vs.length = vs1.length:=by rw[←j3.1,hcl,k3.1]
  have hv:vs1 = vs:=by
   refine List.ext_getElem? fun j => ?_
   by_cases hj:j < vs.length
   ·have hc0:c.w.cell? ⟨(c.loc i).1,j,none⟩ = some vs[j]:=by
     rw[cell_of_heap j2]
     simp[List.getElem?_append_left hj]
    have hI:(c.lock (List.range nx)).I ⟨(c.loc i).1,j,none⟩:=by
     refine .inr ⟨j1,(Array.getElem?_eq_some_iff.1 j2).1,fun hw => ?_⟩
     rcases hw with ⟨i',cs',hi',hl'⟩ | ⟨i',hi',hl',ho'⟩
     ·have hi':Ab.lock c.hp (List.range nx) i' = some (.cells cs' false):=hi'
      rcases lock_cases c.hp (List.range nx) i' with h | ⟨_,cs2,ro2,h3,h4⟩
      ·rw[h] at hi'
       have hlt:=id_lt K (i:=i') (by rw[hi'];rfl)
       have:Ab.lock c.hp (List.range nx) i' = some (.cells cs' true):=by
        unfold Ab.lock
        rw[if_pos (by simpa using hlt),hi']
       rw[h,hi'] at this
       cases this
      ·rw[h4] at hi';cases hi'
     ·have hi':Ab.lock c.hp (List.range nx) i' = some (.tok true):=hi'
      have hi2:c.hp i' = some (.tok true):=by
       rcases lock_cases c.hp (List.range nx) i' with h | ⟨_,cs2,ro2,h3,h4⟩
       ·rw[←h];exact hi'
       ·rw[h4] at hi';cases hi'
      have hne:i'≠i:=fun h => by rw[h,hi] at hi2;cases hi2
      exact K.inj i' i hne ⟨_,hi2,by simp⟩ ⟨_,hi,by simp⟩ hl'
    have h2:=(E1.imm _ hI).2 _ hc0
    rw[←hloc i hs,cell_of_heap k2] at h2
    have hj1:j < vs1.length:=hvl ▸ hj
    have h3:(vs1 ++ us1)[j]? = some vs[j]:=by simpa using h2
    rw[List.getElem?_append_left hj1] at h3
    rw[h3,List.getElem?_eq_getElem hj]
   ·rw[List.getElem?_eq_none (by omega),List.getElem?_eq_none (by omega)]
  subst hv
  exact ⟨k1,vs1,us1,ty1,k2,j3.evo E,j4⟩
 ·intro i es hi
  have hi:c.hp i = some (.map es):=hi
  exact absurd hi ((tmpOk_at hk (id_lt K (by rw[hi];rfl))).1 es)
 ·intro i hi
  have hi:c.hp i = some (.tok true):=hi
  exact K1.toks i ((tmpOk_at hk (id_lt K (by rw[hi];rfl))).2.1 hi)
 ·intro i j hij hi hj
  have hi:c.live i:=hi
  have hj:c.live j:=hj
  have si:(c.hp i).isSome:=by obtain ⟨b,hb,_⟩:=hi;rw[hb];rfl
  have sj:(c.hp j).isSome:=by obtain ⟨b,hb,_⟩:=hj;rw[hb];rfl
  show (c1.loc i).1≠(c1.loc j).1
  rw[hloc i si,hloc j sj]
  exact K.inj i j hij hi hj
 ·intro i hi
  exact K.fresh i (by omega)
theorem rigid_rep {hp:Nat→Option Blk} {x:AV} {v:Value} (h:Rep c1 true x v):Rep (c1.unl hp) true (rigid hp x) v:=by
 unfold rigid
 by_cases hf:flat x = true
 ·rw[if_pos hf];exact rep_flat hf h
 ·rw[if_neg hf]
  cases h with
  | undef v hb => exact .undef v hb
  | b x => exact absurd rfl hf
  | i k n => exact absurd rfl hf
  | s x => exact absurd rfl hf
  | nilp => exact absurd rfl hf
  | nilf => exact absurd rfl hf
  | nili => exact absurd rfl hf
  | agg vs hl h => exact .undef _ (fun x h => by cases h)
  | tup vs hl h => exact .undef _ (fun x h => by cases h)
  | sl ad vs hc hm hr ho hz h1 hl ha hk h ht => exact .undef _ (fun x h => by cases h)
  | ptr ad vs h1 hl hk h => exact .undef _ (fun x h => by cases h)
  | mp id off h =>
    simp only
    by_cases hs:(hp id).isSome = true
    ·rw[if_pos hs];exact Rep.mp (c:=c1.unl hp) id off hs
    ·rw[if_neg hs];exact .undef _ (fun x h => by cases h)
  | ms id off n cap h hc hm hp => exact .undef _ (fun x h => by cases h)
  | mc id k e n cap h hk hc hm hp => exact .undef _ (fun x h => by cases h)
  | fn vs us hl hl' h h' => exact .undef _ (fun x h => by cases h)
  | mm id h => exact .undef _ (fun x h => by cases h)
end
theorem St.unl {N:Nat} {c c1:Cx} {e2:Env} {g g2:G} {a1:Act} (K:Ok c g.nx) (hg:c.hp = g.hp) (E1:Evo (c.lock (List.range g.nx)) c1) (S1:St N c1 e2 g2 a1) (hk:tmpOk g.hp g2.hp g.nx = true) (hn:g.nx≤g2.nx):St N (c1.unl g.hp) (tmpEnv g.hp e2) ⟨g.hp,g2.nx⟩ a1:=by
 rw[←hg] at hk ⊢
 rw[←S1.hp] at hk
 exact ⟨fun t => rigid_rep (S1.env t),Ok.unl K E1 hk S1.ok hn,rfl,S1.size,S1.defers⟩
def exOf:Out→Exit
 | .nrm => .normal
 | .ext n => .exit n
 | .ret => .ret
section
variable {P:Program} {call:CS} {N:Nat}
theorem rounds_wp {num:Nat→Nat} {cd:Code} {f:Env→G→Option (Out × Env × G)} {Q:Exit→Act→World→Prop}
  (hf:∀ {Q:Exit→Act→World→Prop} {c:Cx} {e e':Env} {g g':G} {a:Act} {o:Out},c.num = num→St N c e g a→f e g = some (o,e',g')→(∀ c' a',Evo c c'→St N c' e' g' a'→Q (exOf o) a' c'.w)→cd.wp P Q a c.w):
  ∀ (k:Nat) {c:Cx} {e e':Env} {g g':G} {a:Act} {o:Out},c.num = num→St N c e g a→iter f k e g = some (o,e',g')→(∀ c' a',Evo c c'→St N c' e' g' a'→Q (exOf o) a' c'.w)→(o = .nrm→False)→Code.rounds P cd Q k a c.w
 | 0,_,_,_,_,_,_,_,_,_,h,_,_ => by simp[iter] at h
 | k + 1,c,e,e',g,g',a,o,hn,S,h,hQ,hno => by
   simp only[iter] at h
   rw[rounds_succ]
   split at h
   ·rename_i e1 g1 h1
    exact hf hn S h1 fun c1 a1 E1 S1 => rounds_wp hf k (E1.num.trans hn) S1 h (fun c' a' E' S' => hQ c' a' (E1.trans E') S') hno
   ·refine hf hn S h fun c1 a1 E1 S1 => ?_
    have:=hQ c1 a1 E1 S1
    cases o with
    | nrm => exact (hno rfl).elim
    | ext n => exact this
    | ret => exact this
theorem iter_out {f:Env→G→Option (Out × Env × G)}:∀ (k:Nat) {e e':Env} {g g':G} {o:Out},iter f k e g = some (o,e',g')→o = .nrm→False
 | 0,_,_,_,_,_,h,_ => by simp[iter] at h
 | k + 1,e,e',g,g',o,h,ho => by
   simp only[iter] at h
   split at h
   ·exact iter_out k h ho
   ·rename_i hne
    subst ho
    exact hne _ _ h
theorem code_wp {num:Nat→Nat} (hcall:CallOk P num call) (hk:CallKeep call) (hm:P.follows .mixedOrders = true) (k:Nat):∀ (ac:ACode) {cd:Code} {Q:Exit→Act→World→Prop} {c:Cx} {e e':Env} {g g':G} {a:Act} {o:Out},
  codeB P num N cd ac = true→c.num = num→St N c e g a→codeE call k ac e g = some (o,e',g')→(∀ c' a',Evo c c'→St N c' e' g' a'→Q (exOf o) a' c'.w)→cd.wp P Q a c.w
 | .skip,cd,Q,c,e,e',g,g',a,o,hb,hn,S,h,hQ => by
   cases cd<;>simp only[codeB,Bool.false_eq_true] at hb
   simp only[codeE] at h;cases h
   exact wp_skip (hQ c a (Evo.refl c) S)
 | .reg d aos,cd,Q,c,e,e',g,g',a,o,hb,hn,S,h,hQ => by
   cases cd<;>simp only[codeB,Bool.false_eq_true] at hb
   simp only[Bool.and_eq_true,beq_iff_eq] at hb
   obtain ⟨rfl,hb⟩:=hb
   simp only[codeE] at h
   split at h
   ·rename_i e1 g1 h1
    cases h
    exact region_wp hcall hk hm hb hn S h1 hQ
   ·cases h
 | .seq x y,cd,Q,c,e,e',g,g',a,o,hb,hn,S,h,hQ => by
   cases cd<;>simp only[codeB,Bool.false_eq_true] at hb
   simp only[Bool.and_eq_true] at hb
   simp only[codeE] at h
   refine wp_seq ?_
   split at h
   ·rename_i e1 g1 h1
    exact code_wp hcall hk hm k x hb.1 hn S h1 fun c1 a1 E1 S1 => code_wp hcall hk hm k y hb.2 (E1.num.trans hn) S1 h fun c' a' E' S' => hQ c' a' (E1.trans E') S'
   ·rename_i hne
    refine code_wp hcall hk hm k x hb.1 hn S h fun c1 a1 E1 S1 => ?_
    have:=hQ c1 a1 E1 S1
    cases o with
    | nrm => exact (hne _ _ h).elim
    | ext n => exact this
    | ret => exact this
 | .cond x t f,cd,Q,c,e,e',g,g',a,o,hb,hn,S,h,hQ => by
   cases cd<;>simp only[codeB,Bool.false_eq_true] at hb
   simp only[Bool.and_eq_true] at hb
   obtain ⟨⟨h1,h2⟩,h3⟩:=hb
   have hr:=opdB_rep S.env (hn ▸ h1)
   simp only[codeE] at h
   split at h
   ·rename_i b hx
    rw[hx] at hr
    refine wp_cond (t:=b) (by
     generalize a.eval _ = u at hr
     cases hr;rfl) ?_
    cases b with
    | true =>
      simp only[if_true] at h ⊢
      exact code_wp hcall hk hm k t h2 hn S h hQ
    | false =>
      simp only[Bool.false_eq_true,if_false] at h ⊢
      exact code_wp hcall hk hm k f h3 hn S h hQ
   ·cases h
 | .blk i x,cd,Q,c,e,e',g,g',a,o,hb,hn,S,h,hQ => by
   cases cd<;>simp only[codeB,Bool.false_eq_true] at hb
   simp only[Bool.and_eq_true,beq_iff_eq] at hb
   obtain ⟨rfl,hb⟩:=hb
   simp only[codeE] at h
   refine wp_block ?_
   split at h
   ·rename_i n e1 g1 h1
    cases h
    refine code_wp hcall hk hm k x hb hn S h1 fun c1 a1 E1 S1 => ?_
    have:=hQ c1 a1 E1 S1
    show if _ then _ else _
    split
    ·rename_i hni;rw[if_pos hni] at this;exact this
    ·rename_i hni;rw[if_neg hni] at this;exact this
   ·rename_i hne
    refine code_wp hcall hk hm k x hb hn S h fun c1 a1 E1 S1 => ?_
    have:=hQ c1 a1 E1 S1
    cases o with
    | nrm => exact this
    | ext n => exact (hne _ _ _ h).elim
    | ret => exact this
 | .scp x,cd,Q,c,e,e',g,g',a,o,hb,hn,S,h,hQ => by
   cases cd<;>simp only[codeB,Bool.false_eq_true] at hb
   simp only[codeE] at h
   refine wp_scope_straight (code_wp hcall hk hm k x hb hn S h fun c1 a1 E1 S1 => ?_)
   have:=hQ c1 a1 E1 S1
   cases o<;>exact this
 | .lab,cd,Q,c,e,e',g,g',a,o,hb,hn,S,h,hQ => by
   cases cd<;>simp only[codeB,Bool.false_eq_true] at hb
   simp only[codeE] at h;cases h
   exact wp_label (hQ c a (Evo.refl c) S)
 | .tmp x,cd,Q,c,e,e',g,g',a,o,hb,hn,S,h,hQ => by
   have hb:codeB P num N cd x = true:=by cases cd<;>simpa only[codeB] using hb
   simp only[codeE] at h
   split at h
   ·rename_i o2 e2 g2 h1
    split at h
    ·rename_i hk2
     cases h
     have E:=Evo.lock c (List.range g.nx)
     refine code_wp hcall hk hm k x (c:=c.lock (List.range g.nx)) hb (E.num.trans hn) (S.lock _) h1 fun c1 a1 E1 S1 => ?_
     have hk3:tmpOk c.hp c1.hp g.nx = true:=by rw[S.hp,S1.hp];exact hk2
     have hQ1:=hQ (c1.unl g.hp) a1 (by have:=Evo.unl S.ok E1 hk3;rwa [S.hp] at this) (St.unl S.ok S.hp E1 S1 hk2 (codeE_keep hk k x h1).1)
     exact hQ1
    ·cases h
   ·cases h
 | .imm t x,cd,Q,c,e,e',g,g',a,o,hb,hn,S,h,hQ => by
   have hb:codeB P num N cd x = true:=by cases cd<;>simpa only[codeB] using hb
   simp only[codeE] at h
   split at h
   ·rename_i v hv
    have E:=Evo.lock c (vis g.hp depth (e t))
    have S1:=S.lock (vis g.hp depth (e t))
    have hr:=frz_rep S.ok (hp:=g.hp) (ids:=vis g.hp depth (e t)) (fun i b hib => by rw[S.hp];exact hib) depth hv (fun _ h => h) (S.env t)
    have S2:St N (c.lock (vis g.hp depth (e t))) (upd e t v) ⟨Ab.lock g.hp (vis g.hp depth (e t)),g.nx⟩ a:=by
     refine ⟨fun t' => ?_,S1.ok,S1.hp,S1.size,S1.defers⟩
     unfold upd
     split
     ·rename_i ht;subst ht;exact hr.up
     ·exact S1.env t'
    exact code_wp hcall hk hm k x (c:=c.lock (vis g.hp depth (e t))) hb (E.num.trans hn) S2 h fun c1 a1 E1 S1 => hQ c1 a1 (E.trans E1) S1
   ·cases h
 | .lckS t x,cd,Q,c,e,e',g,g',a,o,hb,hn,S,h,hQ => by
   have hb:codeB P num N cd x = true:=by cases cd<;>simpa only[codeB] using hb
   simp only[codeE] at h
   have E:=Evo.lock c (ids1 (e t))
   exact code_wp hcall hk hm k x (c:=c.lock (ids1 (e t))) hb (E.num.trans hn) (S.lock _) h fun c1 a1 E1 S1 => hQ c1 a1 (E.trans E1) S1
 | .lck t x,cd,Q,c,e,e',g,g',a,o,hb,hn,S,h,hQ => by
   have hb:codeB P num N cd x = true:=by cases cd<;>simpa only[codeB] using hb
   simp only[codeE] at h
   have E:=Evo.lock c (vis g.hp depth (e t))
   exact code_wp hcall hk hm k x (c:=c.lock (vis g.hp depth (e t))) hb (E.num.trans hn) (S.lock _) h fun c1 a1 E1 S1 => hQ c1 a1 (E.trans E1) S1
 | .loop x,cd,Q,c,e,e',g,g',a,o,hb,hn,S,h,hQ => by
   cases cd<;>simp only[codeB,Bool.false_eq_true] at hb
   simp only[codeE] at h
   exact wp_loop_rounds k (rounds_wp (fun hn S h hQ => code_wp hcall hk hm k x hb hn S h hQ) k hn S h hQ (iter_out k h))
 | .ext i,cd,Q,c,e,e',g,g',a,o,hb,hn,S,h,hQ => by
   cases cd<;>simp only[codeB,Bool.false_eq_true] at hb
   simp only[beq_iff_eq] at hb
   subst hb
   simp only[codeE] at h;cases h
   exact wp_exit (hQ c a (Evo.refl c) S)
 | .ret,cd,Q,c,e,e',g,g',a,o,hb,hn,S,h,hQ => by
   cases cd<;>simp only[codeB,Bool.false_eq_true] at hb
   simp only[codeE] at h;cases h
   exact wp_ret (hQ c a (Evo.refl c) S)
 | .prim n f,cd,Q,c,e,e',g,g',a,o,hb,hn,S,h,hQ => by
   cases cd<;>simp only[codeB,Bool.false_eq_true] at hb
end
def resB (P:Program):List ResultVar→List ARes→Bool
 | [],[] => true
 | .tmp t :: rs,.t t' :: rs' => (t == t') && resB P rs rs'
 | .cell a t :: rs,.cell a' agg :: rs' => (a == a') && aggB P t agg && resB P rs rs'
 | _,_ => false
def funB (P:Program) (nm:Nat→Nat) (fn:Func) (A:AFun):Bool:=
 (match fn.body with
  | some cd => codeB P nm fn.ntmps cd A.body
  | none => false) && resB P fn.results.toList A.res && !(fn.name == "runtime.NumGoroutine")
def resVar (tmps:Array Value):ResultVar→Sem Value
 | .tmp t => pure (tmps.getD t undef)
 | .cell a t => do loadVar t (← asAddr (tmps.getD a undef))
theorem results_eq (fn:Func) (tmps:Array Value):results fn tmps = (fn.results.mapM (resVar tmps) >>= fun vs => pure (if h:vs.size = 1 then vs[0] else .tuple vs)):=by
 unfold results
 congr 1
theorem resB_ok {P:Program} {c:Cx} {e:Env} {a:Act} {g:G} (he:EnvOk c e a) (K:Ok c g.nx) (hg:c.hp = g.hp):∀ {rs:List ResultVar} {asx:List ARes} {vs:List AV},resB P rs asx = true→resAll e g asx = some vs→∃ us:List Value,(rs.mapM (resVar a.tmps)).run P c.w = .ok us c.w∧Reps c true vs us
 | [],[],vs,_,h => by
   simp only[resAll] at h;cases h
   exact ⟨[],rfl,Reps.nil⟩
 | .tmp t :: rs,.t t' :: asx,vs,hb,h => by
   simp only[resB,Bool.and_eq_true,beq_iff_eq] at hb
   obtain ⟨rfl,hb⟩:=hb
   simp only[resAll,resOne] at h
   split at h
   ·rename_i v vs' h1 h2
    cases h1;cases h
    obtain ⟨us,hu,hr⟩:=resB_ok he K hg hb h2
    refine ⟨a.tmps.getD t undef :: us,?_,Reps.cons (he t) hr⟩
    rw[List.mapM_cons,Sem.run_bind]
    show Result.andThen (.ok (a.tmps.getD t undef) c.w) _ = _
    rw[Result.andThen_ok,Sem.run_bind,hu]
    rfl
   ·cases h
 | .cell q t :: rs,.cell q' agg :: asx,vs,hb,h => by
   simp only[resB,Bool.and_eq_true,beq_iff_eq] at hb
   obtain ⟨⟨rfl,hagg⟩,hb⟩:=hb
   simp only[resAll] at h
   split at h
   ·rename_i v vs' h1 h2
    cases h
    obtain ⟨us,hu,hr⟩:=resB_ok he K hg hb h2
    simp only[resOne] at h1
    split at h1
    ·rename_i b off hq
     split at h1
     ·rename_i cs ro hbk
      have hrq:=he q
      rw[hq] at hrq
      have hv:=rep_mp hrq
      have hbk':c.hp b = some (.cells cs ro):=by rw[hg];exact hbk
      obtain ⟨_,ws,rs,ty,g2,g3,_⟩:=K.cells b cs ro hbk'
      obtain ⟨val,hrun,hval⟩:=run_loadVar_ab (P:=P) (w:=c.w) hagg g3 h1 (ad:=⟨(c.loc b).1,off,none⟩) (fun j u hu => by rw[add_mk,cell_of_heap g2,List.getElem?_toArray,List.getElem?_append_left (List.getElem?_eq_some_iff.1 hu).1];exact hu)
      refine ⟨val :: us,?_,Reps.cons hval hr⟩
      have hone:(resVar a.tmps (.cell q t)).run P c.w = .ok val c.w:=by
       simp only[resVar,hv]
       exact hrun
      rw[List.mapM_cons,Sem.run_bind,hone,Result.andThen_ok,Sem.run_bind,hu]
      rfl
     ·cases h1
    ·cases h1
   ·cases h
 | [],_ :: _,_,h,_ => by simp[resB] at h
 | .tmp _ :: _,[],_,h,_ => by simp[resB] at h
 | .tmp _ :: _,.cell _ _ :: _,_,h,_ => by simp[resB] at h
 | .cell _ _ :: _,[],_,h,_ => by simp[resB] at h
 | .cell _ _ :: _,.t _ :: _,_,h,_ => by simp[resB] at h
theorem res_ok {P:Program} {c:Cx} {e:Env} {a:Act} {g:G} (he:EnvOk c e a) (K:Ok c g.nx) (hg:c.hp = g.hp) {fn:Func} {asx:List ARes} {v:AV} (hb:resB P fn.results.toList asx = true) (h:resE asx e g = some v):∃ u,(results fn a.tmps).run P c.w = .ok u c.w∧Rep c true v u:=by
 unfold resE at h
 have key:∀ vs,resAll e g asx = some vs→∃ us:List Value,(results fn a.tmps).run P c.w = .ok (if h:us.toArray.size = 1 then us.toArray[0] else .tuple us.toArray) c.w∧Reps c true vs us:=by
  intro vs hv
  obtain ⟨us,hu,hr⟩:=resB_ok (P:=P) he K hg hb hv
  refine ⟨us,?_,hr⟩
  rw[results_eq,Array.mapM_eq_mapM_toList,Sem.run_bind,Sem.run_map,hu]
  rfl
 split at h
 ·rename_i v' hv
  cases h
  obtain ⟨us,hu,hr⟩:=key _ hv
  obtain ⟨u,us',rfl,h1,h2⟩:=Reps.cons_inv hr
  have:=Reps.nil_inv h2
  subst this
  exact ⟨u,by simpa using hu,h1⟩
 ·rename_i vs hne hv
  cases h
  obtain ⟨us,hu,hr⟩:=key _ hv
  refine ⟨_,hu,?_⟩
  rw[dif_neg]
  ·exact .tup us hr.1 hr.2
  ·intro hs
   have hl:vs.length = 1:=by rw[hr.1];simpa using hs
   match vs,hl,hne with
   | [v],_,hne => exact hne v rfl
 ·cases h
theorem argEnv_ok {c:Cx} {asx:List AV} {vs:List Value} (h:Reps c true asx vs) (n:Nat):EnvOk c (argEnv asx) { tmps:=vs.toArray ++ Array.replicate n undef,defers:=[] }:=by
 intro t
 unfold argEnv
 rw[List.getD_eq_getElem?_getD]
 show Rep c true _ ((vs.toArray ++ Array.replicate n undef).getD t undef)
 rw[Array.getD_eq_getD_getElem?,Array.getElem?_append]
 by_cases ht:t < vs.length
 ·rw[if_pos (by simpa using ht)]
  have ht':t < asx.length:=by rw[h.1];exact ht
  rw[List.getElem?_eq_getElem ht',List.getElem?_toArray,List.getElem?_eq_getElem ht]
  exact h.2 t _ _ (List.getElem?_eq_getElem ht') (List.getElem?_eq_getElem ht)
 ·rw[if_neg (by simpa using ht),List.getElem?_eq_none (by have:=h.1;omega)]
  rw[Array.getElem?_replicate]
  split<;>exact Rep.undef0
def PrimOk (P:Program) (num:Nat→Nat) (f:Nat) (A:AFun):Prop:=∃ n h,A.res = [.t 0]∧A.body = .prim n h∧(∃ fn,P.funcs[num f]? = some fn∧fn.body.isSome∧(fn.name == "runtime.NumGoroutine") = false) ∧
 ∀ asx g v g',asx.length = n→primE h ((List.range n).map (argEnv asx)) g = some (v,g')→∀ (c:Cx) (vargs:List Value),c.num = num→c.hp = g.hp→Ok c g.nx→Reps c true asx vargs →
   Calls P (num f) vargs.toArray c.w (fun en w' => ∃ val c',en = .returned val∧c'.w = w'∧Evo c c'∧Ok c' g'.nx∧c'.hp = g'.hp∧Rep c' true v val)
def Table (P:Program) (num:Nat→Nat) (F:Funs):Prop:=∀ f A,F f = some A→(∃ fn,P.funcs[num f]? = some fn∧funB P num fn A = true)∨PrimOk P num f A
theorem callE_ok {P:Program} {num:Nat→Nat} {F:Funs} (hT:Table P num F) (hm:P.follows .mixedOrders = true):∀ k,CallKeep (callE F k)∧CallOk P num (callE F k)
 | 0 => ⟨fun f asx g v g' h => by simp[callE] at h,fun f asx g v g' h => by simp[callE] at h⟩
 | k + 1 => by
   obtain ⟨hk,hcall⟩:=callE_ok hT hm k
   have keep:CallKeep (callE F (k + 1)):=by
    intro f asx g v g' h
    simp only[callE] at h
    split at h
    ·cases h
    ·rename_i fn hF
     cases har:arB fn asx with
     | false => rw[har] at h;cases h
     | true =>
     rw[har] at h
     simp only at h
     split at h
     ·rename_i e1 g1 h1
      have:=codeE_keep hk k _ h1
      cases hr:resE fn.res e1 g1 with
      | none => rw[hr] at h;cases h
      | some x => rw[hr] at h;cases h;exact this
     ·rename_i e1 g1 h1
      have:=codeE_keep hk k _ h1
      cases hr:resE fn.res e1 g1 with
      | none => rw[hr] at h;cases h
      | some x => rw[hr] at h;cases h;exact this
     ·cases h
   refine ⟨keep,fun f asx g v g' h => ⟨keep f asx g v g' h,fun c vargs hn hg K hr => ?_⟩⟩
   simp only[callE] at h
   split at h
   ·cases h
   ·rename_i A hF
    cases har:arB A asx with
    | false => rw[har] at h;cases h
    | true =>
    rw[har] at h
    simp only at h
    rcases hT f A hF with ⟨fn,hfn,hb⟩ | ⟨n,h0,hres,hbody,hfn,hok⟩
    case inr =>
     refine ⟨?_,hfn⟩
     have hlen:asx.length = n:=by
      unfold arB at har
      rw[hbody] at har
      simpa using har
     rw[hres,hbody] at h
     simp only[codeE] at h
     cases hp:primE h0 ((List.range n).map (argEnv asx)) g with
     | none => rw[hp] at h;cases h
     | some r =>
       obtain ⟨v1,g1⟩:=r
       rw[hp] at h
       have h:some (upd (argEnv asx) 0 v1 0,g1) = some (v,g'):=h
       simp only[upd,if_true] at h
       cases h
       exact hok asx g _ _ hlen hp c vargs hn hg K hr
    simp only[funB,Bool.and_eq_true,Bool.not_eq_true'] at hb
    obtain ⟨⟨hb1,hb2⟩,hb3⟩:=hb
    split at hb1
    ·rename_i cd hbody
     refine ⟨?_,fn,hfn,by rw[hbody];rfl,hb3⟩
     have S:St fn.ntmps c (argEnv asx) g { tmps:=vargs.toArray ++ Array.replicate (fn.ntmps - vargs.toArray.size) undef,defers:=[] }:=
      ⟨argEnv_ok hr _,K,hg,by simp;omega,rfl⟩
     have fin:∀ o e1 g1,(o = .nrm∨o = .ret)→codeE (callE F k) k A.body (argEnv asx) g = some (o,e1,g1)→(resE A.res e1 g1).map (·,g1) = some (v,g')→Calls P (num f) vargs.toArray c.w (fun en w' => ∃ val c',en = .returned val∧c'.w = w'∧Evo c c'∧Ok c' g'.nx∧c'.hp = g'.hp∧Rep c' true v val):=by
      intro o e1 g1 ho h1 h2
      cases hre:resE A.res e1 g1 with
      | none => rw[hre] at h2;cases h2
      | some x =>
        rw[hre] at h2;cases h2
        refine calls_of_wp hfn hbody (code_wp hcall hk hm k A.body hb1 hn S h1 fun c' a' E S' => ?_)
        obtain ⟨u,hu,hru⟩:=res_ok (P:=P) S'.env S'.ok S'.hp hb2 hre
        have:a'.defers = []∧∃ v',(results fn a'.tmps).run P c'.w = .ok v' c'.w∧(fun (en:Ending) (w':World) => ∃ val c'',en = .returned val∧c''.w = w'∧Evo c c''∧Ok c'' g'.nx∧c''.hp = g'.hp∧Rep c'' true v val) (.returned v') c'.w:=
         ⟨S'.defers,u,hu,u,c',rfl,rfl,E,S'.ok,S'.hp,hru⟩
        rcases ho with rfl | rfl
        ·exact this
        ·exact this
     split at h
     ·rename_i e1 g1 h1;exact fin .nrm e1 g1 (.inl rfl) h1 h
     ·rename_i e1 g1 h1;exact fin .ret e1 g1 (.inr rfl) h1 h
     ·cases h
    ·cases hb1
end Go.Ab
end
section
namespace Go.Ab
def A_math_bits_Len:AFun:={ res:=[.t 2],body:=(.seq (.reg false [qo 2 (.mv (.c (.i .i64 0)))])
 (.seq (.cond (.c (.b false)) (.seq (.reg false [qm 3 0,qo 4 (.conv .u32 (.t 3)),qo 5 (.call .pure (.c (.fn 432 [] [])) [.t 4]),qm 2 5])
 .ret)
 .skip)
 (.seq (.reg false [qm 6 0,qo 7 (.call .pure (.c (.fn 433 [] [])) [.t 6]),qm 2 7])
 .ret))) }
def A_math_bits_Len32:AFun:={ res:=[.t 2],body:=(.seq (.reg false [qo 2 (.mv (.c (.i .i64 0)))])
 (.seq (.seq (.reg false [qm 3 0,qo 4 (.bin .geq (.t 3) (.c (.i .u32 65536)))])
 (.cond (.t 4) (.seq (.reg false [qm 5 0,qo 6 (.bin .shr (.t 5) (.c (.i .u64 16))),qm 0 6])
 (.reg false [qo 2 (.mv (.c (.i .i64 16)))]))
 .skip))
 (.seq (.seq (.reg false [qm 7 0,qo 8 (.bin .geq (.t 7) (.c (.i .u32 256)))])
 (.cond (.t 8) (.seq (.reg false [qm 9 0,qo 10 (.bin .shr (.t 9) (.c (.i .u64 8))),qm 0 10])
 (.reg false [qm 11 2,qo 12 (.bin .add (.t 11) (.c (.i .i64 8))),qm 2 12]))
 .skip))
 (.seq (.reg false [qm 13 2,qm 14 0,qo 15 (.conv .u8 (.t 14)),qo 16 (.sidx (.c (.s ⟨#[0,1,2,2,3,3,3,3,4,4,4,4,4,4,4,4,5,5,5,5,5,5,5,5,5,5,5,5,5,5,5,5,6,6,6,6,6,6,6,6,6,6,6,6,6,6,6,6,6,6,6,6,6,6,6,6,6,6,6,6,6,6,6,6,7,7,7,7,7,7,7,7,7,7,7,7,7,7,7,7,7,7,7,7,7,7,7,7,7,7,7,7,7,7,7,7,7,7,7,7,7,7,7,7,7,7,7,7,7,7,7,7,7,7,7,7,7,7,7,7,7,7,7,7,7,7,7,7,8,8,8,8,8,8,8,8,8,8,8,8,8,8,8,8,8,8,8,8,8,8,8,8,8,8,8,8,8,8,8,8,8,8,8,8,8,8,8,8,8,8,8,8,8,8,8,8,8,8,8,8,8,8,8,8,8,8,8,8,8,8,8,8,8,8,8,8,8,8,8,8,8,8,8,8,8,8,8,8,8,8,8,8,8,8,8,8,8,8,8,8,8,8,8,8,8,8,8,8,8,8,8,8,8,8,8,8,8,8,8,8,8,8,8,8,8,8,8,8,8,8,8,8,8,8,8,8]⟩)) (.t 15)),qo 17 (.conv .i64 (.t 16)),qo 18 (.bin .add (.t 13) (.t 17)),qm 2 18])
 .ret)))) }
def A_math_bits_Len64:AFun:={ res:=[.t 2],body:=(.seq (.reg false [qo 2 (.mv (.c (.i .i64 0)))])
 (.seq (.seq (.reg false [qm 3 0,qo 4 (.bin .geq (.t 3) (.c (.i .u64 4294967296)))])
 (.cond (.t 4) (.seq (.reg false [qm 5 0,qo 6 (.bin .shr (.t 5) (.c (.i .u64 32))),qm 0 6])
 (.reg false [qo 2 (.mv (.c (.i .i64 32)))]))
 .skip))
 (.seq (.seq (.reg false [qm 7 0,qo 8 (.bin .geq (.t 7) (.c (.i .u64 65536)))])
 (.cond (.t 8) (.seq (.reg false [qm 9 0,qo 10 (.bin .shr (.t 9) (.c (.i .u64 16))),qm 0 10])
 (.reg false [qm 11 2,qo 12 (.bin .add (.t 11) (.c (.i .i64 16))),qm 2 12]))
 .skip))
 (.seq (.seq (.reg false [qm 13 0,qo 14 (.bin .geq (.t 13) (.c (.i .u64 256)))])
 (.cond (.t 14) (.seq (.reg false [qm 15 0,qo 16 (.bin .shr (.t 15) (.c (.i .u64 8))),qm 0 16])
 (.reg false [qm 17 2,qo 18 (.bin .add (.t 17) (.c (.i .i64 8))),qm 2 18]))
 .skip))
 (.seq (.reg false [qm 19 2,qm 20 0,qo 21 (.conv .u8 (.t 20)),qo 22 (.sidx (.c (.s ⟨#[0,1,2,2,3,3,3,3,4,4,4,4,4,4,4,4,5,5,5,5,5,5,5,5,5,5,5,5,5,5,5,5,6,6,6,6,6,6,6,6,6,6,6,6,6,6,6,6,6,6,6,6,6,6,6,6,6,6,6,6,6,6,6,6,7,7,7,7,7,7,7,7,7,7,7,7,7,7,7,7,7,7,7,7,7,7,7,7,7,7,7,7,7,7,7,7,7,7,7,7,7,7,7,7,7,7,7,7,7,7,7,7,7,7,7,7,7,7,7,7,7,7,7,7,7,7,7,7,8,8,8,8,8,8,8,8,8,8,8,8,8,8,8,8,8,8,8,8,8,8,8,8,8,8,8,8,8,8,8,8,8,8,8,8,8,8,8,8,8,8,8,8,8,8,8,8,8,8,8,8,8,8,8,8,8,8,8,8,8,8,8,8,8,8,8,8,8,8,8,8,8,8,8,8,8,8,8,8,8,8,8,8,8,8,8,8,8,8,8,8,8,8,8,8,8,8,8,8,8,8,8,8,8,8,8,8,8,8,8,8,8,8,8,8,8,8,8,8,8,8,8,8,8,8,8,8]⟩)) (.t 21)),qo 23 (.conv .i64 (.t 22)),qo 24 (.bin .add (.t 19) (.t 23)),qm 2 24])
 .ret))))) }
end Go.Ab
end
section
namespace Go.Ab
def A_cmp_Compare_int:AFun:={ res:=[.t 4],body:=(.seq (.reg false [qo 4 (.mv (.c (.i .i64 0)))])
 (.seq (.reg false [qm 7 0,qo 8 (.call .pure (.c (.fn 266 [] [])) [.t 7]),qm 5 8])
 (.seq (.reg false [qm 9 1,qo 10 (.call .pure (.c (.fn 266 [] [])) [.t 9]),qm 6 10])
 (.seq (.seq (.reg false [qm 11 5])
 (.cond (.t 11) (.seq (.seq (.reg false [qm 12 6])
 (.cond (.t 12) (.seq (.reg false [qo 4 (.mv (.c (.i .i64 0)))])
 .ret)
 .skip))
 (.seq (.reg false [qo 4 (.mv (.c (.i .i64 (-1))))])
 .ret))
 .skip))
 (.seq (.seq (.reg false [qm 13 6])
 (.cond (.t 13) (.seq (.reg false [qo 4 (.mv (.c (.i .i64 1)))])
 .ret)
 .skip))
 (.seq (.seq (.reg false [qm 14 0,qm 15 1,qo 16 (.bin .lss (.t 14) (.t 15))])
 (.cond (.t 16) (.seq (.reg false [qo 4 (.mv (.c (.i .i64 (-1))))])
 .ret)
 .skip))
 (.seq (.seq (.reg false [qm 17 0,qm 18 1,qo 19 (.bin .gtr (.t 17) (.t 18))])
 (.cond (.t 19) (.seq (.reg false [qo 4 (.mv (.c (.i .i64 1)))])
 .ret)
 .skip))
 (.seq (.reg false [qo 4 (.mv (.c (.i .i64 0)))])
 .ret)))))))) }
def A_cmp_Or_int:AFun:={ res:=[.t 2],body:=(.seq (.reg false [qo 2 (.mv (.c (.i .i64 0)))])
 (.seq (.reg false [qo 3 (.mv (.c (.i .i64 0)))])
 (.seq (.seq (.reg false [qm 6 0,qo 7 (.len (.t 6)),qo 8 (.mv (.c (.i .i64 0)))])
 (.blk 0 (.loop (.seq (.reg false [qo 9 (.bin .lss (.t 8) (.t 7))])
 (.seq (.cond (.t 9) .skip
 (.ext 0))
 (.seq (.blk 1 (.seq (.reg false [qo 10 (.ia 1 (.t 6) (.t 8)),qo 11 (.ld none (.t 10)),qm 5 11])
 (.seq (.reg false [qm 12 5,qm 13 3,qo 14 (.bin .neq (.t 12) (.t 13))])
 (.cond (.t 14) (.seq (.reg false [qm 15 5,qm 2 15])
 .ret)
 .skip))))
 (.reg false [qo 16 (.bin .add (.t 8) (.c (.i .i64 1))),qm 8 16])))))))
 (.seq (.reg false [qm 17 3,qm 2 17])
 .ret)))) }
def A_cmp_isNaN_int:AFun:={ res:=[.t 2],body:=(.seq (.reg false [qo 2 (.mv (.c (.b false)))])
 (.seq (.reg false [qm 3 0,qm 4 0,qo 5 (.bin .neq (.t 3) (.t 4)),qm 2 5])
 .ret)) }
structure Pk_cmp (F:Funs):Prop where
 cmp_Compare_int:F 248 = some A_cmp_Compare_int
 cmp_Or_int:F 249 = some A_cmp_Or_int
 cmp_isNaN_int:F 266 = some A_cmp_isNaN_int
end Go.Ab
end
section
namespace Go.Ab
def A_mem_Final:AFun:={ res:=[.t 2],body:=(.seq (.reg false [qo 1 (.box (.t 0)),qo 2 (.mv (.c (.sl [] 0 .rig)))])
 (.seq (.reg false [qo 3 (.mv (.c (.sl [] 0 .rig)))])
 (.seq (.seq (.reg false [qo 8 (.fa 3 (.t 1)),qo 9 (.ld none (.t 8)),qo 10 (.len (.t 9)),qo 11 (.mv (.c (.i .i64 0)))])
 (.blk 0 (.loop (.seq (.reg false [qo 12 (.bin .lss (.t 11) (.t 10))])
 (.seq (.cond (.t 12) .skip
 (.ext 0))
 (.seq (.blk 1 (.seq (.reg false [qo 13 (.ia 1 (.t 9) (.t 11)),qo 14 (.ld none (.t 13)),qm 5 14])
 (.seq (.reg false [qo 6 (.mv (.c (.i .i64 0)))])
 (.seq (.seq (.reg false [qm 15 5,qo 16 (.len (.t 15)),qm 7 16])
 (.seq (.reg true [qm 17 7,qo 18 (.bin .gtr (.t 17) (.c (.i .i64 0))),qm 19 18,qg 20 (.mv (.t 5)) 19 true,qg 21 (.mv (.t 7)) 19 true,qg 22 (.bin .sub (.t 21) (.c (.i .i64 1))) 19 true,qg 23 (.ia 1 (.t 20) (.t 22)) 19 true,qg 24 (.ld none (.t 23)) 19 true,qg 25 (.bin .geq (.t 24) (.c (.i .i64 0))) 19 true,qo 26 (.pick (.t 19) (.t 25) (.c (.b false))),qm 27 26,qg 28 (.mv (.t 5)) 27 true,qg 29 (.mv (.t 7)) 27 true,qg 30 (.bin .sub (.t 29) (.c (.i .i64 1))) 27 true,qg 31 (.ia 1 (.t 28) (.t 30)) 27 true,qg 32 (.ld none (.t 31)) 27 true,qg 33 (.fa 1 (.t 1)) 27 true,qg 34 (.ld none (.t 33)) 27 true,qg 35 (.len (.t 34)) 27 true,qg 36 (.bin .lss (.t 32) (.t 35)) 27 true,qo 37 (.pick (.t 27) (.t 36) (.c (.b false)))])
 (.cond (.t 37) (.reg true [qo 38 (.fa 1 (.t 1)),qo 39 (.ld none (.t 38)),qm 40 5,qm 41 7,qo 42 (.bin .sub (.t 41) (.c (.i .i64 1))),qo 43 (.ia 1 (.t 40) (.t 42)),qo 44 (.ld none (.t 43)),qo 45 (.ia 6 (.t 39) (.t 44)),qo 46 (.fa 4 (.t 45)),qo 47 (.ld none (.t 46)),qm 6 47])
 .skip)))
 (.reg false [qm 48 3,qm 49 6,qo 50 (.bsl true 1 ([.i .i64 0]) [(0,1,.t 49)]),qo 51 (.app 1 8 (.t 48) (.t 50)),qm 3 51])))))
 (.reg false [qo 52 (.bin .add (.t 11) (.c (.i .i64 1))),qm 11 52])))))))
 (.seq (.reg false [qm 53 3,qm 2 53])
 .ret)))) }
def A_mem_Sort:AFun:={ res:=[.t 2],body:=(.seq (.reg false [qo 2 (.mv (.c (.sl [] 0 .rig)))])
 (.seq (.reg false [qo 3 (.mv (.c (.sl [] 0 .rig)))])
 (.seq (.seq (.reg false [qm 6 0,qo 7 (.len (.t 6)),qo 8 (.mv (.c (.i .i64 0)))])
 (.blk 0 (.loop (.seq (.reg false [qo 9 (.bin .lss (.t 8) (.t 7))])
 (.seq (.cond (.t 9) .skip
 (.ext 0))
 (.seq (.blk 1 (.seq (.reg false [qo 10 (.ia 1 (.t 6) (.t 8)),qo 11 (.ld none (.t 10)),qm 5 11])
 (.reg false [qm 12 3,qm 13 5,qo 14 (.call .pure (.c (.fn 373 [] [])) [.t 13]),qo 15 (.bsl true 1 ([.sl [] 0 .rig]) [(0,1,.t 14)]),qo 16 (.appM 1 24 (.t 12) (.t 15)),qm 3 16])))
 (.reg false [qo 17 (.bin .add (.t 8) (.c (.i .i64 1))),qm 8 17])))))))
 (.seq (.reg false [qm 18 3,qo 19 (.call .raw (.c (.fn 374 [] [])) [.t 18,.c (.fn 326 [] [])])])
 (.seq (.reg false [qm 20 3,qo 21 (.call .raw (.c (.fn 375 [] [])) [.t 20,.c (.fn 327 [] [])]),qm 2 21])
 .ret))))) }
def A_mem_Has:AFun:={ res:=[.t 4],body:=(.seq (.reg false [qo 3 (.box (.t 1)),qo 4 (.mv (.c (.b false)))])
 (.seq (.reg false [qm 5 0,qo 6 (.mkfn 328 [] [.t 3]),qo 7 (.call .pure (.c (.fn 376 [] [])) [.t 5,.t 6]),qm 4 7])
 .ret)) }
def A_mem_In:AFun:={ res:=[.t 4],body:=(.seq (.reg false [qo 3 (.box (.t 1)),qo 4 (.mv (.c (.b false)))])
 (.seq (.reg false [qm 5 0,qo 6 (.mkfn 329 [] [.t 3]),qo 7 (.call .pure (.c (.fn 376 [] [])) [.t 5,.t 6]),qo 8 (.un .not (.t 7)),qm 4 8])
 .ret)) }
def A_mem_compare_int:AFun:={ res:=[.t 4],body:=(.seq (.reg false [qo 4 (.mv (.c (.i .i64 0)))])
 (.seq (.reg false [qm 5 0,qm 6 1,qo 7 (.call .pure (.c (.fn 377 [] [])) [.t 5,.t 6]),qm 4 7])
 .ret)) }
def A_mem_same_int:AFun:={ res:=[.t 4],body:=(.seq (.reg false [qo 4 (.mv (.c (.b false)))])
 (.seq (.reg false [qm 5 0,qm 6 1,qo 7 (.call .pure (.c (.fn 326 [] [])) [.t 5,.t 6]),qo 8 (.bin .eql (.t 7) (.c (.i .i64 0))),qm 4 8])
 .ret)) }
def A_mem_Has_1:AFun:={ res:=[.t 3],body:=(.seq (.reg false [qo 3 (.mv (.c (.b false)))])
 (.seq (.reg false [qm 4 0,qo 5 (.ld none (.t 1)),qo 6 (.call .pure (.c (.fn 327 [] [])) [.t 4,.t 5]),qm 3 6])
 .ret)) }
def A_mem_In_1:AFun:={ res:=[.t 3],body:=(.seq (.reg false [qo 3 (.mv (.c (.b false)))])
 (.seq (.reg false [qo 4 (.ld none (.t 1)),qm 5 0,qo 6 (.call .pure (.c (.fn 299 [] [])) [.t 4,.t 5]),qo 7 (.un .not (.t 6)),qm 3 7])
 .ret)) }
end Go.Ab
end
section
namespace Go.Ab
def A_slices_SortFunc_llint_lint:AFun:={ res:=[],body:=(.seq (.reg false [qm 5 0,qo 6 (.len (.t 5)),qm 4 6])
 (.reg false [qm 7 0,qm 8 4,qm 9 4,qo 10 (.conv .u64 (.t 9)),qo 11 (.call .pure (.c (.fn 421 [] [])) [.t 10]),qm 12 1,qo 13 (.call .raw (.c (.fn 422 [] [])) [.t 7,.c (.i .i64 0),.t 8,.t 11,.t 12])])) }
def A_slices_CompactFunc_llint_lint:AFun:={ res:=[.t 4],body:=(.seq (.reg false [qo 4 (.mv (.c (.sl [] 0 .rig)))])
 (.seq (.seq (.reg false [qm 8 0,qo 9 (.len (.t 8)),qo 10 (.bin .lss (.t 9) (.c (.i .i64 2)))])
 (.cond (.t 10) (.seq (.reg false [qm 11 0,qm 4 11])
 .ret)
 .skip))
 (.seq (.seq (.reg false [qo 5 (.mv (.c (.i .i64 1)))])
 (.blk 0 (.loop (.seq (.seq (.reg false [qm 12 5,qm 13 0,qo 14 (.len (.t 13)),qo 15 (.bin .lss (.t 12) (.t 14))])
 (.cond (.t 15) .skip
 (.ext 0)))
 (.seq (.blk 1 (.seq (.reg true [qm 18 1,qm 19 0,qm 20 5,qo 21 (.ia 1 (.t 19) (.t 20)),qo 22 (.ld none (.t 21)),qm 23 0,qm 24 5,qo 25 (.bin .sub (.t 24) (.c (.i .i64 1))),qo 26 (.ia 1 (.t 23) (.t 25)),qo 27 (.ld none (.t 26)),qo 28 (.call .pure (.t 18) [.t 22,.t 27])])
 (.cond (.t 28) (.seq (.reg false [qm 29 0,qm 30 5,qo 31 (.slice 1 (.t 29) (some (.t 30)) none none),qm 6 31])
 (.seq (.seq (.reg false [qo 7 (.mv (.c (.i .i64 1)))])
 (.blk 2 (.loop (.seq (.seq (.reg false [qm 32 7,qm 33 6,qo 34 (.len (.t 33)),qo 35 (.bin .lss (.t 32) (.t 34))])
 (.cond (.t 35) .skip
 (.ext 2)))
 (.seq (.blk 3 (.seq (.reg true [qm 38 1,qm 39 6,qm 40 7,qo 41 (.ia 1 (.t 39) (.t 40)),qo 42 (.ld none (.t 41)),qm 43 6,qm 44 7,qo 45 (.bin .sub (.t 44) (.c (.i .i64 1))),qo 46 (.ia 1 (.t 43) (.t 45)),qo 47 (.ld none (.t 46)),qo 48 (.call .pure (.t 38) [.t 42,.t 47]),qo 49 (.un .not (.t 48))])
 (.cond (.t 49) (.seq (.reg false [qm 50 0,qm 51 5,qm 52 6,qm 53 7,qo 54 (.ia 1 (.t 52) (.t 53)),qo 55 (.ld none (.t 54)),qo 56 (.ia 1 (.t 50) (.t 51)),qn (.st 1 (.t 56) (.t 55))])
 (.reg false [qm 57 5,qo 58 (.bin .add (.t 57) (.c (.i .i64 1))),qm 5 58]))
 .skip)))
 (.reg false [qm 36 7,qo 37 (.bin .add (.t 36) (.c (.i .i64 1))),qm 7 37]))))))
 (.seq (.reg false [qm 59 0,qm 60 5,qo 61 (.slice 1 (.t 59) (some (.t 60)) none none),qn (.clr 1 ([.sl [] 0 .rig]) (.t 61))])
 (.seq (.reg false [qm 62 0,qm 63 5,qo 64 (.cutM 1 (.t 62) (.t 63)),qm 4 64])
 .ret))))
 .skip)))
 (.reg false [qm 16 5,qo 17 (.bin .add (.t 16) (.c (.i .i64 1))),qm 5 17]))))))
 (.seq (.reg false [qm 65 0,qm 4 65])
 .ret)))) }
def A_slices_ContainsFunc_llint_lint:AFun:={ res:=[.t 4],body:=(.seq (.reg false [qo 4 (.mv (.c (.b false)))])
 (.seq (.reg false [qm 5 0,qm 6 1,qo 7 (.call .pure (.c (.fn 423 [] [])) [.t 5,.t 6]),qo 8 (.bin .geq (.t 7) (.c (.i .i64 0))),qm 4 8])
 .ret)) }
def A_slices_Compare_lint_int:AFun:={ res:=[.t 4],body:=(.seq (.reg false [qo 4 (.mv (.c (.i .i64 0)))])
 (.seq (.seq (.reg false [qm 9 0,qo 10 (.len (.t 9)),qo 11 (.mv (.c (.i .i64 0)))])
 (.blk 0 (.loop (.seq (.reg false [qo 12 (.bin .lss (.t 11) (.t 10))])
 (.seq (.cond (.t 12) .skip
 (.ext 0))
 (.seq (.blk 1 (.seq (.reg false [qm 13 11,qo 14 (.ia 1 (.t 9) (.t 11)),qo 15 (.ld none (.t 14)),qm 5 13,qm 6 15])
 (.seq (.seq (.reg false [qm 16 5,qm 17 1,qo 18 (.len (.t 17)),qo 19 (.bin .geq (.t 16) (.t 18))])
 (.cond (.t 19) (.seq (.reg false [qo 4 (.mv (.c (.i .i64 1)))])
 .ret)
 .skip))
 (.seq (.reg false [qm 20 1,qm 21 5,qo 22 (.ia 1 (.t 20) (.t 21)),qo 23 (.ld none (.t 22)),qm 7 23])
 (.seq (.reg false [qm 24 6,qm 25 7,qo 26 (.call .pure (.c (.fn 248 [] [])) [.t 24,.t 25]),qm 8 26])
 (.seq (.reg false [qm 27 8,qo 28 (.bin .neq (.t 27) (.c (.i .i64 0)))])
 (.cond (.t 28) (.seq (.reg false [qm 29 8,qm 4 29])
 .ret)
 .skip)))))))
 (.reg false [qo 30 (.bin .add (.t 11) (.c (.i .i64 1))),qm 11 30])))))))
 (.seq (.seq (.reg false [qm 31 0,qo 32 (.len (.t 31)),qm 33 1,qo 34 (.len (.t 33)),qo 35 (.bin .lss (.t 32) (.t 34))])
 (.cond (.t 35) (.seq (.reg false [qo 4 (.mv (.c (.i .i64 (-1))))])
 .ret)
 .skip))
 (.seq (.reg false [qo 4 (.mv (.c (.i .i64 0)))])
 .ret)))) }
def A_slices_pdqsortCmpFunc_lint:AFun:={ res:=[],body:=(.seq (.reg false [qo 10 (.mv (.c (.b true)))])
 (.seq (.reg false [qo 11 (.mv (.c (.b true)))])
 (.blk 0 (.loop (.blk 1 (.seq (.reg false [qm 21 2,qm 22 1,qo 23 (.bin .sub (.t 21) (.t 22)),qm 12 23])
 (.seq (.seq (.reg false [qm 24 12,qo 25 (.bin .leq (.t 24) (.c (.i .i64 12)))])
 (.cond (.t 25) (.seq (.reg false [qm 26 0,qm 27 1,qm 28 2,qm 29 4,qo 30 (.call .raw (.c (.fn 434 [] [])) [.t 26,.t 27,.t 28,.t 29])])
 .ret)
 .skip))
 (.seq (.seq (.reg false [qm 31 3,qo 32 (.bin .eql (.t 31) (.c (.i .i64 0)))])
 (.cond (.t 32) (.seq (.reg false [qm 33 0,qm 34 1,qm 35 2,qm 36 4,qo 37 (.call .pure (.c (.fn 435 [] [])) [.t 33,.t 34,.t 35,.t 36])])
 .ret)
 .skip))
 (.seq (.seq (.reg false [qm 38 10,qo 39 (.un .not (.t 38))])
 (.cond (.t 39) (.seq (.reg false [qm 40 0,qm 41 1,qm 42 2,qm 43 4,qo 44 (.call .pure (.c (.fn 436 [] [])) [.t 40,.t 41,.t 42,.t 43])])
 (.reg false [qm 45 3,qo 46 (.bin .sub (.t 45) (.c (.i .i64 1))),qm 3 46]))
 .skip))
 (.seq (.reg false [qm 48 0,qm 49 1,qm 50 2,qm 51 4,qo 52 (.call .pure (.c (.fn 437 [] [])) [.t 48,.t 49,.t 50,.t 51]),qm 47 52,qo 53 (.ext 0 (.t 47)),qo 54 (.ext 1 (.t 47)),qm 13 53,qm 14 54])
 (.seq (.seq (.reg false [qm 55 14,qo 56 (.bin .eql (.t 55) (.c (.i .i64 2)))])
 (.cond (.t 56) (.seq (.reg false [qm 57 0,qm 58 1,qm 59 2,qm 60 4,qo 61 (.call .pure (.c (.fn 438 [] [])) [.t 57,.t 58,.t 59,.t 60])])
 (.seq (.reg false [qm 62 2,qo 63 (.bin .sub (.t 62) (.c (.i .i64 1))),qm 64 13,qm 65 1,qo 66 (.bin .sub (.t 64) (.t 65)),qo 67 (.bin .sub (.t 63) (.t 66)),qm 13 67])
 (.reg false [qo 14 (.mv (.c (.i .i64 1)))])))
 .skip))
 (.seq (.seq (.reg false [qm 68 10,qm 69 68,qg 70 (.mv (.t 11)) 69 true,qo 71 (.pick (.t 69) (.t 70) (.c (.b false))),qm 72 71,qg 73 (.mv (.t 14)) 72 true,qg 74 (.bin .eql (.t 73) (.c (.i .i64 1))) 72 true,qo 75 (.pick (.t 72) (.t 74) (.c (.b false)))])
 (.cond (.t 75) (.seq (.reg false [qm 76 0,qm 77 1,qm 78 2,qm 79 4,qo 80 (.call .pure (.c (.fn 439 [] [])) [.t 76,.t 77,.t 78,.t 79])])
 (.cond (.t 80) .ret
 .skip))
 .skip))
 (.seq (.seq (.reg true [qm 81 1,qo 82 (.bin .gtr (.t 81) (.c (.i .i64 0))),qm 83 82,qg 84 (.mv (.t 4)) 83 true,qg 85 (.mv (.t 0)) 83 true,qg 86 (.mv (.t 1)) 83 true,qg 87 (.bin .sub (.t 86) (.c (.i .i64 1))) 83 true,qg 88 (.ia 1 (.t 85) (.t 87)) 83 true,qg 89 (.ld none (.t 88)) 83 true,qg 90 (.mv (.t 0)) 83 true,qg 91 (.mv (.t 13)) 83 true,qg 92 (.ia 1 (.t 90) (.t 91)) 83 true,qg 93 (.ld none (.t 92)) 83 true,qg 94 (.call .pure (.t 84) [.t 89,.t 93]) 83 true,qg 95 (.bin .lss (.t 94) (.c (.i .i64 0))) 83 true,qg 96 (.un .not (.t 95)) 83 true,qo 97 (.pick (.t 83) (.t 96) (.c (.b false)))])
 (.cond (.t 97) (.seq (.reg false [qm 98 0,qm 99 1,qm 100 2,qm 101 13,qm 102 4,qo 103 (.call .pure (.c (.fn 440 [] [])) [.t 98,.t 99,.t 100,.t 101,.t 102]),qm 15 103])
 (.seq (.reg false [qm 104 15,qm 1 104])
 (.ext 1)))
 .skip))
 (.seq (.reg false [qm 106 0,qm 107 1,qm 108 2,qm 109 13,qm 110 4,qo 111 (.call .pure (.c (.fn 441 [] [])) [.t 106,.t 107,.t 108,.t 109,.t 110]),qm 105 111,qo 112 (.ext 0 (.t 105)),qo 113 (.ext 1 (.t 105)),qm 16 112,qm 17 113])
 (.seq (.reg false [qm 114 17,qm 11 114])
 (.seq (.reg false [qm 115 16,qm 116 1,qo 117 (.bin .sub (.t 115) (.t 116)),qm 118 2,qm 119 16,qo 120 (.bin .sub (.t 118) (.t 119)),qm 18 117,qm 19 120])
 (.seq (.reg false [qm 121 12,qo 122 (.bin .quo (.t 121) (.c (.i .i64 8))),qm 20 122])
 (.seq (.reg false [qm 123 18,qm 124 19,qo 125 (.bin .lss (.t 123) (.t 124))])
 (.cond (.t 125) (.seq (.reg false [qm 126 18,qm 127 20,qo 128 (.bin .geq (.t 126) (.t 127)),qm 10 128])
 (.seq (.reg false [qm 129 0,qm 130 1,qm 131 16,qm 132 3,qm 133 4,qo 134 (.call .pure (.c (.fn 422 [] [])) [.t 129,.t 130,.t 131,.t 132,.t 133])])
 (.reg false [qm 135 16,qo 136 (.bin .add (.t 135) (.c (.i .i64 1))),qm 1 136])))
 (.seq (.reg false [qm 137 19,qm 138 20,qo 139 (.bin .geq (.t 137) (.t 138)),qm 10 139])
 (.seq (.reg false [qm 140 0,qm 141 16,qo 142 (.bin .add (.t 141) (.c (.i .i64 1))),qm 143 2,qm 144 3,qm 145 4,qo 146 (.call .pure (.c (.fn 422 [] [])) [.t 140,.t 142,.t 143,.t 144,.t 145])])
 (.reg false [qm 147 16,qm 2 147])))))))))))))))))))))) }
def A_slices_IndexFunc_llint_lint:AFun:={ res:=[.t 4],body:=(.seq (.reg false [qo 4 (.mv (.c (.i .i64 0)))])
 (.seq (.seq (.reg false [qm 6 0,qo 7 (.len (.t 6)),qo 8 (.mv (.c (.i .i64 0)))])
 (.blk 0 (.loop (.seq (.reg false [qo 9 (.bin .lss (.t 8) (.t 7))])
 (.seq (.cond (.t 9) .skip
 (.ext 0))
 (.seq (.blk 1 (.seq (.reg false [qm 10 8,qm 5 10])
 (.seq (.reg false [qm 11 1,qm 12 0,qm 13 5,qo 14 (.ia 1 (.t 12) (.t 13)),qo 15 (.ld none (.t 14)),qo 16 (.call .pure (.t 11) [.t 15])])
 (.cond (.t 16) (.seq (.reg false [qm 17 5,qm 4 17])
 .ret)
 .skip))))
 (.reg false [qo 18 (.bin .add (.t 8) (.c (.i .i64 1))),qm 8 18])))))))
 (.seq (.reg false [qo 4 (.mv (.c (.i .i64 (-1))))])
 .ret))) }
def A_slices_insertionSortCmpFunc_lint:AFun:={ res:=[],body:=(.seq (.reg false [qm 10 1,qo 11 (.bin .add (.t 10) (.c (.i .i64 1))),qm 8 11])
 (.blk 0 (.loop (.seq (.seq (.reg false [qm 12 8,qm 13 2,qo 14 (.bin .lss (.t 12) (.t 13))])
 (.cond (.t 14) .skip
 (.ext 0)))
 (.seq (.blk 1 (.seq (.reg false [qm 17 8,qm 9 17])
 (.blk 2 (.loop (.seq (.seq (.reg true [qm 18 9,qm 19 1,qo 20 (.bin .gtr (.t 18) (.t 19)),qm 21 20,qg 22 (.mv (.t 3)) 21 true,qg 23 (.mv (.t 0)) 21 true,qg 24 (.mv (.t 9)) 21 true,qg 25 (.ia 1 (.t 23) (.t 24)) 21 true,qg 26 (.ld none (.t 25)) 21 true,qg 27 (.mv (.t 0)) 21 true,qg 28 (.mv (.t 9)) 21 true,qg 29 (.bin .sub (.t 28) (.c (.i .i64 1))) 21 true,qg 30 (.ia 1 (.t 27) (.t 29)) 21 true,qg 31 (.ld none (.t 30)) 21 true,qg 32 (.call .pure (.t 22) [.t 26,.t 31]) 21 true,qg 33 (.bin .lss (.t 32) (.c (.i .i64 0))) 21 true,qo 34 (.pick (.t 21) (.t 33) (.c (.b false)))])
 (.cond (.t 34) .skip
 (.ext 2)))
 (.seq (.blk 3 (.reg true [qm 37 0,qm 38 9,qm 39 0,qm 40 9,qo 41 (.bin .sub (.t 40) (.c (.i .i64 1))),qm 42 0,qm 43 9,qo 44 (.bin .sub (.t 43) (.c (.i .i64 1))),qo 45 (.ia 1 (.t 42) (.t 44)),qo 46 (.ld none (.t 45)),qm 47 0,qm 48 9,qo 49 (.ia 1 (.t 47) (.t 48)),qo 50 (.ld none (.t 49)),qo 51 (.ia 1 (.t 37) (.t 38)),qn (.st 1 (.t 51) (.t 46)),qo 52 (.ia 1 (.t 39) (.t 41)),qn (.st 1 (.t 52) (.t 50))]))
 (.reg false [qm 35 9,qo 36 (.bin .sub (.t 35) (.c (.i .i64 1))),qm 9 36])))))))
 (.reg false [qm 15 8,qo 16 (.bin .add (.t 15) (.c (.i .i64 1))),qm 8 16])))))) }
def A_slices_heapSortCmpFunc_lint:AFun:={ res:=[],body:=(.seq (.reg false [qm 13 1,qm 8 13])
 (.seq (.reg false [qo 9 (.mv (.c (.i .i64 0)))])
 (.seq (.reg false [qm 14 2,qm 15 1,qo 16 (.bin .sub (.t 14) (.t 15)),qm 10 16])
 (.seq (.seq (.reg false [qm 17 10,qo 18 (.bin .sub (.t 17) (.c (.i .i64 1))),qo 19 (.bin .quo (.t 18) (.c (.i .i64 2))),qm 11 19])
 (.blk 0 (.loop (.seq (.seq (.reg false [qm 20 11,qo 21 (.bin .geq (.t 20) (.c (.i .i64 0)))])
 (.cond (.t 21) .skip
 (.ext 0)))
 (.seq (.blk 1 (.reg false [qm 24 0,qm 25 11,qm 26 10,qm 27 8,qm 28 3,qo 29 (.call .pure (.c (.fn 447 [] [])) [.t 24,.t 25,.t 26,.t 27,.t 28])]))
 (.reg false [qm 22 11,qo 23 (.bin .sub (.t 22) (.c (.i .i64 1))),qm 11 23]))))))
 (.seq (.reg false [qm 30 10,qo 31 (.bin .sub (.t 30) (.c (.i .i64 1))),qm 12 31])
 (.blk 2 (.loop (.seq (.seq (.reg false [qm 32 12,qo 33 (.bin .geq (.t 32) (.c (.i .i64 0)))])
 (.cond (.t 33) .skip
 (.ext 2)))
 (.seq (.blk 3 (.seq (.reg true [qm 36 0,qm 37 8,qm 38 0,qm 39 8,qm 40 12,qo 41 (.bin .add (.t 39) (.t 40)),qm 42 0,qm 43 8,qm 44 12,qo 45 (.bin .add (.t 43) (.t 44)),qo 46 (.ia 1 (.t 42) (.t 45)),qo 47 (.ld none (.t 46)),qm 48 0,qm 49 8,qo 50 (.ia 1 (.t 48) (.t 49)),qo 51 (.ld none (.t 50)),qo 52 (.ia 1 (.t 36) (.t 37)),qn (.st 1 (.t 52) (.t 47)),qo 53 (.ia 1 (.t 38) (.t 41)),qn (.st 1 (.t 53) (.t 51))])
 (.reg false [qm 54 0,qm 55 9,qm 56 12,qm 57 8,qm 58 3,qo 59 (.call .pure (.c (.fn 447 [] [])) [.t 54,.t 55,.t 56,.t 57,.t 58])])))
 (.reg false [qm 34 12,qo 35 (.bin .sub (.t 34) (.c (.i .i64 1))),qm 12 35])))))))))) }
def A_slices_breakPatternsCmpFunc_lint:AFun:={ res:=[],body:=(.seq (.reg false [qm 13 2,qm 14 1,qo 15 (.bin .sub (.t 13) (.t 14)),qm 8 15])
 (.seq (.reg false [qm 16 8,qo 17 (.bin .geq (.t 16) (.c (.i .i64 8)))])
 (.cond (.t 17) (.seq (.reg false [qm 18 8,qo 19 (.conv .u64 (.t 18)),qo 9 (.new ([.i .u64 0])),qn (.st 1 (.t 9) (.t 19))])
 (.seq (.reg false [qm 20 8,qo 21 (.call .pure (.c (.fn 443 [] [])) [.t 20]),qm 10 21])
 (.seq (.reg false [qm 22 1,qm 23 8,qo 24 (.bin .quo (.t 23) (.c (.i .i64 4))),qo 25 (.bin .mul (.t 24) (.c (.i .i64 2))),qo 26 (.bin .add (.t 22) (.t 25)),qo 27 (.bin .sub (.t 26) (.c (.i .i64 1))),qm 11 27])
 (.blk 0 (.loop (.seq (.seq (.reg false [qm 28 11,qm 29 1,qm 30 8,qo 31 (.bin .quo (.t 30) (.c (.i .i64 4))),qo 32 (.bin .mul (.t 31) (.c (.i .i64 2))),qo 33 (.bin .add (.t 29) (.t 32)),qo 34 (.bin .add (.t 33) (.c (.i .i64 1))),qo 35 (.bin .leq (.t 28) (.t 34))])
 (.cond (.t 35) .skip
 (.ext 0)))
 (.seq (.blk 1 (.seq (.reg false [qo 38 (.call .pure (.c (.fn 444 [] [])) [.t 9]),qm 39 10,qo 40 (.bin .sub (.t 39) (.c (.i .u64 1))),qo 41 (.bin .and (.t 38) (.t 40)),qo 42 (.conv .i64 (.t 41)),qm 12 42])
 (.seq (.seq (.reg false [qm 43 12,qm 44 8,qo 45 (.bin .geq (.t 43) (.t 44))])
 (.cond (.t 45) (.reg false [qm 46 12,qm 47 8,qo 48 (.bin .sub (.t 46) (.t 47)),qm 12 48])
 .skip))
 (.reg true [qm 49 0,qm 50 11,qm 51 0,qm 52 1,qm 53 12,qo 54 (.bin .add (.t 52) (.t 53)),qm 55 0,qm 56 1,qm 57 12,qo 58 (.bin .add (.t 56) (.t 57)),qo 59 (.ia 1 (.t 55) (.t 58)),qo 60 (.ld none (.t 59)),qm 61 0,qm 62 11,qo 63 (.ia 1 (.t 61) (.t 62)),qo 64 (.ld none (.t 63)),qo 65 (.ia 1 (.t 49) (.t 50)),qn (.st 1 (.t 65) (.t 60)),qo 66 (.ia 1 (.t 51) (.t 54)),qn (.st 1 (.t 66) (.t 64))]))))
 (.reg false [qm 36 11,qo 37 (.bin .add (.t 36) (.c (.i .i64 1))),qm 11 37]))))))))
 .skip))) }
def A_slices_choosePivotCmpFunc_lint:AFun:={ res:=[.t 8,.t 9],body:=(.seq (.reg false [qo 8 (.mv (.c (.i .i64 0))),qo 9 (.mv (.c (.i .i64 0)))])
 (.seq (.reg false [qm 15 2,qm 16 1,qo 17 (.bin .sub (.t 15) (.t 16)),qm 10 17])
 (.seq (.reg false [qo 11 (.new ([.i .i64 0]))])
 (.seq (.reg false [qm 18 1,qm 19 10,qo 20 (.bin .quo (.t 19) (.c (.i .i64 4))),qo 21 (.bin .mul (.t 20) (.c (.i .i64 1))),qo 22 (.bin .add (.t 18) (.t 21)),qm 12 22])
 (.seq (.reg false [qm 23 1,qm 24 10,qo 25 (.bin .quo (.t 24) (.c (.i .i64 4))),qo 26 (.bin .mul (.t 25) (.c (.i .i64 2))),qo 27 (.bin .add (.t 23) (.t 26)),qm 13 27])
 (.seq (.reg false [qm 28 1,qm 29 10,qo 30 (.bin .quo (.t 29) (.c (.i .i64 4))),qo 31 (.bin .mul (.t 30) (.c (.i .i64 3))),qo 32 (.bin .add (.t 28) (.t 31)),qm 14 32])
 (.seq (.seq (.reg false [qm 33 10,qo 34 (.bin .geq (.t 33) (.c (.i .i64 8)))])
 (.cond (.t 34) (.seq (.seq (.reg false [qm 35 10,qo 36 (.bin .geq (.t 35) (.c (.i .i64 50)))])
 (.cond (.t 36) (.seq (.reg false [qm 37 0,qm 38 12,qm 39 3,qo 40 (.call .pure (.c (.fn 448 [] [])) [.t 37,.t 38,.t 11,.t 39]),qm 12 40])
 (.seq (.reg false [qm 41 0,qm 42 13,qm 43 3,qo 44 (.call .pure (.c (.fn 448 [] [])) [.t 41,.t 42,.t 11,.t 43]),qm 13 44])
 (.reg false [qm 45 0,qm 46 14,qm 47 3,qo 48 (.call .pure (.c (.fn 448 [] [])) [.t 45,.t 46,.t 11,.t 47]),qm 14 48])))
 .skip))
 (.reg false [qm 49 0,qm 50 12,qm 51 13,qm 52 14,qm 53 3,qo 54 (.call .pure (.c (.fn 449 [] [])) [.t 49,.t 50,.t 51,.t 52,.t 11,.t 53]),qm 13 54]))
 .skip))
 (.seq (.reg false [qo 55 (.ld none (.t 11))])
 (.blk 0 (.seq (.reg false [qo 58 (.bin .eql (.t 55) (.c (.i .i64 0))),qm 57 58])
 (.cond (.t 57) (.seq (.reg false [qm 59 13,qm 8 59,qo 9 (.mv (.c (.i .i64 1)))])
 .ret)
 (.seq (.reg false [qo 61 (.bin .eql (.t 55) (.c (.i .i64 12))),qm 60 61])
 (.cond (.t 60) (.seq (.reg false [qm 62 13,qm 8 62,qo 9 (.mv (.c (.i .i64 2)))])
 .ret)
 (.seq (.reg false [qm 56 13,qm 8 56,qo 9 (.mv (.c (.i .i64 0)))])
 .ret)))))))))))))) }
def A_slices_reverseRangeCmpFunc_lint:AFun:={ res:=[],body:=(.seq (.reg false [qm 10 1,qm 8 10])
 (.seq (.reg false [qm 11 2,qo 12 (.bin .sub (.t 11) (.c (.i .i64 1))),qm 9 12])
 (.blk 0 (.loop (.seq (.seq (.reg false [qm 13 8,qm 14 9,qo 15 (.bin .lss (.t 13) (.t 14))])
 (.cond (.t 15) .skip
 (.ext 0)))
 (.blk 1 (.seq (.reg true [qm 16 0,qm 17 8,qm 18 0,qm 19 9,qm 20 0,qm 21 9,qo 22 (.ia 1 (.t 20) (.t 21)),qo 23 (.ld none (.t 22)),qm 24 0,qm 25 8,qo 26 (.ia 1 (.t 24) (.t 25)),qo 27 (.ld none (.t 26)),qo 28 (.ia 1 (.t 16) (.t 17)),qn (.st 1 (.t 28) (.t 23)),qo 29 (.ia 1 (.t 18) (.t 19)),qn (.st 1 (.t 29) (.t 27))])
 (.seq (.reg false [qm 30 8,qo 31 (.bin .add (.t 30) (.c (.i .i64 1))),qm 8 31])
 (.reg false [qm 32 9,qo 33 (.bin .sub (.t 32) (.c (.i .i64 1))),qm 9 33]))))))))) }
def A_slices_partialInsertionSortCmpFunc_lint:AFun:={ res:=[.t 8],body:=(.seq (.reg false [qo 8 (.mv (.c (.b false)))])
 (.seq (.reg false [qm 13 1,qo 14 (.bin .add (.t 13) (.c (.i .i64 1))),qm 9 14])
 (.seq (.seq (.reg false [qo 10 (.mv (.c (.i .i64 0)))])
 (.blk 0 (.loop (.seq (.seq (.reg false [qm 15 10,qo 16 (.bin .lss (.t 15) (.c (.i .i64 5)))])
 (.cond (.t 16) .skip
 (.ext 0)))
 (.seq (.blk 1 (.seq (.blk 2 (.loop (.seq (.seq (.reg true [qm 19 9,qm 20 2,qo 21 (.bin .lss (.t 19) (.t 20)),qm 22 21,qg 23 (.mv (.t 3)) 22 true,qg 24 (.mv (.t 0)) 22 true,qg 25 (.mv (.t 9)) 22 true,qg 26 (.ia 1 (.t 24) (.t 25)) 22 true,qg 27 (.ld none (.t 26)) 22 true,qg 28 (.mv (.t 0)) 22 true,qg 29 (.mv (.t 9)) 22 true,qg 30 (.bin .sub (.t 29) (.c (.i .i64 1))) 22 true,qg 31 (.ia 1 (.t 28) (.t 30)) 22 true,qg 32 (.ld none (.t 31)) 22 true,qg 33 (.call .pure (.t 23) [.t 27,.t 32]) 22 true,qg 34 (.bin .lss (.t 33) (.c (.i .i64 0))) 22 true,qg 35 (.un .not (.t 34)) 22 true,qo 36 (.pick (.t 22) (.t 35) (.c (.b false)))])
 (.cond (.t 36) .skip
 (.ext 2)))
 (.blk 3 (.reg false [qm 37 9,qo 38 (.bin .add (.t 37) (.c (.i .i64 1))),qm 9 38])))))
 (.seq (.seq (.reg false [qm 39 9,qm 40 2,qo 41 (.bin .eql (.t 39) (.t 40))])
 (.cond (.t 41) (.seq (.reg false [qo 8 (.mv (.c (.b true)))])
 .ret)
 .skip))
 (.seq (.seq (.reg false [qm 42 2,qm 43 1,qo 44 (.bin .sub (.t 42) (.t 43)),qo 45 (.bin .lss (.t 44) (.c (.i .i64 50)))])
 (.cond (.t 45) (.seq (.reg false [qo 8 (.mv (.c (.b false)))])
 .ret)
 .skip))
 (.seq (.reg true [qm 46 0,qm 47 9,qm 48 0,qm 49 9,qo 50 (.bin .sub (.t 49) (.c (.i .i64 1))),qm 51 0,qm 52 9,qo 53 (.bin .sub (.t 52) (.c (.i .i64 1))),qo 54 (.ia 1 (.t 51) (.t 53)),qo 55 (.ld none (.t 54)),qm 56 0,qm 57 9,qo 58 (.ia 1 (.t 56) (.t 57)),qo 59 (.ld none (.t 58)),qo 60 (.ia 1 (.t 46) (.t 47)),qn (.st 1 (.t 60) (.t 55)),qo 61 (.ia 1 (.t 48) (.t 50)),qn (.st 1 (.t 61) (.t 59))])
 (.seq (.seq (.reg false [qm 62 9,qm 63 1,qo 64 (.bin .sub (.t 62) (.t 63)),qo 65 (.bin .geq (.t 64) (.c (.i .i64 2)))])
 (.cond (.t 65) (.seq (.reg false [qm 66 9,qo 67 (.bin .sub (.t 66) (.c (.i .i64 1))),qm 11 67])
 (.blk 4 (.loop (.seq (.seq (.reg false [qm 68 11,qo 69 (.bin .geq (.t 68) (.c (.i .i64 1)))])
 (.cond (.t 69) .skip
 (.ext 4)))
 (.seq (.blk 5 (.seq (.seq (.reg true [qm 72 3,qm 73 0,qm 74 11,qo 75 (.ia 1 (.t 73) (.t 74)),qo 76 (.ld none (.t 75)),qm 77 0,qm 78 11,qo 79 (.bin .sub (.t 78) (.c (.i .i64 1))),qo 80 (.ia 1 (.t 77) (.t 79)),qo 81 (.ld none (.t 80)),qo 82 (.call .pure (.t 72) [.t 76,.t 81]),qo 83 (.bin .lss (.t 82) (.c (.i .i64 0))),qo 84 (.un .not (.t 83))])
 (.cond (.t 84) (.ext 4)
 .skip))
 (.reg true [qm 85 0,qm 86 11,qm 87 0,qm 88 11,qo 89 (.bin .sub (.t 88) (.c (.i .i64 1))),qm 90 0,qm 91 11,qo 92 (.bin .sub (.t 91) (.c (.i .i64 1))),qo 93 (.ia 1 (.t 90) (.t 92)),qo 94 (.ld none (.t 93)),qm 95 0,qm 96 11,qo 97 (.ia 1 (.t 95) (.t 96)),qo 98 (.ld none (.t 97)),qo 99 (.ia 1 (.t 85) (.t 86)),qn (.st 1 (.t 99) (.t 94)),qo 100 (.ia 1 (.t 87) (.t 89)),qn (.st 1 (.t 100) (.t 98))])))
 (.reg false [qm 70 11,qo 71 (.bin .sub (.t 70) (.c (.i .i64 1))),qm 11 71]))))))
 .skip))
 (.seq (.reg false [qm 101 2,qm 102 9,qo 103 (.bin .sub (.t 101) (.t 102)),qo 104 (.bin .geq (.t 103) (.c (.i .i64 2)))])
 (.cond (.t 104) (.seq (.reg false [qm 105 9,qo 106 (.bin .add (.t 105) (.c (.i .i64 1))),qm 12 106])
 (.blk 6 (.loop (.seq (.seq (.reg false [qm 107 12,qm 108 2,qo 109 (.bin .lss (.t 107) (.t 108))])
 (.cond (.t 109) .skip
 (.ext 6)))
 (.seq (.blk 7 (.seq (.seq (.reg true [qm 112 3,qm 113 0,qm 114 12,qo 115 (.ia 1 (.t 113) (.t 114)),qo 116 (.ld none (.t 115)),qm 117 0,qm 118 12,qo 119 (.bin .sub (.t 118) (.c (.i .i64 1))),qo 120 (.ia 1 (.t 117) (.t 119)),qo 121 (.ld none (.t 120)),qo 122 (.call .pure (.t 112) [.t 116,.t 121]),qo 123 (.bin .lss (.t 122) (.c (.i .i64 0))),qo 124 (.un .not (.t 123))])
 (.cond (.t 124) (.ext 6)
 .skip))
 (.reg true [qm 125 0,qm 126 12,qm 127 0,qm 128 12,qo 129 (.bin .sub (.t 128) (.c (.i .i64 1))),qm 130 0,qm 131 12,qo 132 (.bin .sub (.t 131) (.c (.i .i64 1))),qo 133 (.ia 1 (.t 130) (.t 132)),qo 134 (.ld none (.t 133)),qm 135 0,qm 136 12,qo 137 (.ia 1 (.t 135) (.t 136)),qo 138 (.ld none (.t 137)),qo 139 (.ia 1 (.t 125) (.t 126)),qn (.st 1 (.t 139) (.t 134)),qo 140 (.ia 1 (.t 127) (.t 129)),qn (.st 1 (.t 140) (.t 138))])))
 (.reg false [qm 110 12,qo 111 (.bin .add (.t 110) (.c (.i .i64 1))),qm 12 111]))))))
 .skip))))))))
 (.reg false [qm 17 10,qo 18 (.bin .add (.t 17) (.c (.i .i64 1))),qm 10 18]))))))
 (.seq (.reg false [qo 8 (.mv (.c (.b false)))])
 .ret)))) }
def A_slices_partitionEqualCmpFunc_lint:AFun:={ res:=[.t 10],body:=(.seq (.reg false [qo 10 (.mv (.c (.i .i64 0)))])
 (.seq (.reg true [qm 13 0,qm 14 1,qm 15 0,qm 16 3,qm 17 0,qm 18 3,qo 19 (.ia 1 (.t 17) (.t 18)),qo 20 (.ld none (.t 19)),qm 21 0,qm 22 1,qo 23 (.ia 1 (.t 21) (.t 22)),qo 24 (.ld none (.t 23)),qo 25 (.ia 1 (.t 13) (.t 14)),qn (.st 1 (.t 25) (.t 20)),qo 26 (.ia 1 (.t 15) (.t 16)),qn (.st 1 (.t 26) (.t 24))])
 (.seq (.reg false [qm 27 1,qo 28 (.bin .add (.t 27) (.c (.i .i64 1))),qm 29 2,qo 30 (.bin .sub (.t 29) (.c (.i .i64 1))),qm 11 28,qm 12 30])
 (.seq (.blk 0 (.loop (.blk 1 (.seq (.blk 2 (.loop (.seq (.seq (.reg true [qm 31 11,qm 32 12,qo 33 (.bin .leq (.t 31) (.t 32)),qm 34 33,qg 35 (.mv (.t 4)) 34 true,qg 36 (.mv (.t 0)) 34 true,qg 37 (.mv (.t 1)) 34 true,qg 38 (.ia 1 (.t 36) (.t 37)) 34 true,qg 39 (.ld none (.t 38)) 34 true,qg 40 (.mv (.t 0)) 34 true,qg 41 (.mv (.t 11)) 34 true,qg 42 (.ia 1 (.t 40) (.t 41)) 34 true,qg 43 (.ld none (.t 42)) 34 true,qg 44 (.call .pure (.t 35) [.t 39,.t 43]) 34 true,qg 45 (.bin .lss (.t 44) (.c (.i .i64 0))) 34 true,qg 46 (.un .not (.t 45)) 34 true,qo 47 (.pick (.t 34) (.t 46) (.c (.b false)))])
 (.cond (.t 47) .skip
 (.ext 2)))
 (.blk 3 (.reg false [qm 48 11,qo 49 (.bin .add (.t 48) (.c (.i .i64 1))),qm 11 49])))))
 (.seq (.blk 4 (.loop (.seq (.seq (.reg true [qm 50 11,qm 51 12,qo 52 (.bin .leq (.t 50) (.t 51)),qm 53 52,qg 54 (.mv (.t 4)) 53 true,qg 55 (.mv (.t 0)) 53 true,qg 56 (.mv (.t 1)) 53 true,qg 57 (.ia 1 (.t 55) (.t 56)) 53 true,qg 58 (.ld none (.t 57)) 53 true,qg 59 (.mv (.t 0)) 53 true,qg 60 (.mv (.t 12)) 53 true,qg 61 (.ia 1 (.t 59) (.t 60)) 53 true,qg 62 (.ld none (.t 61)) 53 true,qg 63 (.call .pure (.t 54) [.t 58,.t 62]) 53 true,qg 64 (.bin .lss (.t 63) (.c (.i .i64 0))) 53 true,qo 65 (.pick (.t 53) (.t 64) (.c (.b false)))])
 (.cond (.t 65) .skip
 (.ext 4)))
 (.blk 5 (.reg false [qm 66 12,qo 67 (.bin .sub (.t 66) (.c (.i .i64 1))),qm 12 67])))))
 (.seq (.seq (.reg false [qm 68 11,qm 69 12,qo 70 (.bin .gtr (.t 68) (.t 69))])
 (.cond (.t 70) (.ext 0)
 .skip))
 (.seq (.reg true [qm 71 0,qm 72 11,qm 73 0,qm 74 12,qm 75 0,qm 76 12,qo 77 (.ia 1 (.t 75) (.t 76)),qo 78 (.ld none (.t 77)),qm 79 0,qm 80 11,qo 81 (.ia 1 (.t 79) (.t 80)),qo 82 (.ld none (.t 81)),qo 83 (.ia 1 (.t 71) (.t 72)),qn (.st 1 (.t 83) (.t 78)),qo 84 (.ia 1 (.t 73) (.t 74)),qn (.st 1 (.t 84) (.t 82))])
 (.seq (.reg false [qm 85 11,qo 86 (.bin .add (.t 85) (.c (.i .i64 1))),qm 11 86])
 (.reg false [qm 87 12,qo 88 (.bin .sub (.t 87) (.c (.i .i64 1))),qm 12 88])))))))))
 (.seq (.reg false [qm 89 11,qm 10 89])
 .ret))))) }
def A_slices_partitionCmpFunc_lint:AFun:={ res:=[.t 10,.t 11],body:=(.seq (.reg false [qo 10 (.mv (.c (.i .i64 0))),qo 11 (.mv (.c (.b false)))])
 (.seq (.reg true [qm 14 0,qm 15 1,qm 16 0,qm 17 3,qm 18 0,qm 19 3,qo 20 (.ia 1 (.t 18) (.t 19)),qo 21 (.ld none (.t 20)),qm 22 0,qm 23 1,qo 24 (.ia 1 (.t 22) (.t 23)),qo 25 (.ld none (.t 24)),qo 26 (.ia 1 (.t 14) (.t 15)),qn (.st 1 (.t 26) (.t 21)),qo 27 (.ia 1 (.t 16) (.t 17)),qn (.st 1 (.t 27) (.t 25))])
 (.seq (.reg false [qm 28 1,qo 29 (.bin .add (.t 28) (.c (.i .i64 1))),qm 30 2,qo 31 (.bin .sub (.t 30) (.c (.i .i64 1))),qm 12 29,qm 13 31])
 (.seq (.blk 0 (.loop (.seq (.seq (.reg true [qm 32 12,qm 33 13,qo 34 (.bin .leq (.t 32) (.t 33)),qm 35 34,qg 36 (.mv (.t 4)) 35 true,qg 37 (.mv (.t 0)) 35 true,qg 38 (.mv (.t 12)) 35 true,qg 39 (.ia 1 (.t 37) (.t 38)) 35 true,qg 40 (.ld none (.t 39)) 35 true,qg 41 (.mv (.t 0)) 35 true,qg 42 (.mv (.t 1)) 35 true,qg 43 (.ia 1 (.t 41) (.t 42)) 35 true,qg 44 (.ld none (.t 43)) 35 true,qg 45 (.call .pure (.t 36) [.t 40,.t 44]) 35 true,qg 46 (.bin .lss (.t 45) (.c (.i .i64 0))) 35 true,qo 47 (.pick (.t 35) (.t 46) (.c (.b false)))])
 (.cond (.t 47) .skip
 (.ext 0)))
 (.blk 1 (.reg false [qm 48 12,qo 49 (.bin .add (.t 48) (.c (.i .i64 1))),qm 12 49])))))
 (.seq (.blk 2 (.loop (.seq (.seq (.reg true [qm 50 12,qm 51 13,qo 52 (.bin .leq (.t 50) (.t 51)),qm 53 52,qg 54 (.mv (.t 4)) 53 true,qg 55 (.mv (.t 0)) 53 true,qg 56 (.mv (.t 13)) 53 true,qg 57 (.ia 1 (.t 55) (.t 56)) 53 true,qg 58 (.ld none (.t 57)) 53 true,qg 59 (.mv (.t 0)) 53 true,qg 60 (.mv (.t 1)) 53 true,qg 61 (.ia 1 (.t 59) (.t 60)) 53 true,qg 62 (.ld none (.t 61)) 53 true,qg 63 (.call .pure (.t 54) [.t 58,.t 62]) 53 true,qg 64 (.bin .lss (.t 63) (.c (.i .i64 0))) 53 true,qg 65 (.un .not (.t 64)) 53 true,qo 66 (.pick (.t 53) (.t 65) (.c (.b false)))])
 (.cond (.t 66) .skip
 (.ext 2)))
 (.blk 3 (.reg false [qm 67 13,qo 68 (.bin .sub (.t 67) (.c (.i .i64 1))),qm 13 68])))))
 (.seq (.seq (.reg false [qm 69 12,qm 70 13,qo 71 (.bin .gtr (.t 69) (.t 70))])
 (.cond (.t 71) (.seq (.reg true [qm 72 0,qm 73 13,qm 74 0,qm 75 1,qm 76 0,qm 77 1,qo 78 (.ia 1 (.t 76) (.t 77)),qo 79 (.ld none (.t 78)),qm 80 0,qm 81 13,qo 82 (.ia 1 (.t 80) (.t 81)),qo 83 (.ld none (.t 82)),qo 84 (.ia 1 (.t 72) (.t 73)),qn (.st 1 (.t 84) (.t 79)),qo 85 (.ia 1 (.t 74) (.t 75)),qn (.st 1 (.t 85) (.t 83))])
 (.seq (.reg false [qm 86 13,qm 10 86,qo 11 (.mv (.c (.b true)))])
 .ret))
 .skip))
 (.seq (.reg true [qm 87 0,qm 88 12,qm 89 0,qm 90 13,qm 91 0,qm 92 13,qo 93 (.ia 1 (.t 91) (.t 92)),qo 94 (.ld none (.t 93)),qm 95 0,qm 96 12,qo 97 (.ia 1 (.t 95) (.t 96)),qo 98 (.ld none (.t 97)),qo 99 (.ia 1 (.t 87) (.t 88)),qn (.st 1 (.t 99) (.t 94)),qo 100 (.ia 1 (.t 89) (.t 90)),qn (.st 1 (.t 100) (.t 98))])
 (.seq (.reg false [qm 101 12,qo 102 (.bin .add (.t 101) (.c (.i .i64 1))),qm 12 102])
 (.seq (.reg false [qm 103 13,qo 104 (.bin .sub (.t 103) (.c (.i .i64 1))),qm 13 104])
 (.seq (.blk 4 (.loop (.blk 5 (.seq (.blk 6 (.loop (.seq (.seq (.reg true [qm 105 12,qm 106 13,qo 107 (.bin .leq (.t 105) (.t 106)),qm 108 107,qg 109 (.mv (.t 4)) 108 true,qg 110 (.mv (.t 0)) 108 true,qg 111 (.mv (.t 12)) 108 true,qg 112 (.ia 1 (.t 110) (.t 111)) 108 true,qg 113 (.ld none (.t 112)) 108 true,qg 114 (.mv (.t 0)) 108 true,qg 115 (.mv (.t 1)) 108 true,qg 116 (.ia 1 (.t 114) (.t 115)) 108 true,qg 117 (.ld none (.t 116)) 108 true,qg 118 (.call .pure (.t 109) [.t 113,.t 117]) 108 true,qg 119 (.bin .lss (.t 118) (.c (.i .i64 0))) 108 true,qo 120 (.pick (.t 108) (.t 119) (.c (.b false)))])
 (.cond (.t 120) .skip
 (.ext 6)))
 (.blk 7 (.reg false [qm 121 12,qo 122 (.bin .add (.t 121) (.c (.i .i64 1))),qm 12 122])))))
 (.seq (.blk 8 (.loop (.seq (.seq (.reg true [qm 123 12,qm 124 13,qo 125 (.bin .leq (.t 123) (.t 124)),qm 126 125,qg 127 (.mv (.t 4)) 126 true,qg 128 (.mv (.t 0)) 126 true,qg 129 (.mv (.t 13)) 126 true,qg 130 (.ia 1 (.t 128) (.t 129)) 126 true,qg 131 (.ld none (.t 130)) 126 true,qg 132 (.mv (.t 0)) 126 true,qg 133 (.mv (.t 1)) 126 true,qg 134 (.ia 1 (.t 132) (.t 133)) 126 true,qg 135 (.ld none (.t 134)) 126 true,qg 136 (.call .pure (.t 127) [.t 131,.t 135]) 126 true,qg 137 (.bin .lss (.t 136) (.c (.i .i64 0))) 126 true,qg 138 (.un .not (.t 137)) 126 true,qo 139 (.pick (.t 126) (.t 138) (.c (.b false)))])
 (.cond (.t 139) .skip
 (.ext 8)))
 (.blk 9 (.reg false [qm 140 13,qo 141 (.bin .sub (.t 140) (.c (.i .i64 1))),qm 13 141])))))
 (.seq (.seq (.reg false [qm 142 12,qm 143 13,qo 144 (.bin .gtr (.t 142) (.t 143))])
 (.cond (.t 144) (.ext 4)
 .skip))
 (.seq (.reg true [qm 145 0,qm 146 12,qm 147 0,qm 148 13,qm 149 0,qm 150 13,qo 151 (.ia 1 (.t 149) (.t 150)),qo 152 (.ld none (.t 151)),qm 153 0,qm 154 12,qo 155 (.ia 1 (.t 153) (.t 154)),qo 156 (.ld none (.t 155)),qo 157 (.ia 1 (.t 145) (.t 146)),qn (.st 1 (.t 157) (.t 152)),qo 158 (.ia 1 (.t 147) (.t 148)),qn (.st 1 (.t 158) (.t 156))])
 (.seq (.reg false [qm 159 12,qo 160 (.bin .add (.t 159) (.c (.i .i64 1))),qm 12 160])
 (.reg false [qm 161 13,qo 162 (.bin .sub (.t 161) (.c (.i .i64 1))),qm 13 162])))))))))
 (.seq (.reg true [qm 163 0,qm 164 13,qm 165 0,qm 166 1,qm 167 0,qm 168 1,qo 169 (.ia 1 (.t 167) (.t 168)),qo 170 (.ld none (.t 169)),qm 171 0,qm 172 13,qo 173 (.ia 1 (.t 171) (.t 172)),qo 174 (.ld none (.t 173)),qo 175 (.ia 1 (.t 163) (.t 164)),qn (.st 1 (.t 175) (.t 170)),qo 176 (.ia 1 (.t 165) (.t 166)),qn (.st 1 (.t 176) (.t 174))])
 (.seq (.reg false [qm 177 13,qm 10 177,qo 11 (.mv (.c (.b false)))])
 .ret)))))))))))) }
def A_slices_nextPowerOfTwo:AFun:={ res:=[.t 2],body:=(.seq (.reg false [qo 2 (.mv (.c (.i .u64 0)))])
 (.seq (.reg false [qm 3 0,qo 4 (.conv .u64 (.t 3)),qo 5 (.call .pure (.c (.fn 421 [] [])) [.t 4]),qo 6 (.bin .shl (.c (.i .u64 1)) (.t 5)),qm 2 6])
 .ret)) }
def A_slices_xorshift_Next:AFun:={ res:=[.t 2],body:=(.seq (.reg false [qo 2 (.mv (.c (.i .u64 0)))])
 (.seq (.reg true [qm 3 0,qo 4 (.nilck (.t 3)),qo 5 (.ld none (.t 4)),qm 6 0,qo 7 (.nilck (.t 6)),qo 8 (.ld none (.t 7)),qo 9 (.bin .shl (.t 8) (.c (.i .u64 13))),qo 10 (.bin .xor (.t 5) (.t 9)),qo 11 (.nilck (.t 3)),qn (.st 1 (.t 11) (.t 10))])
 (.seq (.reg true [qm 12 0,qo 13 (.nilck (.t 12)),qo 14 (.ld none (.t 13)),qm 15 0,qo 16 (.nilck (.t 15)),qo 17 (.ld none (.t 16)),qo 18 (.bin .shr (.t 17) (.c (.i .u64 7))),qo 19 (.bin .xor (.t 14) (.t 18)),qo 20 (.nilck (.t 12)),qn (.st 1 (.t 20) (.t 19))])
 (.seq (.reg true [qm 21 0,qo 22 (.nilck (.t 21)),qo 23 (.ld none (.t 22)),qm 24 0,qo 25 (.nilck (.t 24)),qo 26 (.ld none (.t 25)),qo 27 (.bin .shl (.t 26) (.c (.i .u64 17))),qo 28 (.bin .xor (.t 23) (.t 27)),qo 29 (.nilck (.t 21)),qn (.st 1 (.t 29) (.t 28))])
 (.seq (.reg false [qm 30 0,qo 31 (.nilck (.t 30)),qo 32 (.ld none (.t 31)),qm 2 32])
 .ret))))) }
def A_slices_siftDownCmpFunc_lint:AFun:={ res:=[],body:=(.seq (.reg false [qm 12 1,qm 10 12])
 (.blk 0 (.loop (.blk 1 (.seq (.reg false [qm 13 10,qo 14 (.bin .mul (.c (.i .i64 2)) (.t 13)),qo 15 (.bin .add (.t 14) (.c (.i .i64 1))),qm 11 15])
 (.seq (.seq (.reg false [qm 16 11,qm 17 2,qo 18 (.bin .geq (.t 16) (.t 17))])
 (.cond (.t 18) (.ext 0)
 .skip))
 (.seq (.seq (.reg true [qm 19 11,qo 20 (.bin .add (.t 19) (.c (.i .i64 1))),qm 21 2,qo 22 (.bin .lss (.t 20) (.t 21)),qm 23 22,qg 24 (.mv (.t 4)) 23 true,qg 25 (.mv (.t 0)) 23 true,qg 26 (.mv (.t 3)) 23 true,qg 27 (.mv (.t 11)) 23 true,qg 28 (.bin .add (.t 26) (.t 27)) 23 true,qg 29 (.ia 1 (.t 25) (.t 28)) 23 true,qg 30 (.ld none (.t 29)) 23 true,qg 31 (.mv (.t 0)) 23 true,qg 32 (.mv (.t 3)) 23 true,qg 33 (.mv (.t 11)) 23 true,qg 34 (.bin .add (.t 32) (.t 33)) 23 true,qg 35 (.bin .add (.t 34) (.c (.i .i64 1))) 23 true,qg 36 (.ia 1 (.t 31) (.t 35)) 23 true,qg 37 (.ld none (.t 36)) 23 true,qg 38 (.call .pure (.t 24) [.t 30,.t 37]) 23 true,qg 39 (.bin .lss (.t 38) (.c (.i .i64 0))) 23 true,qo 40 (.pick (.t 23) (.t 39) (.c (.b false)))])
 (.cond (.t 40) (.reg false [qm 41 11,qo 42 (.bin .add (.t 41) (.c (.i .i64 1))),qm 11 42])
 .skip))
 (.seq (.seq (.reg true [qm 43 4,qm 44 0,qm 45 3,qm 46 10,qo 47 (.bin .add (.t 45) (.t 46)),qo 48 (.ia 1 (.t 44) (.t 47)),qo 49 (.ld none (.t 48)),qm 50 0,qm 51 3,qm 52 11,qo 53 (.bin .add (.t 51) (.t 52)),qo 54 (.ia 1 (.t 50) (.t 53)),qo 55 (.ld none (.t 54)),qo 56 (.call .pure (.t 43) [.t 49,.t 55]),qo 57 (.bin .lss (.t 56) (.c (.i .i64 0))),qo 58 (.un .not (.t 57))])
 (.cond (.t 58) .ret
 .skip))
 (.seq (.reg true [qm 59 0,qm 60 3,qm 61 10,qo 62 (.bin .add (.t 60) (.t 61)),qm 63 0,qm 64 3,qm 65 11,qo 66 (.bin .add (.t 64) (.t 65)),qm 67 0,qm 68 3,qm 69 11,qo 70 (.bin .add (.t 68) (.t 69)),qo 71 (.ia 1 (.t 67) (.t 70)),qo 72 (.ld none (.t 71)),qm 73 0,qm 74 3,qm 75 10,qo 76 (.bin .add (.t 74) (.t 75)),qo 77 (.ia 1 (.t 73) (.t 76)),qo 78 (.ld none (.t 77)),qo 79 (.ia 1 (.t 59) (.t 62)),qn (.st 1 (.t 79) (.t 72)),qo 80 (.ia 1 (.t 63) (.t 66)),qn (.st 1 (.t 80) (.t 78))])
 (.reg false [qm 81 11,qm 10 81])))))))))) }
def A_slices_medianAdjacentCmpFunc_lint:AFun:={ res:=[.t 8],body:=(.seq (.reg false [qo 8 (.mv (.c (.i .i64 0)))])
 (.seq (.reg false [qm 9 0,qm 10 1,qo 11 (.bin .sub (.t 10) (.c (.i .i64 1))),qm 12 1,qm 13 1,qo 14 (.bin .add (.t 13) (.c (.i .i64 1))),qm 15 2,qm 16 3,qo 17 (.call .pure (.c (.fn 449 [] [])) [.t 9,.t 11,.t 12,.t 14,.t 15,.t 16]),qm 8 17])
 .ret)) }
def A_slices_medianCmpFunc_lint:AFun:={ res:=[.t 12],body:=(.seq (.reg false [qo 12 (.mv (.c (.i .i64 0)))])
 (.seq (.reg false [qm 14 0,qm 15 1,qm 16 2,qm 17 4,qm 18 5,qo 19 (.call .pure (.c (.fn 451 [] [])) [.t 14,.t 15,.t 16,.t 17,.t 18]),qm 13 19,qo 20 (.ext 0 (.t 13)),qo 21 (.ext 1 (.t 13)),qm 1 20,qm 2 21])
 (.seq (.reg false [qm 23 0,qm 24 2,qm 25 3,qm 26 4,qm 27 5,qo 28 (.call .pure (.c (.fn 451 [] [])) [.t 23,.t 24,.t 25,.t 26,.t 27]),qm 22 28,qo 29 (.ext 0 (.t 22)),qo 30 (.ext 1 (.t 22)),qm 2 29,qm 3 30])
 (.seq (.reg false [qm 32 0,qm 33 1,qm 34 2,qm 35 4,qm 36 5,qo 37 (.call .pure (.c (.fn 451 [] [])) [.t 32,.t 33,.t 34,.t 35,.t 36]),qm 31 37,qo 38 (.ext 0 (.t 31)),qo 39 (.ext 1 (.t 31)),qm 1 38,qm 2 39])
 (.seq (.reg false [qm 40 2,qm 12 40])
 .ret))))) }
def A_slices_order2CmpFunc_lint:AFun:={ res:=[.t 10,.t 11],body:=(.seq (.reg false [qo 10 (.mv (.c (.i .i64 0))),qo 11 (.mv (.c (.i .i64 0)))])
 (.seq (.seq (.reg true [qm 12 4,qm 13 0,qm 14 2,qo 15 (.ia 1 (.t 13) (.t 14)),qo 16 (.ld none (.t 15)),qm 17 0,qm 18 1,qo 19 (.ia 1 (.t 17) (.t 18)),qo 20 (.ld none (.t 19)),qo 21 (.call .pure (.t 12) [.t 16,.t 20]),qo 22 (.bin .lss (.t 21) (.c (.i .i64 0)))])
 (.cond (.t 22) (.seq (.reg false [qm 23 3,qo 24 (.nilck (.t 23)),qo 25 (.ld none (.t 24)),qo 26 (.bin .add (.t 25) (.c (.i .i64 1))),qo 27 (.nilck (.t 23)),qn (.st 1 (.t 27) (.t 26))])
 (.seq (.reg false [qm 28 2,qm 29 1,qm 10 28,qm 11 29])
 .ret))
 .skip))
 (.seq (.reg false [qm 30 1,qm 31 2,qm 10 30,qm 11 31])
 .ret))) }
end Go.Ab
end
section
set_option maxRecDepth 100000
set_option linter.unusedVariables false
namespace Go.Proofs.Ythpfjbakmedfiaa.Sm
open Go.Ab
def tab:List (Nat × Nat × AFun):=[(248,41,A_cmp_Compare_int),
 (266,47,A_cmp_isNaN_int),
 (326,20,A_mem_compare_int),
 (327,22,A_mem_same_int),
 (374,19,A_slices_SortFunc_llint_lint),
 (377,29,A_slices_Compare_lint_int),
 (421,28,A_math_bits_Len),
 (422,27,A_slices_pdqsortCmpFunc_lint),
 (432,39,A_math_bits_Len32),
 (433,40,A_math_bits_Len64),
 (434,31,A_slices_insertionSortCmpFunc_lint),
 (435,32,A_slices_heapSortCmpFunc_lint),
 (436,33,A_slices_breakPatternsCmpFunc_lint),
 (437,34,A_slices_choosePivotCmpFunc_lint),
 (438,35,A_slices_reverseRangeCmpFunc_lint),
 (439,36,A_slices_partialInsertionSortCmpFunc_lint),
 (440,37,A_slices_partitionEqualCmpFunc_lint),
 (441,38,A_slices_partitionCmpFunc_lint),
 (443,43,A_slices_nextPowerOfTwo),
 (444,44,A_slices_xorshift_Next),
 (447,42,A_slices_siftDownCmpFunc_lint),
 (448,45,A_slices_medianAdjacentCmpFunc_lint),
 (449,46,A_slices_medianCmpFunc_lint),
 (451,48,A_slices_order2CmpFunc_lint)]
def num (f:Nat):Nat:=((tab.find? (fun r => r.1 == f)).map (·.2.1)).getD 0
def funs:Funs:=fun f => (tab.find? (fun r => r.1 == f)).map (·.2.2)
theorem c248:funB Try.prog num Try.f41 A_cmp_Compare_int = true:=by kernel_rfl
theorem c266:funB Try.prog num Try.f47 A_cmp_isNaN_int = true:=by kernel_rfl
theorem c326:funB Try.prog num Try.f20 A_mem_compare_int = true:=by kernel_rfl
theorem c327:funB Try.prog num Try.f22 A_mem_same_int = true:=by kernel_rfl
theorem c374:funB Try.prog num Try.f19 A_slices_SortFunc_llint_lint = true:=by kernel_rfl
theorem c377:funB Try.prog num Try.f29 A_slices_Compare_lint_int = true:=by kernel_rfl
theorem c421:funB Try.prog num Try.f28 A_math_bits_Len = true:=by kernel_rfl
theorem c422:funB Try.prog num Try.f27 A_slices_pdqsortCmpFunc_lint = true:=by kernel_rfl
theorem c432:funB Try.prog num Try.f39 A_math_bits_Len32 = true:=by kernel_rfl
theorem c433:funB Try.prog num Try.f40 A_math_bits_Len64 = true:=by kernel_rfl
theorem c434:funB Try.prog num Try.f31 A_slices_insertionSortCmpFunc_lint = true:=by kernel_rfl
theorem c435:funB Try.prog num Try.f32 A_slices_heapSortCmpFunc_lint = true:=by kernel_rfl
theorem c436:funB Try.prog num Try.f33 A_slices_breakPatternsCmpFunc_lint = true:=by kernel_rfl
theorem c437:funB Try.prog num Try.f34 A_slices_choosePivotCmpFunc_lint = true:=by kernel_rfl
theorem c438:funB Try.prog num Try.f35 A_slices_reverseRangeCmpFunc_lint = true:=by kernel_rfl
theorem c439:funB Try.prog num Try.f36 A_slices_partialInsertionSortCmpFunc_lint = true:=by kernel_rfl
theorem c440:funB Try.prog num Try.f37 A_slices_partitionEqualCmpFunc_lint = true:=by kernel_rfl
theorem c441:funB Try.prog num Try.f38 A_slices_partitionCmpFunc_lint = true:=by kernel_rfl
theorem c443:funB Try.prog num Try.f43 A_slices_nextPowerOfTwo = true:=by kernel_rfl
theorem c444:funB Try.prog num Try.f44 A_slices_xorshift_Next = true:=by kernel_rfl
theorem c447:funB Try.prog num Try.f42 A_slices_siftDownCmpFunc_lint = true:=by kernel_rfl
theorem c448:funB Try.prog num Try.f45 A_slices_medianAdjacentCmpFunc_lint = true:=by kernel_rfl
theorem c449:funB Try.prog num Try.f46 A_slices_medianCmpFunc_lint = true:=by kernel_rfl
theorem c451:funB Try.prog num Try.f48 A_slices_order2CmpFunc_lint = true:=by kernel_rfl
def Good (r:Nat × Nat × AFun):Prop:=num r.1 = r.2.1∧∃ fn,Try.prog.funcs[r.2.1]? = some fn∧funB Try.prog num fn r.2.2 = true
theorem good:∀ r∈tab,Good r:=by
 intro r hr
 unfold tab at hr
 rcases List.mem_cons.1 hr with rfl | hr
 ·exact ⟨by kernel_rfl,_,Try.func41,c248⟩
 rcases List.mem_cons.1 hr with rfl | hr
 ·exact ⟨by kernel_rfl,_,Try.func47,c266⟩
 rcases List.mem_cons.1 hr with rfl | hr
 ·exact ⟨by kernel_rfl,_,Try.func20,c326⟩
 rcases List.mem_cons.1 hr with rfl | hr
 ·exact ⟨by kernel_rfl,_,Try.func22,c327⟩
 rcases List.mem_cons.1 hr with rfl | hr
 ·exact ⟨by kernel_rfl,_,Try.func19,c374⟩
 rcases List.mem_cons.1 hr with rfl | hr
 ·exact ⟨by kernel_rfl,_,Try.func29,c377⟩
 rcases List.mem_cons.1 hr with rfl | hr
 ·exact ⟨by kernel_rfl,_,Try.func28,c421⟩
 rcases List.mem_cons.1 hr with rfl | hr
 ·exact ⟨by kernel_rfl,_,Try.func27,c422⟩
 rcases List.mem_cons.1 hr with rfl | hr
 ·exact ⟨by kernel_rfl,_,Try.func39,c432⟩
 rcases List.mem_cons.1 hr with rfl | hr
 ·exact ⟨by kernel_rfl,_,Try.func40,c433⟩
 rcases List.mem_cons.1 hr with rfl | hr
 ·exact ⟨by kernel_rfl,_,Try.func31,c434⟩
 rcases List.mem_cons.1 hr with rfl | hr
 ·exact ⟨by kernel_rfl,_,Try.func32,c435⟩
 rcases List.mem_cons.1 hr with rfl | hr
 ·exact ⟨by kernel_rfl,_,Try.func33,c436⟩
 rcases List.mem_cons.1 hr with rfl | hr
 ·exact ⟨by kernel_rfl,_,Try.func34,c437⟩
 rcases List.mem_cons.1 hr with rfl | hr
 ·exact ⟨by kernel_rfl,_,Try.func35,c438⟩
 rcases List.mem_cons.1 hr with rfl | hr
 ·exact ⟨by kernel_rfl,_,Try.func36,c439⟩
 rcases List.mem_cons.1 hr with rfl | hr
 ·exact ⟨by kernel_rfl,_,Try.func37,c440⟩
 rcases List.mem_cons.1 hr with rfl | hr
 ·exact ⟨by kernel_rfl,_,Try.func38,c441⟩
 rcases List.mem_cons.1 hr with rfl | hr
 ·exact ⟨by kernel_rfl,_,Try.func43,c443⟩
 rcases List.mem_cons.1 hr with rfl | hr
 ·exact ⟨by kernel_rfl,_,Try.func44,c444⟩
 rcases List.mem_cons.1 hr with rfl | hr
 ·exact ⟨by kernel_rfl,_,Try.func42,c447⟩
 rcases List.mem_cons.1 hr with rfl | hr
 ·exact ⟨by kernel_rfl,_,Try.func45,c448⟩
 rcases List.mem_cons.1 hr with rfl | hr
 ·exact ⟨by kernel_rfl,_,Try.func46,c449⟩
 rcases List.mem_cons.1 hr with rfl | hr
 ·exact ⟨by kernel_rfl,_,Try.func48,c451⟩
 cases hr
theorem table:Table Try.prog num funs:=by
 intro f A h
 unfold funs at h
 cases hf:tab.find? (fun r => r.1 == f) with
 | none => rw[hf] at h;cases h
 | some r =>
   rw[hf] at h;cases h
   have h1:=List.find?_some hf
   simp only[beq_iff_eq] at h1
   subst h1
   obtain ⟨h2,h3⟩:=good r (List.mem_of_find?_eq_some hf)
   rw[h2];exact .inl h3
end Go.Proofs.Ythpfjbakmedfiaa.Sm
end
section
set_option linter.unusedVariables false
set_option linter.unusedSimpArgs false
namespace Go.Ab
open Go.RowKit
def ShR (S:List AV→Prop) (n:Nat) (asx:List AV):Prop:=∃ rows:List (List AV),rows.length = n∧asx = rows.flatten∧∀ r∈rows,S r
def ShL (S:TypeId→List AV→Prop):List TypeId→List AV→Prop
 | [],asx => asx = []
 | t :: ts,asx => ∃ a b,asx = a ++ b∧S t a∧ShL S ts b
def Sh (P:Program):Nat→TypeId→List AV→Prop
 | 0,_,_ => False
 | m + 1,t,asx => match P.underlying t with
   | some .bool => ∃ b,asx = [.b b]
   | some (.int k) => ∃ n,asx = [.i k n]∧(Lit.int k n).wf = true
   | some .string => ∃ s,asx = [.s s]∧s.size≤maxLen
   | some (.slice e) => ∃ cs n,asx = [.sl cs n .non]∧n≤maxLen∧ShR (Sh P m e) n cs
   | some (.pointer e) => asx = [.nilp]∨∃ cs,asx = [.ptr cs]∧Sh P m e cs
   | some (.struct fs) => ShL (Sh P m) (fs.toList.map (·.type)) asx
   | some (.array n e) => ShR (Sh P m e) n asx
   | _ => False
def fieldsOk (P:Program):Nat→List Field→Nat→Bool
 | o,[],n => o == n
 | o,f :: fs,n => (f.offset == o) && fieldsOk P (o + P.cellsOf f.type) fs n
def plainB (P:Program):Nat→TypeId→Bool
 | 0,_ => false
 | m + 1,t => match P.underlying t with
   | some .bool | some (.int _) | some .string => true
   | some (.slice e) => plainB P m e
   | some (.pointer e) => plainB P m e
   | some (.struct fs) => fieldsOk P 0 fs.toList (P.cellsOf t) && fs.toList.all (fun f => plainB P m f.type)
   | some (.array n e) => (P.cellsOf t == n * P.cellsOf e) && plainB P m e
   | _ => false
section
variable {H:Type} {enc:TypeId × Value→H} {P:Program} {c:Cx}
theorem add_add' (a:Addr) (m n:Nat):(a.add m).add n = a.add (m + n):=by
 unfold Addr.add
 by_cases hm:m = 0<;>by_cases hn:n = 0<;>simp[hm,hn,Nat.add_assoc]
theorem I_cell (hb:c.base = c.w.heap.size) (hJ:c.J = fun _ => True) {a:Addr} {v:Value} (h:c.w.cell? a = some v):c.I a:=.inl ⟨by rw[hb];exact block_lt_of_cell h,by rw[hJ];trivial⟩
theorem read_rows {S:List AV→Prop} {sz:Nat} {a:Addr} {n:Nat}
  (h:∀ i,i < n→∃ row rs,c.w.cells? 0 (a.add (i * sz)) sz = some row∧S rs∧Reps c false rs row∧∀ v∈row,v.oneCell' = true):
  ∃ cs vs,ShR S n cs∧Reps c false cs vs∧vs.length = n * sz∧(∀ v∈vs,v.oneCell' = true)∧∀ j,j < n * sz→c.w.cell? (a.add j) = vs[j]?:=by
 induction n with
 | zero => exact ⟨[],[],⟨[],rfl,rfl,fun _ h => by cases h⟩,Reps.nil,by simp,(fun v (h:v∈([]:List Value)) => by cases h),fun j hj => by omega⟩
 | succ n ih =>
   obtain ⟨cs,vs,⟨rows,hl,rfl,hS⟩,hR,hlen,h1,hcell⟩:=ih fun i hi => h i (by omega)
   obtain ⟨row,rs,hc,hSr,hRr,h1r⟩:=h n (by omega)
   obtain ⟨_,hrl,hrc⟩:=World.cells?_some hc
   refine ⟨_,vs ++ row,⟨rows ++ [rs],by simp[hl],rfl,?_⟩,?_,?_,?_,?_⟩
   ·intro r hr
    rcases List.mem_append.1 hr with hr | hr
    ·exact hS r hr
    ·rw[List.mem_singleton.1 hr];exact hSr
   ·simp only[List.flatten_append,List.flatten_cons,List.flatten_nil,List.append_nil]
    exact hR.append hRr
   ·rw[List.length_append,hlen,hrl,Nat.succ_mul]
   ·intro v hv
    rcases List.mem_append.1 hv with hv | hv
    ·exact h1 v hv
    ·exact h1r v hv
   ·intro j hj
    rw[Nat.succ_mul] at hj
    by_cases hjn:j < n * sz
    ·rw[List.getElem?_append_left (by omega)];exact hcell j hjn
    ·rw[List.getElem?_append_right (by omega),hlen,←hrc (j - n * sz) (by omega),add_add']
     rw[show n * sz + (j - n * sz) = j by omega]
theorem read_cells (hb:c.base = c.w.heap.size) (hJ:c.J = fun _ => True):∀ (m:Nat) {t:TypeId} {fuel:Nat} {cs:List Value} {x:DataW H × List MemPlace},
  plainB P m t = true→DataW.trod enc P c.w 0 (fun _ => true) true fuel t cs = some x→∃ asx,Sh P m t asx∧Reps c false asx cs∧∀ v∈cs,v.oneCell' = true
 | 0,_,_,_,_,h,_ => by simp[plainB] at h
 | m + 1,t,fuel,cs,x,hp,h => by
   have one:∀ {y:AV} {v:Value},Rep c false y v→v.oneCell' = true→Reps c false [y] [v]∧∀ u∈[v],u.oneCell' = true:=fun hr h1 =>
    ⟨Reps.cons hr Reps.nil,fun u hu => by rw[List.mem_singleton.1 hu];exact h1⟩
   simp only[plainB] at hp
   cases ht:P.underlying t with
   | none => rw[ht] at hp;cases hp
   | some d =>
     rw[ht] at hp
     cases d with
     | bool =>
       obtain ⟨b,rfl,_⟩:=DataW.trod_bool ht h
       exact ⟨[.b b],by simp only[Sh,ht];exact ⟨b,rfl⟩,one (.b b) rfl⟩
     | int k =>
       obtain ⟨n,rfl,_,hw⟩:=DataW.trod_int ht h
       exact ⟨[.i k n],by simp only[Sh,ht];exact ⟨n,rfl,hw⟩,one (.i k n) rfl⟩
     | string =>
       obtain ⟨s,rfl,_,hs⟩:=DataW.trod_string ht h
       exact ⟨[.s s],by simp only[Sh,ht];exact ⟨s,rfl,hs⟩,one (.s s) rfl⟩
     | slice e =>
       rcases DataW.trod_slice ht h with ⟨rfl,_⟩ | ⟨a,len,cap,elems,rest,n,rfl,rfl,_,_,hl,hm,hel,hget,_,_⟩
       ·refine ⟨[.sl [] 0 .non],by simp only[Sh,ht];exact ⟨[],0,rfl,Nat.zero_le _,[],rfl,rfl,fun _ h => by cases h⟩,one ?_ rfl⟩
        exact .sl ⟨0,0,none⟩ [] (Nat.le_refl _) (Nat.zero_le _) (fun h => by cases h) (fun _ _ _ h => by cases h) (fun h => by omega) (fun _ h => by cases h) rfl (fun h => absurd rfl h) (fun j v h => by simp at h) (fun j x v h => by simp at h) (fun _ _ h => by cases h)
       ·obtain ⟨asx,vs,hS,hR,hlen,h1,hcell⟩:=read_rows (c:=c) (S:=Sh P m e) (sz:=P.cellsOf e) (a:=a) (n:=len) fun i hi => by
         have hg:=hget i hi
         cases hc:c.w.cells? 0 (a.add (i * P.cellsOf e)) (P.cellsOf e) with
         | none => rw[hc] at hg;simp at hg;omega
         | some row =>
           rw[hc,Option.bind_some,List.getElem?_eq_getElem (by omega)] at hg
           obtain ⟨rs,h1,h2,h3⟩:=read_cells hb hJ m hp hg
           exact ⟨row,rs,rfl,h1,h2,h3⟩
        have hk:∀ (j:Nat) v,vs[j]? = some v→c.I (a.add j)∧c.w.cell? (a.add j) = some v:=fun j v hv => by
         have hj:j < len * P.cellsOf e:=by rw[←hlen];exact (List.getElem?_eq_some_iff.1 hv).1
         have:=(hcell j hj).trans hv
         exact ⟨I_cell hb hJ this,this⟩
        refine ⟨[.sl asx len .non],by simp only[Sh,ht];exact ⟨asx,len,rfl,by omega,hS⟩,one ?_ rfl⟩
        exact .sl a vs hl hm (fun h => by cases h) (fun _ _ _ h => by cases h) (fun _ => rfl) h1 hR.1 (fun _ => rfl) hk (fun j x v hx hv => hR.2 j x v hx hv) (fun _ _ h => by cases h)
     | pointer e =>
       rcases DataW.trod_pointer ht h with ⟨rfl,_⟩ | ⟨a,cs',y,n,rfl,rfl,_,hc,hd⟩
       ·exact ⟨[.nilp],by simp only[Sh,ht];exact .inl trivial,one .nilp rfl⟩
       ·obtain ⟨rs,h1,h2,h3⟩:=read_cells hb hJ m hp hd
        obtain ⟨_,hl,hcell⟩:=World.cells?_some hc
        have hk:∀ (j:Nat) v,cs'[j]? = some v→c.I (a.add j)∧c.w.cell? (a.add j) = some v:=fun j v hv => by
         have hj:j < P.cellsOf e:=by rw[←hl];exact (List.getElem?_eq_some_iff.1 hv).1
         have:=(hcell j hj).trans hv
         exact ⟨I_cell hb hJ this,this⟩
        exact ⟨[.ptr rs],by simp only[Sh,ht];exact .inr ⟨rs,rfl,h1⟩,one (.ptr a cs' h3 h2.1 hk (fun j x v hx hv => h2.2 j x v hx hv)) rfl⟩
     | struct fs =>
       simp only[Bool.and_eq_true,List.all_eq_true] at hp
       obtain ⟨xs,n,rfl,_,hcl,hxl,hget⟩:=DataW.trod_struct ht h
       have key:∀ (l:List Field) (o:Nat) (i:Nat),fieldsOk P o l (P.cellsOf t) = true→o≤cs.length→(∀ f∈l,plainB P m f.type = true)→(∀ j f,l[j]? = some f→DataW.trod enc P c.w 0 (fun _ => true) true n f.type ((cs.drop f.offset).take (P.cellsOf f.type)) = xs[i + j]?)→i + l.length = xs.length →
         ∃ asx,ShL (Sh P m) (l.map (·.type)) asx∧Reps c false asx (cs.drop o)∧∀ v∈cs.drop o,v.oneCell' = true:=by
        intro l
        induction l with
        | nil =>
          intro o i hf ho _ _ _
          simp only[fieldsOk,beq_iff_eq] at hf
          have:cs.drop o = []:=List.drop_eq_nil_of_le (by omega)
          rw[this]
          exact ⟨[],rfl,Reps.nil,fun _ h => by cases h⟩
        | cons f l ih =>
          intro o i hf ho hpl hg hlen
          simp only[fieldsOk,Bool.and_eq_true,beq_iff_eq] at hf
          obtain ⟨hfo,hf⟩:=hf
          have hg0:=hg 0 f rfl
          simp only[List.length_cons] at hlen
          rw[List.getElem?_eq_getElem (by omega),hfo] at hg0
          obtain ⟨rs,h1,h2,h3⟩:=read_cells hb hJ m (hpl f (List.mem_cons_self ..)) hg0
          have mono:∀ (l:List Field) (o:Nat),fieldsOk P o l (P.cellsOf t) = true→o≤P.cellsOf t:=by
           intro l
           induction l with
           | nil => intro o h;simp only[fieldsOk,beq_iff_eq] at h;omega
           | cons f l ih => intro o h;simp only[fieldsOk,Bool.and_eq_true] at h;have:=ih _ h.2;omega
          have ho2:=mono _ _ hf
          obtain ⟨asx,h4,h5,h6⟩:=ih (o + P.cellsOf f.type) (i + 1) hf (by omega) (fun g hg => hpl g (List.mem_cons_of_mem _ hg)) (fun j g hj => by
           have:=hg (j + 1) g (by simpa using hj)
           rwa [show i + (j + 1) = i + 1 + j by omega] at this) (by omega)
          have hsplit:cs.drop o = (cs.drop o).take (P.cellsOf f.type) ++ cs.drop (o + P.cellsOf f.type):=by
           rw[←List.drop_drop,List.take_append_drop]
          rw[hsplit]
          refine ⟨rs ++ asx,⟨rs,asx,rfl,h1,h4⟩,h2.append h5,fun v hv => ?_⟩
          rcases List.mem_append.1 hv with hv | hv
          ·exact h3 v hv
          ·exact h6 v hv
       obtain ⟨asx,h1,h2,h3⟩:=key fs.toList 0 0 hp.1 (Nat.zero_le _) hp.2 (fun j f hj => by
        have:=hget j f (by simpa using hj)
        rwa [show 0 + j = j by omega]) (by simp[hxl])
       exact ⟨asx,by simp only[Sh,ht];exact h1,by simpa using h2,by simpa using h3⟩
     | array n e =>
       simp only[Bool.and_eq_true,beq_iff_eq] at hp
       obtain ⟨xs,q,rfl,_,hcl,hxl,hget⟩:=DataW.trod_array ht h
       have key:∀ i,i≤n→∃ asx,ShR (Sh P m e) i asx∧Reps c false asx (cs.take (i * P.cellsOf e))∧∀ v∈cs.take (i * P.cellsOf e),v.oneCell' = true:=by
        intro i
        induction i with
        | zero => intro _;exact ⟨[],⟨[],rfl,rfl,fun _ h => by cases h⟩,by simpa using Reps.nil,by simp⟩
        | succ i ih =>
          intro hi
          obtain ⟨asx,⟨rows,hl,rfl,hS⟩,h2,h3⟩:=ih (by omega)
          have hg:=hget i (by omega)
          rw[List.getElem?_eq_getElem (by omega)] at hg
          obtain ⟨rs,h4,h5,h6⟩:=read_cells hb hJ m hp.2 hg
          have hsplit:cs.take ((i + 1) * P.cellsOf e) = cs.take (i * P.cellsOf e) ++ (cs.drop (i * P.cellsOf e)).take (P.cellsOf e):=by
           rw[Nat.succ_mul,List.take_add]
          rw[hsplit]
          refine ⟨_,⟨rows ++ [rs],by simp[hl],rfl,fun r hr => ?_⟩,?_,fun v hv => ?_⟩
          ·rcases List.mem_append.1 hr with hr | hr
           ·exact hS r hr
           ·rw[List.mem_singleton.1 hr];exact h4
          ·simp only[List.flatten_append,List.flatten_cons,List.flatten_nil,List.append_nil]
           exact h2.append h5
          ·rcases List.mem_append.1 hv with hv | hv
           ·exact h3 v hv
           ·exact h6 v hv
       obtain ⟨asx,h1,h2,h3⟩:=key n (Nat.le_refl _)
       have hall:cs.take (n * P.cellsOf e) = cs:=List.take_of_length_le (by omega)
       rw[hall] at h2 h3
       exact ⟨asx,by simp only[Sh,ht];exact h1,h2,h3⟩
     | _ => cases hp
theorem read_one (hb:c.base = c.w.heap.size) (hJ:c.J = fun _ => True) (m:Nat) {t:TypeId} {v:Value} {d:DataW H} {ps:List MemPlace} (hp:plainB P m t = true) (hv:v.cells = #[v]) (h:DataW.Trod enc P c.w 0 (fun _ => true) true t v d ps):
  ∃ x,Sh P m t [x]∧Rep c true x v:=by
 obtain ⟨fuel,hf⟩:=h
 rw[hv] at hf
 obtain ⟨asx,h1,h2,_⟩:=read_cells hb hJ m hp hf
 have hl:asx.length = 1:=by simpa using h2.1
 match asx,hl with
 | [x],_ => exact ⟨x,h1,(h2.2 0 x v rfl rfl).up⟩
end
end Go.Ab
end
section
namespace Go.Ab
def CLe (c d:CS):Prop:=∀ f asx g r,c f asx g = some r→d f asx g = some r
theorem opE_mono {c d:CS} (h:CLe c d) {al:Nat→Bool} {lo id:Nat} {op:AOp} {e:Env} {g:G} {r:AV × G} (hr:opE c al lo id op e g = some r):opE d al lo id op e g = some r:=by
 cases op with
 | call m f args =>
   simp only[opE,vCall] at hr ⊢
   split at hr
   ·cases m with
    | raw => exact h _ _ _ _ hr
    | see =>
      simp only at hr ⊢
      obtain ⟨v,g2⟩:=r
      obtain ⟨g',hc,rfl,hk⟩:=seeR_inv hr
      rw[h _ _ _ _ hc]
      exact seeR_some hk
    | pure =>
      simp only at hr ⊢
      split at hr
      ·cases hr
      ·split at hr
       ·cases hr
       ·rename_i hc
        rw[h _ _ _ _ hc]
        exact hr
    | lock =>
      simp only at hr ⊢
      split at hr
      ·cases hr
      ·split at hr
       ·cases hr
       ·rename_i hc
        rw[h _ _ _ _ hc]
        exact hr
    | thaw =>
      simp only at hr ⊢
      split at hr
      ·cases hr
      ·split at hr
       ·rename_i hc
        rw[h _ _ _ _ hc]
        exact hr
       ·cases hr
    | melt =>
      simp only at hr ⊢
      split at hr
      ·cases hr
      ·split at hr
       ·rename_i hc
        rw[h _ _ _ _ hc]
        exact hr
       ·cases hr
   ·cases hr
 | _ => exact hr
theorem regE_mono {c d:CS} (h:CLe c d) {draw:Bool} {base:Nat}:∀ {os:List AOper} {j:Nat} {e:Env} {g:G} {r},regE c draw base j os e g = some r→regE d draw base j os e g = some r
 | [],_,_,_,_,hr => hr
 | o :: os,j,e,g,r,hr => by
   simp only[regE] at hr ⊢
   split
   ·rename_i hw
    simp only[hw,if_true] at hr
    split at hr
    ·rename_i ho
     rw[opE_mono h ho]
     exact regE_mono h hr
    ·cases hr
   ·rename_i hw
    simp only[hw,Bool.false_eq_true,if_false] at hr
    exact regE_mono h hr
theorem iter_mono {f f':Env→G→Option (Out × Env × G)} (h:∀ e g r,f e g = some r→f' e g = some r):∀ {k k':Nat} {e g r},k≤k'→iter f k e g = some r→iter f' k' e g = some r
 | 0,_,_,_,_,_,hr => by simp[iter] at hr
 | k + 1,k',e,g,r,hk,hr => by
   obtain ⟨k',rfl⟩:∃ j,k' = j + 1:=⟨k' - 1,by omega⟩
   simp only[iter] at hr ⊢
   split at hr
   ·rename_i hf
    rw[h _ _ _ hf]
    exact iter_mono h (by omega) hr
   ·rename_i hn
    cases hf:f e g with
    | none => rw[hf] at hr;cases hr
    | some q =>
      rw[hf] at hr
      obtain rfl:q = r:=Option.some.inj hr
      obtain ⟨o,e',g'⟩:=q
      cases o with
      | nrm => exact absurd hf (hn _ _)
      | ext n => rw[h _ _ _ hf]
      | ret => rw[h _ _ _ hf]
theorem codeE_mono {c d:CS} (h:CLe c d) {k k':Nat} (hk:k≤k'):∀ {x:ACode} {e:Env} {g:G} {r},codeE c k x e g = some r→codeE d k' x e g = some r:=by
 intro x
 induction x with
 | skip => intro e g r hr;exact hr
 | reg draw ops =>
   intro e g r hr
   simp only[codeE] at hr ⊢
   split at hr
   ·rename_i ho
    rw[regE_mono h ho]
    exact hr
   ·cases hr
 | seq a b iha ihb =>
   intro e g r hr
   simp only[codeE] at hr ⊢
   split at hr
   ·rename_i ho
    rw[iha ho]
    exact ihb hr
   ·rename_i hn
    cases hf:codeE c k a e g with
    | none => rw[hf] at hr;cases hr
    | some q =>
      rw[hf] at hr
      obtain rfl:q = r:=Option.some.inj hr
      obtain ⟨o,e',g'⟩:=q
      cases o with
      | nrm => exact absurd hf (hn _ _)
      | ext n => rw[iha hf]
      | ret => rw[iha hf]
 | cond cc t f iht ihf =>
   intro e g r hr
   simp only[codeE] at hr ⊢
   split at hr
   ·split
    ·rename_i hx
     simp only[hx,if_true] at hr
     exact iht hr
    ·rename_i hx
     simp only[hx,Bool.false_eq_true,if_false] at hr
     exact ihf hr
   ·cases hr
 | lck t cc ih =>
   intro e g r hr
   simp only[codeE] at hr ⊢
   exact ih hr
 | lckS t cc ih =>
   intro e g r hr
   simp only[codeE] at hr ⊢
   exact ih hr
 | imm t cc ih =>
   intro e g r hr
   simp only[codeE] at hr ⊢
   cases hf:frz g.hp depth (e t) with
   | none => rw[hf] at hr;cases hr
   | some v => rw[hf] at hr;exact ih hr
 | tmp cc ih =>
   intro e g r hr
   simp only[codeE] at hr ⊢
   cases hf:codeE c k cc e ⟨lock g.hp (List.range g.nx),g.nx⟩ with
   | none => rw[hf] at hr;cases hr
   | some q => rw[hf] at hr;rw[ih hf];exact hr
 | scp cc ih =>
   intro e g r hr
   simp only[codeE] at hr ⊢
   exact ih hr
 | lab =>
   intro e g r hr
   simp only[codeE] at hr ⊢
   exact hr
 | blk id cc ih =>
   intro e g r hr
   simp only[codeE] at hr ⊢
   split at hr
   ·rename_i hf
    rw[ih hf]
    exact hr
   ·rename_i hn
    cases hf:codeE c k cc e g with
    | none => rw[hf] at hr;cases hr
    | some q =>
      rw[hf] at hr
      obtain rfl:q = r:=Option.some.inj hr
      obtain ⟨o,e',g'⟩:=q
      cases o with
      | nrm => rw[ih hf]
      | ext n => exact absurd hf (hn _ _ _)
      | ret => rw[ih hf]
 | loop cc ih =>
   intro e g r hr
   simp only[codeE] at hr ⊢
   exact iter_mono (fun _ _ _ => ih) hk hr
 | ext id => intro e g r hr;exact hr
 | ret => intro e g r hr;exact hr
 | prim n h => intro e g r hr;exact hr
theorem callE_mono (F:Funs):∀ {k k':Nat},k≤k'→CLe (callE F k) (callE F k')
 | 0,_,_,_,_,_,_,hr => by simp[callE] at hr
 | k + 1,k',hk,f,asx,g,r,hr => by
   obtain ⟨k',rfl⟩:∃ j,k' = j + 1:=⟨k' - 1,by omega⟩
   simp only[callE] at hr ⊢
   split at hr
   ·cases hr
   ·rename_i fn hF
    cases har:arB fn asx with
    | false => rw[har] at hr;cases hr
    | true =>
    rw[har] at hr
    simp only at hr ⊢
    have hm:=fun {x} => codeE_mono (callE_mono F (show k≤k' by omega)) (show k≤k' by omega) (x:=fn.body) (e:=argEnv asx) (g:=g) (r:=x)
    split at hr
    ·rename_i hc
     rw[hm hc]
     exact hr
    ·rename_i hc
     rw[hm hc]
     exact hr
    ·cases hr
open Classical in
noncomputable def lim {α:Type} (f:Nat→Option α):Option α:=
 if h:∃ r k,f k = some r then some (Classical.choose h) else none
theorem lim_some {α:Type} {f:Nat→Option α} (hm:∀ k k' r,k≤k'→f k = some r→f k' = some r) {r:α}:lim f = some r↔∃ k,f k = some r:=by
 unfold lim
 constructor
 ·intro h
  split at h
  ·rename_i hx
   have:=Classical.choose_spec hx
   rwa [Option.some.inj h] at this
  ·cases h
 ·rintro ⟨k,hk⟩
  rw[dif_pos ⟨r,k,hk⟩]
  obtain ⟨k',hk'⟩:=Classical.choose_spec (⟨r,k,hk⟩:∃ r k,f k = some r)
  have h1:=hm k (max k k') _ (by omega) hk
  have h2:=hm k' (max k k') _ (by omega) hk'
  rw[h1] at h2
  exact congrArg some (Option.some.inj h2).symm
theorem lim_ext {α:Type} {a b:Option α} (h:∀ r,a = some r↔b = some r):a = b:=by
 cases a with
 | none =>
   cases b with
   | none => rfl
   | some r => exact (((h r).2 rfl).symm ▸ rfl:none = some r)
 | some r => exact ((h r).1 rfl).symm
variable (F:Funs)
noncomputable def callS:CS:=fun f asx g => lim fun k => callE F k f asx g
noncomputable def codeS (x:ACode) (e:Env) (g:G):Option (Out × Env × G):=lim fun k => codeE (callE F k) k x e g
theorem callS_some {f asx g r}:callS F f asx g = some r↔∃ k,callE F k f asx g = some r:=
 lim_some fun _ _ _ hk h => callE_mono F hk _ _ _ _ h
theorem codeS_some {x e g r}:codeS F x e g = some r↔∃ k,codeE (callE F k) k x e g = some r:=
 lim_some fun _ _ _ hk h => codeE_mono (callE_mono F hk) hk h
theorem callE_le (k:Nat):CLe (callE F k) (callS F):=fun _ _ _ _ h => (callS_some F).2 ⟨k,h⟩
theorem opE_lim {al lo id op e g r}:opE (callS F) al lo id op e g = some r↔∃ k,opE (callE F k) al lo id op e g = some r:=by
 refine ⟨fun h => ?_,fun ⟨k,h⟩ => opE_mono (callE_le F k) h⟩
 cases op with
 | call m f args =>
   simp only[opE,vCall] at h ⊢
   split at h
   ·cases m with
    | raw => exact (callS_some F).1 h
    | see =>
      simp only at h ⊢
      obtain ⟨v,g2⟩:=r
      obtain ⟨g',hc,rfl,hkp⟩:=seeR_inv h
      obtain ⟨k,hk⟩:=(callS_some F).1 hc
      exact ⟨k,by rw[hk];exact seeR_some hkp⟩
    | pure =>
      simp only at h ⊢
      split at h
      ·cases h
      ·split at h
       ·cases h
       ·rename_i hc
        obtain ⟨k,hk⟩:=(callS_some F).1 hc
        exact ⟨k,by rw[hk];exact h⟩
    | lock =>
      simp only at h ⊢
      split at h
      ·cases h
      ·split at h
       ·cases h
       ·rename_i hc
        obtain ⟨k,hk⟩:=(callS_some F).1 hc
        exact ⟨k,by rw[hk];exact h⟩
    | thaw =>
      simp only at h ⊢
      split at h
      ·cases h
      ·split at h
       ·rename_i hc
        obtain ⟨k,hk⟩:=(callS_some F).1 hc
        exact ⟨k,by rw[hk];exact h⟩
       ·cases h
    | melt =>
      simp only at h ⊢
      split at h
      ·cases h
      ·split at h
       ·rename_i hc
        obtain ⟨k,hk⟩:=(callS_some F).1 hc
        exact ⟨k,by rw[hk];exact h⟩
       ·cases h
   ·cases h
 | _ => exact ⟨0,h⟩
theorem regE_lim {draw base}:∀ {os:List AOper} {j e g r},regE (callS F) draw base j os e g = some r↔∃ k,regE (callE F k) draw base j os e g = some r
 | [],_,_,_,_ => ⟨fun h => ⟨0,h⟩,fun ⟨_,h⟩ => h⟩
 | o :: os,j,e,g,r => by
   refine ⟨fun h => ?_,fun ⟨k,h⟩ => regE_mono (callE_le F k) h⟩
   simp only[regE] at h
   split at h
   ·rename_i hw
    split at h
    ·rename_i ho
     obtain ⟨k1,h1⟩:=(opE_lim F).1 ho
     obtain ⟨k2,h2⟩:=(regE_lim).1 h
     refine ⟨max k1 k2,?_⟩
     simp only[regE]
     rw[if_pos hw,opE_mono (callE_mono F (Nat.le_max_left k1 k2)) h1]
     exact regE_mono (callE_mono F (Nat.le_max_right k1 k2)) h2
    ·cases h
   ·rename_i hw
    obtain ⟨k2,h2⟩:=(regE_lim).1 h
    refine ⟨k2,?_⟩
    simp only[regE]
    rw[if_neg hw]
    exact h2
theorem codeS_skip (e g):codeS F .skip e g = some (.nrm,e,g):=(codeS_some F).2 ⟨0,rfl⟩
theorem codeS_ext (id e g):codeS F (.ext id) e g = some (.ext id,e,g):=(codeS_some F).2 ⟨0,rfl⟩
theorem codeS_ret (e g):codeS F .ret e g = some (.ret,e,g):=(codeS_some F).2 ⟨0,rfl⟩
theorem codeS_reg (draw ops e g):codeS F (.reg draw ops) e g = match regE (callS F) draw g.nx 0 ops e { g with nx:=g.nx + ops.length } with
  | some (e,g) => some (.nrm,e,g)
  | none => none:=by
 refine lim_ext fun r => ?_
 rw[codeS_some]
 constructor
 ·rintro ⟨k,h⟩
  simp only[codeE] at h
  split at h
  ·rename_i ho
   rw[(regE_lim F).2 ⟨k,ho⟩]
   exact h
  ·cases h
 ·intro h
  split at h
  ·rename_i ho
   obtain ⟨k,hk⟩:=(regE_lim F).1 ho
   exact ⟨k,by simp only[codeE];rw[hk];exact h⟩
  ·cases h
theorem codeS_seq (a b e g):codeS F (.seq a b) e g = match codeS F a e g with
  | some (.nrm,e,g) => codeS F b e g
  | r => r:=by
 refine lim_ext fun r => ?_
 rw[codeS_some]
 constructor
 ·rintro ⟨k,h⟩
  simp only[codeE] at h
  split at h
  ·rename_i ho
   rw[(codeS_some F).2 ⟨k,ho⟩]
   exact (codeS_some F).2 ⟨k,h⟩
  ·rename_i hn
   rw[(codeS_some F).2 ⟨k,h⟩]
   obtain ⟨o,e',g'⟩:=r
   cases o with
   | nrm => exact absurd h (hn _ _)
   | ext n => rfl
   | ret => rfl
 ·intro h
  split at h
  ·rename_i ho
   obtain ⟨k1,h1⟩:=(codeS_some F).1 ho
   obtain ⟨k2,h2⟩:=(codeS_some F).1 h
   refine ⟨max k1 k2,?_⟩
   simp only[codeE]
   rw[codeE_mono (callE_mono F (Nat.le_max_left k1 k2)) (Nat.le_max_left k1 k2) h1]
   exact codeE_mono (callE_mono F (Nat.le_max_right k1 k2)) (Nat.le_max_right k1 k2) h2
  ·rename_i hn
   obtain ⟨k1,h1⟩:=(codeS_some F).1 h
   refine ⟨k1,?_⟩
   simp only[codeE]
   rw[h1]
   obtain ⟨o,e',g'⟩:=r
   cases o with
   | nrm => exact absurd h (hn _ _)
   | ext n => rfl
   | ret => rfl
theorem codeS_cond (c t f e g):codeS F (.cond c t f) e g = match c.ev e with
  | .b x => if x then codeS F t e g else codeS F f e g
  | _ => none:=by
 refine lim_ext fun r => ?_
 rw[codeS_some]
 simp only[codeE]
 cases c.ev e with
 | b x =>
   cases x with
   | true => simp only[if_true];exact (codeS_some F).symm
   | false => simp only[Bool.false_eq_true,if_false];exact (codeS_some F).symm
 | _ => simp
theorem codeS_lck (t c e g):codeS F (.lck t c) e g = codeS F c e ⟨lock g.hp (vis g.hp depth (e t)),g.nx⟩:=by
 refine lim_ext fun r => ?_
 rw[codeS_some]
 simp only[codeE]
 exact (codeS_some F).symm
theorem codeS_prim (n h e g):codeS F (.prim n h) e g = match primE h ((List.range n).map e) g with
  | some (v,g) => some (.ret,upd e 0 v,g)
  | none => none:=by
 refine lim_ext fun r => ?_
 rw[codeS_some]
 simp only[codeE]
 exact ⟨fun ⟨_,h⟩ => h,fun h => ⟨0,h⟩⟩
theorem codeS_lckS (t c e g):codeS F (.lckS t c) e g = codeS F c e ⟨lock g.hp (ids1 (e t)),g.nx⟩:=by
 refine lim_ext fun r => ?_
 rw[codeS_some]
 simp only[codeE]
 exact (codeS_some F).symm
theorem codeS_imm (t c e g):codeS F (.imm t c) e g = match frz g.hp depth (e t) with
  | some v => codeS F c (upd e t v) ⟨lock g.hp (vis g.hp depth (e t)),g.nx⟩
  | none => none:=by
 refine lim_ext fun r => ?_
 rw[codeS_some]
 simp only[codeE]
 cases frz g.hp depth (e t) with
 | none => simp
 | some v => exact (codeS_some F).symm
theorem codeS_scp (c e g):codeS F (.scp c) e g = codeS F c e g:=by
 refine lim_ext fun r => ?_
 rw[codeS_some]
 simp only[codeE]
 exact (codeS_some F).symm
theorem codeS_lab (e g):codeS F .lab e g = some (.nrm,e,g):=by
 refine lim_ext fun r => ?_
 rw[codeS_some]
 simp only[codeE]
 exact ⟨fun ⟨_,h⟩ => h,fun h => ⟨0,h⟩⟩
theorem codeS_blk (id c e g):codeS F (.blk id c) e g = match codeS F c e g with
  | some (.ext n,e,g) => some (if n = id then .nrm else .ext n,e,g)
  | r => r:=by
 refine lim_ext fun r => ?_
 rw[codeS_some]
 constructor
 ·rintro ⟨k,h⟩
  simp only[codeE] at h
  split at h
  ·rename_i ho
   rw[(codeS_some F).2 ⟨k,ho⟩]
   exact h
  ·rename_i hn
   rw[(codeS_some F).2 ⟨k,h⟩]
   obtain ⟨o,e',g'⟩:=r
   cases o with
   | nrm => rfl
   | ext n => exact absurd h (hn _ _ _)
   | ret => rfl
 ·intro h
  split at h
  ·rename_i ho
   obtain ⟨k1,h1⟩:=(codeS_some F).1 ho
   exact ⟨k1,by simp only[codeE];rw[h1];exact h⟩
  ·rename_i hn
   obtain ⟨k1,h1⟩:=(codeS_some F).1 h
   refine ⟨k1,?_⟩
   simp only[codeE]
   rw[h1]
   obtain ⟨o,e',g'⟩:=r
   cases o with
   | nrm => rfl
   | ext n => exact absurd h (hn _ _ _)
   | ret => rfl
theorem codeS_loop (c e g):codeS F (.loop c) e g = match codeS F c e g with
  | some (.nrm,e,g) => codeS F (.loop c) e g
  | r => r:=by
 refine lim_ext fun r => ?_
 rw[codeS_some]
 constructor
 ·rintro ⟨k,h⟩
  simp only[codeE] at h
  cases k with
  | zero => simp[iter] at h
  | succ k =>
    simp only[iter] at h
    split at h
    ·rename_i ho
     rw[(codeS_some F).2 ⟨k + 1,ho⟩]
     refine (codeS_some F).2 ⟨k + 1,?_⟩
     simp only[codeE]
     exact iter_mono (fun _ _ _ h => h) (Nat.le_succ k) h
    ·rename_i hn
     rw[(codeS_some F).2 ⟨k + 1,h⟩]
     obtain ⟨o,e',g'⟩:=r
     cases o with
     | nrm => exact absurd h (hn _ _)
     | ext n => rfl
     | ret => rfl
 ·intro h
  split at h
  ·rename_i ho
   obtain ⟨k1,h1⟩:=(codeS_some F).1 ho
   obtain ⟨k2,h2⟩:=(codeS_some F).1 h
   simp only[codeE] at h2
   refine ⟨max k1 k2 + 1,?_⟩
   simp only[codeE,iter]
   rw[codeE_mono (callE_mono F (by omega:k1≤max k1 k2 + 1)) (by omega:k1≤max k1 k2 + 1) h1]
   exact iter_mono (fun _ _ _ h => codeE_mono (callE_mono F (by omega:k2≤max k1 k2 + 1)) (by omega:k2≤max k1 k2 + 1) h) (by omega) h2
  ·rename_i hn
   obtain ⟨k1,h1⟩:=(codeS_some F).1 h
   refine ⟨k1 + 1,?_⟩
   simp only[codeE,iter]
   rw[codeE_mono (callE_mono F (by omega:k1≤k1 + 1)) (by omega:k1≤k1 + 1) h1]
   obtain ⟨o,e',g'⟩:=r
   cases o with
   | nrm => exact absurd h (hn _ _)
   | ext n => rfl
   | ret => rfl
theorem callS_eq (f asx g):callS F f asx g = match F f with
  | none => none
  | some fn => match arB fn asx with
    | false => none
    | true => match codeS F fn.body (argEnv asx) g with
      | some (.nrm,e,g) | some (.ret,e,g) => (resE fn.res e g).map (·,g)
      | _ => none:=by
 refine lim_ext fun r => ?_
 rw[callS_some]
 constructor
 ·rintro ⟨k,h⟩
  cases k with
  | zero => simp[callE] at h
  | succ k =>
    simp only[callE] at h
    split at h
    ·cases h
    ·rename_i fn hF
     rw[hF]
     simp only
     cases har:arB fn asx with
     | false => rw[har] at h;cases h
     | true =>
     rw[har] at h
     simp only at h ⊢
     split at h
     ·rename_i hc
      rw[(codeS_some F).2 ⟨k,hc⟩]
      exact h
     ·rename_i hc
      rw[(codeS_some F).2 ⟨k,hc⟩]
      exact h
     ·cases h
 ·intro h
  split at h
  ·cases h
  ·rename_i fn hF
   cases har:arB fn asx with
   | false => rw[har] at h;cases h
   | true =>
   rw[har] at h
   simp only at h
   split at h
   ·rename_i hc
    obtain ⟨k,hk⟩:=(codeS_some F).1 hc
    exact ⟨k + 1,by simp only[callE,hF,har];rw[hk];exact h⟩
   ·rename_i hc
    obtain ⟨k,hk⟩:=(codeS_some F).1 hc
    exact ⟨k + 1,by simp only[callE,hF,har];rw[hk];exact h⟩
   ·cases h
end Go.Ab
end
section
namespace Go.Ab
theorem upd_same {α:Type} (e:Nat→α) (d:Nat) (v:α):upd e d v d = v:=if_pos rfl
theorem upd_ne {α:Type} (e:Nat→α) {d k:Nat} (v:α) (h:k≠d):upd e d v k = e k:=if_neg h
theorem put_some (e:Env) (d:Nat) (v:AV):put e (some d) v = upd e d v:=rfl
theorem put_none (e:Env) (v:AV):put e none v = e:=rfl
theorem allow_no (base:Nat) (pre:List Nat) (id:Nat):allow false base pre id = true:=rfl
theorem allow_lt {base id:Nat} (pre:List Nat) (h:id < base):allow true base pre id = true:=by simp[allow,h]
section
variable (c:CS) (d:Bool) (b j:Nat) (dst:Option Nat) (os:List AOper) (e:Env)
noncomputable def bindR (r:Option (AV × G)):Option (Env × G):=
 match r with
 | some (v,g) => regE c d b j os (put e dst v) g
 | none => none
noncomputable def selR (w:Bool) (op:AOp) (pre:List Nat) (g:G):Option (Env × G):=
 if w then bindR c d b (j + 1) dst os e (opE c (allow d b pre) b (b + j) op e g) else regE c d b (j + 1) os (put e dst .undef) g
theorem selR_true (op pre g):selR c d b j dst os e true op pre g = bindR c d b (j + 1) dst os e (opE c (allow d b pre) b (b + j) op e g):=rfl
theorem regE_nil (g:G):regE c d b j [] e g = some (e,g):=rfl
theorem regE_cons (op:AOp) (grd:Option (Nat × Bool)) (pre:List Nat) (g:G):
  regE c d b j ({ dst,op,grd,pre } :: os) e g = selR c d b j dst os e (wanted e grd) op pre g:=by
 simp only[regE,selR,bindR]
 rfl
end
section
variable (F:Funs)
noncomputable def thenS (x:ACode) (r:Option (Out × Env × G)):Option (Out × Env × G):=
 match r with
 | some (.nrm,e,g) => codeS F x e g
 | r => r
noncomputable def selS (t f:ACode) (e:Env) (g:G) (v:AV):Option (Out × Env × G):=
 match v with
 | .b c => if c then codeS F t e g else codeS F f e g
 | _ => none
def normS (r:Option (Env × G)):Option (Out × Env × G):=
 match r with
 | some (e,g) => some (.nrm,e,g)
 | none => none
def blkS (id:Nat) (r:Option (Out × Env × G)):Option (Out × Env × G):=
 match r with
 | some (.ext n,e,g) => some (if n = id then .nrm else .ext n,e,g)
 | r => r
theorem cS_reg (draw ops e g):codeS F (.reg draw ops) e g = normS (regE (callS F) draw g.nx 0 ops e ⟨g.hp,g.nx + ops.length⟩):=codeS_reg F draw ops e g
theorem cS_seq (a b e g):codeS F (.seq a b) e g = thenS F b (codeS F a e g):=codeS_seq F a b e g
theorem cS_cond (c t f e g):codeS F (.cond c t f) e g = selS F t f e g (c.ev e):=codeS_cond F c t f e g
theorem cS_blk (id c e g):codeS F (.blk id c) e g = blkS id (codeS F c e g):=codeS_blk F id c e g
theorem cS_loop (c e g):codeS F (.loop c) e g = thenS F (.loop c) (codeS F c e g):=codeS_loop F c e g
end
def wantV (v:AV) (w:Bool):Bool:=match v with | .b x => x == w | _ => false
theorem wanted_none (e:Env):wanted e none = true:=rfl
theorem wanted_some (e:Env) (t:Nat) (w:Bool):wanted e (some (t,w)) = wantV (e t) w:=rfl
theorem wantV_1 (x:Bool):wantV (.b x) true = x:=by cases x<;>rfl
theorem wantV_0 (x:Bool):wantV (.b x) false = !x:=by cases x<;>rfl
theorem wantV_undef (w:Bool):wantV .undef w = false:=rfl
section
variable {c:CS} {al:Nat→Bool} {lo id:Nat} {e:Env} {g:G}
theorem ev_t (n:Nat):Opd.ev e (.t n) = e n:=rfl
theorem ev_c (v:AV):Opd.ev e (.c v) = v:=rfl
theorem o_mv (x:Opd):opE c al lo id (.mv x) e g = some (x.ev e,g):=rfl
theorem o_pick (x y z:Opd):opE c al lo id (.pick x y z) e g = vPick (x.ev e) (y.ev e) (z.ev e) g:=rfl
theorem vPick_t (a b:AV) (g:G):vPick (.b true) a b g = some (a,g):=rfl
theorem vPick_f (a b:AV) (g:G):vPick (.b false) a b g = some (b,g):=rfl
theorem o_new (z:List AV):opE c al lo id (.new z) e g = some (.mp id 0,⟨upd g.hp id (some (.cells z false)),g.nx⟩):=rfl
theorem o_box (x:Opd):opE c al lo id (.box x) e g = vBox id (x.ev e) g:=rfl
theorem vMap_some (v:AV):vMap g (some v) = some (v,g):=rfl
theorem vMapL_some (f) (v:List AV):vMapL f g (some v) = some (f v,g):=rfl
theorem o_build (z:List AV) (ps):opE c al lo id (.build z ps) e g = vMapL .agg g (fill e z ps):=rfl
theorem o_ld (agg) (x:Opd):opE c al lo id (.ld agg x) e g = vLd al agg (x.ev e) g:=rfl
theorem vLd_ptr (agg cs):vLd al agg (.ptr cs) g = vMap g (part cs 0 agg):=rfl
theorem o_st (n) (a x:Opd):opE c al lo id (.st n a x) e g = vSt al n (a.ev e) (x.ev e) g:=rfl
theorem o_nilck (x:Opd):opE c al lo id (.nilck x) e g = vNil (x.ev e) g:=rfl
theorem vNil_ptr (cs):vNil (.ptr cs) g = some (.ptr cs,g):=rfl
theorem vNil_mp (b o):vNil (.mp b o) g = some (.mp b o,g):=rfl
theorem vNil_fn (f a b):vNil (.fn f a b) g = some (.fn f a b,g):=rfl
theorem o_bin (op) (x y:Opd):opE c al lo id (.bin op x y) e g = vMap g (abin op (x.ev e) (y.ev e)):=rfl
theorem o_un (op) (x:Opd):opE c al lo id (.un op x) e g = vMap g (aun op (x.ev e)):=rfl
theorem o_mkfn (f a b):opE c al lo id (.mkfn f a b) e g = some (.fn f (a.map (·.ev e)) (b.map (·.ev e)),g):=rfl
theorem o_fa (off) (x:Opd):opE c al lo id (.fa off x) e g = vFa off (x.ev e) g:=rfl
theorem vFa_mp (off b o):vFa off (.mp b o) g = some (.mp b (o + off),g):=rfl
theorem o_fld (off agg) (x:Opd):opE c al lo id (.fld off agg x) e g = vFld off agg (x.ev e) g:=rfl
theorem vFld_agg (off agg cs):vFld off agg (.agg cs) g = vMap g (part cs off agg):=rfl
theorem o_ia (esz) (x i:Opd):opE c al lo id (.ia esz x i) e g = vIa esz (x.ev e) (i.ev e) g:=rfl
theorem vIa_sl {esz cs t k} {n:Nat} {z:Int} (h0:0≤z) (h:z < n):vIa esz (.sl cs n t) (.i k z) g = some (.ptr (cs.drop (z.toNat * esz)),g):=if_pos ⟨h0,h⟩
theorem vIa_ms {esz b off k} {n:Nat} {z:Int} (h0:0≤z) (h:z < n):vIa esz (.ms b off n) (.i k z) g = some (.mp b (off + z.toNat * esz),g):=if_pos ⟨h0,h⟩
theorem o_iaa (len esz) (x i:Opd):opE c al lo id (.iaa len esz x i) e g = vIaa len esz (x.ev e) (i.ev e) g:=rfl
theorem vIaa_ptr {esz cs k} {len:Nat} {z:Int} (h0:0≤z) (h:z < len):vIaa len esz (.ptr cs) (.i k z) g = some (.ptr (cs.drop (z.toNat * esz)),g):=if_pos ⟨h0,h⟩
theorem vIaa_mp {esz b off k} {len:Nat} {z:Int} (h0:0≤z) (h:z < len):vIaa len esz (.mp b off) (.i k z) g = some (.mp b (off + z.toNat * esz),g):=if_pos ⟨h0,h⟩
theorem o_len (x:Opd):opE c al lo id (.len x) e g = vLen (x.ev e) g:=rfl
theorem vLen_sl (cs n t):vLen (.sl cs n t) g = some (.i .i64 n,g):=rfl
theorem vLen_ms (b o n):vLen (.ms b o n) g = some (.i .i64 n,g):=rfl
theorem o_mx (x y:Opd):opE c al lo id (.mx x y) e g = vMx (x.ev e) (y.ev e) g:=rfl
theorem o_mn (x y:Opd):opE c al lo id (.mn x y) e g = vMn (x.ev e) (y.ev e) g:=rfl
theorem vMx_i (k l a b):vMx (.i k a) (.i l b) g = some (.i k (if b > a then b else a),g):=rfl
theorem vMn_i (k l a b):vMn (.i k a) (.i l b) g = some (.i k (if b < a then b else a),g):=rfl
theorem o_ext (i) (x:Opd):opE c al lo id (.ext i x) e g = vExt i (x.ev e) g:=rfl
theorem vExt_tup (i cs):vExt i (.tup cs) g = vMap g (cs[i]?):=rfl
theorem b_add (k x y):abin .add (.i k x) (.i k y) = some (.i k (k.wrap (x + y))):=by simp[abin,ibin]
theorem b_sub (k x y):abin .sub (.i k x) (.i k y) = some (.i k (k.wrap (x - y))):=by simp[abin,ibin]
theorem b_mul (k x y):abin .mul (.i k x) (.i k y) = some (.i k (k.wrap (x * y))):=by simp[abin,ibin]
theorem b_rem {k x y} (h:y≠0):abin .rem (.i k x) (.i k y) = some (.i k (x.tmod y)):=by simp[abin,ibin,h]
theorem b_lss (k x y):abin .lss (.i k x) (.i k y) = some (.b (decide (x < y))):=by simp[abin,ibin]
theorem b_leq (k x y):abin .leq (.i k x) (.i k y) = some (.b (decide (x≤y))):=by simp[abin,ibin]
theorem b_gtr (k x y):abin .gtr (.i k x) (.i k y) = some (.b (decide (x > y))):=by simp[abin,ibin]
theorem b_geq (k x y):abin .geq (.i k x) (.i k y) = some (.b (decide (x ≥ y))):=by simp[abin,ibin]
theorem b_eql (k x y):abin .eql (.i k x) (.i k y) = some (.b (x == y)):=by simp[abin,ibin]
theorem b_neq (k x y):abin .neq (.i k x) (.i k y) = some (.b (x != y)):=by simp[abin,ibin]
end
def selB (x:Bool) (o:Option Blk):Option Blk:=if x then o else none
theorem selB_true (o):selB true o = o:=rfl
theorem rd_S (g:G) (al:Nat→Bool) (id:Nat):rd g al id = selB (al id) (g.hp id):=rfl
section
variable {al:Nat→Bool} {g:G}
def ldS (agg:Option Nat) (off:Nat) (g:G):Option Blk→Option (AV × G)
 | some (.cells cs _) => vMap g (part cs off agg)
 | _ => none
theorem ldS_ok (agg off g cs ro):ldS agg off g (some (.cells cs ro)) = vMap g (part cs off agg):=rfl
theorem vLd_S (agg b off):vLd al agg (.mp b off) g = ldS agg off g (selB (al b) (g.hp b)):=rfl
def stD (n b off len m:Nat) (ones:Bool) (cs vs:List AV) (g:G):Option (AV × G):=
 if len = n∧off + n≤m∧ones = true then some (.undef,⟨upd g.hp b (some (.cells (splice cs off vs) false)),g.nx⟩) else none
theorem stD_ok {n b off len m:Nat} {cs vs g} (h:len = n∧off + n≤m):stD n b off len m true cs vs g = some (.undef,⟨upd g.hp b (some (.cells (splice cs off vs) false)),g.nx⟩):=if_pos ⟨h.1,h.2,rfl⟩
def stS (n b off:Nat) (vs:List AV) (g:G):Option Blk→Option (AV × G)
 | some (.cells cs false) => stD n b off vs.length cs.length (vs.all one) cs vs g
 | _ => none
theorem stS_ok (n b off vs g cs):stS n b off vs g (some (.cells cs false)) = stD n b off vs.length cs.length (vs.all one) cs vs g:=rfl
theorem vSt_S (n b off x):vSt al n (.mp b off) x g = stS n b off (cellsOf x) g (selB (al b) (g.hp b)):=by
 simp only[vSt]
 rw[rd_S]
 cases selB (al b) (g.hp b) with
 | none => rfl
 | some bl =>
   cases bl with
   | cells cs ro => cases ro<;>rfl
   | map es => rfl
   | tok l => rfl
def boxD (id:Nat) (cs:List AV) (g:G) (x:Bool):Option (AV × G):=if x then some (.mp id 0,⟨upd g.hp id (some (.cells cs false)),g.nx⟩) else none
theorem boxD_ok (id cs g):boxD id cs g true = some (.mp id 0,⟨upd g.hp id (some (.cells cs false)),g.nx⟩):=rfl
theorem vBox_S (id v):vBox id v g = boxD id (cellsOf v) g ((cellsOf v).all one):=rfl
def faD (off len:Nat) (cs:List AV) (g:G):Option (AV × G):=if off < len then some (.ptr (cs.drop off),g) else none
theorem faD_ok {off len:Nat} {cs g} (h:off < len):faD off len cs g = some (.ptr (cs.drop off),g):=if_pos h
theorem vFa_S (off cs):vFa off (.ptr cs) g = faD off cs.length cs g:=rfl
def fillD (e:Env) (cs:List AV) (off n len m:Nat) (ones:Bool) (vs:List AV) (ps:List (Nat × Nat × Opd)):Option (List AV):=
 if len = n∧off + n≤m∧ones = true then fill e (splice cs off vs) ps else none
theorem fillD_ok {e cs off n len m vs ps} (h:len = n∧off + n≤m):fillD e cs off n len m true vs ps = fill e (splice cs off vs) ps:=if_pos ⟨h.1,h.2,rfl⟩
theorem fill_S (e:Env) (cs:List AV) (off n x ps):fill e cs ((off,n,x) :: ps) = fillD e cs off n (cellsOf (x.ev e)).length cs.length ((cellsOf (x.ev e)).all one) (cellsOf (x.ev e)) ps:=by
 simp only[fill,fillD]
theorem fill_nil (e cs):fill e cs [] = some cs:=rfl
theorem cellsOf_agg (cs):cellsOf (.agg cs) = cs:=rfl
theorem cellsOf_i (k n):cellsOf (.i k n) = [.i k n]:=rfl
theorem cellsOf_b (x):cellsOf (.b x) = [.b x]:=rfl
theorem cellsOf_s (x):cellsOf (.s x) = [.s x]:=rfl
theorem cellsOf_ptr (x):cellsOf (.ptr x) = [.ptr x]:=rfl
theorem cellsOf_nilp:cellsOf .nilp = [.nilp]:=rfl
theorem cellsOf_sl (a b c):cellsOf (.sl a b c) = [.sl a b c]:=rfl
theorem cellsOf_mp (a b):cellsOf (.mp a b) = [.mp a b]:=rfl
theorem cellsOf_fn (a b c):cellsOf (.fn a b c) = [.fn a b c]:=rfl
theorem one_i (k n):one (.i k n) = true:=rfl
theorem one_b (x):one (.b x) = true:=rfl
theorem one_s (x):one (.s x) = true:=rfl
theorem one_ptr (x):one (.ptr x) = true:=rfl
theorem one_nilp:one .nilp = true:=rfl
theorem one_sl (a b c):one (.sl a b c) = true:=rfl
theorem one_mp (a b):one (.mp a b) = true:=rfl
theorem one_fn (a b c):one (.fn a b c) = true:=rfl
theorem splice_1 (cs off v):splice cs off [v] = cs.set off v:=rfl
theorem splice_2 (a b x y):splice [a,b] 0 [x,y] = [x,y]:=rfl
theorem splice_3 (a b c x y z):splice [a,b,c] 0 [x,y,z] = [x,y,z]:=rfl
theorem part_0 (c cs):part (c :: cs) 0 none = some c:=rfl
theorem part_1 (c d cs):part (c :: d :: cs) 1 none = some d:=rfl
theorem part_2 (a c d cs):part (a :: c :: d :: cs) 2 none = some d:=rfl
def andLe (lo:Nat) (al:Nat→Bool) (i:Nat):Bool:=decide (lo≤i) && al i
theorem o_stL {c:CS} {al:Nat→Bool} {lo id:Nat} {e:Env} {g:G} (n a x):opE c al lo id (.stL n a x) e g = vSt (andLe lo al) n (a.ev e) (x.ev e) g:=rfl
theorem andLe_ok {lo:Nat} {al:Nat→Bool} {i:Nat} (h:lo≤i):andLe lo al i = al i:=by simp[andLe,h]
theorem allow_hd {base k id:Nat} (l:List Nat) (h:id = base + k):allow true base (k :: l) id = true:=by subst h;simp[allow]
theorem allow_h2 {base k k' id:Nat} (l:List Nat) (h:id = base + k):allow true base (k' :: k :: l) id = true:=by subst h;simp[allow]
theorem part_3 (a b c d:AV) (l:List AV):part (a :: b :: c :: d :: l) 3 none = some d:=rfl
theorem part_4 (a b c d e:AV) (l:List AV):part (a :: b :: c :: d :: e :: l) 4 none = some e:=rfl
theorem part_5 (a b c d e f:AV) (l:List AV):part (a :: b :: c :: d :: e :: f :: l) 5 none = some f:=rfl
theorem cellsOf_ms (a b c):cellsOf (.ms a b c) = [.ms a b c]:=rfl
theorem one_ms (a b c):one (.ms a b c) = true:=rfl
theorem drop_0 (l:List AV):l.drop 0 = l:=rfl
theorem g0_nx:g0.nx = 0:=rfl
theorem g0_hp:g0.hp = fun _ => none:=rfl
theorem o_bsl {c:CS} {al:Nat→Bool} {lo id:Nat} {e:Env} {g:G} (imm n z ps):opE c al lo id (.bsl imm n z ps) e g = vBsl id imm n (fill e z ps) g:=rfl
theorem vBsl_t (id n cs) (g:G):vBsl id true n (some cs) g = vMapL (fun cs => .sl cs n .rig) g (frzL (fun _ => none) depth cs):=rfl
theorem vBsl_f (id n cs) (g:G):vBsl id false n (some cs) g = some (.ms id 0 n,⟨upd g.hp id (some (.cells cs false)),g.nx⟩):=rfl
theorem o_app {c:CS} {al:Nat→Bool} {lo id:Nat} {e:Env} {g:G} (esz by' x y):opE c al lo id (.app esz by' x y) e g = vApp al id esz by' (x.ev e) (y.ev e) g:=rfl
def appD (n m esz bytes lc ld:Nat) (r:Option (AV × G)):Option (AV × G):=if (n + m) * bytes≤2 ^ 46∧n + m≤2 ^ 62∧lc = n * esz∧ld = m * esz then r else none
theorem appD_ok {n m esz bytes lc ld r} (h:(n + m) * bytes≤2 ^ 46∧n + m≤2 ^ 62∧lc = n * esz∧ld = m * esz):appD n m esz bytes lc ld r = r:=if_pos h
theorem vApp_rig {id esz bytes cs n ds m t2} (h:m≠0):vApp al id esz bytes (.sl cs n .rig) (.sl ds m t2) g = appD n m esz bytes cs.length ds.length (some (.sl (cs ++ ds) (n + m) (.own id esz),⟨upd g.hp id (some (.tok true)),g.nx⟩)):=by
 simp only[vApp,vSrc,if_neg h];rfl
theorem vApp_rig0 {id esz bytes cs n ds t2}:vApp al id esz bytes (.sl cs n .rig) (.sl ds 0 t2) g = appD n 0 esz bytes cs.length ds.length (some (.sl cs n .rig,g)):=by
 simp only[vApp,vSrc,if_true];rfl
def appK (id esz tk n:Nat) (cs:List AV) (g:G):Option Blk→Option (AV × G)
 | some (.tok true) => some (.sl cs n (.own id esz),⟨upd (upd g.hp tk (some (.tok false))) id (some (.tok true)),g.nx⟩)
 | _ => none
theorem appK_ok (id esz tk n cs g):appK id esz tk n cs g (some (.tok true)) = some (.sl cs n (.own id esz),⟨upd (upd g.hp tk (some (.tok false))) id (some (.tok true)),g.nx⟩):=rfl
theorem vApp_own {id esz bytes cs n tk ds m t2}:vApp al id esz bytes (.sl cs n (.own tk esz)) (.sl ds m t2) g = appD n m esz bytes cs.length ds.length (appK id esz tk (n + m) (cs ++ ds) g (selB (al tk) (g.hp tk))):=by
 simp only[vApp,vSrc,rd_S]
 unfold appD appK
 split
 ·cases selB (al tk) (g.hp tk) with
  | none => rfl
  | some b =>
    cases b with
    | tok x => cases x<;>simp
    | cells _ _ => rfl
    | map _ => rfl
 ·rfl
theorem o_eqn {c:CS} {al:Nat→Bool} {lo id:Nat} {e:Env} {g:G} (neg x y):opE c al lo id (.eqn neg x y) e g = vMap g (negb neg (aeqn (x.ev e) (y.ev e))):=rfl
theorem o_eqb {c:CS} {al:Nat→Bool} {lo id:Nat} {e:Env} {g:G} (neg x y):opE c al lo id (.eqb neg x y) e g = vMap g (negb neg (aeqb (x.ev e) (y.ev e))):=rfl
theorem o_eqa {c:CS} {al:Nat→Bool} {lo id:Nat} {e:Env} {g:G} (neg ks x y):opE c al lo id (.eqa neg ks x y) e g = vMap g (negb neg (aeqa ks (x.ev e) (y.ev e))):=rfl
theorem aeqn_pn (cs):aeqn (.ptr cs) .nilp = some false:=rfl
theorem aeqn_np (cs):aeqn .nilp (.ptr cs) = some false:=rfl
theorem aeqn_mn (a b):aeqn (.mp a b) .nilp = some false:=rfl
theorem aeqn_nn:aeqn .nilp .nilp = some true:=rfl
theorem aeqb_bb (x y):aeqb (.b x) (.b y) = some (x == y):=rfl
theorem negb_t (x):negb true (some x) = some (.b (!x)):=rfl
theorem negb_f (x):negb false (some x) = some (.b x):=rfl
theorem aun_not (x):aun .not (.b x) = some (.b !x):=rfl
end
end Go.Ab
end
section
set_option linter.unusedVariables false
namespace Go.Ab
section
variable (F:Funs)
def W (c:ACode) (e:Env) (g:G) (Q:Out→Env→G→Prop):Prop:=∃ o e' g',codeS F c e g = some (o,e',g')∧Q o e' g'
def WR (d:Bool) (b j:Nat) (ops:List AOper) (e:Env) (g:G) (K:Env→G→Prop):Prop:=∃ e' g',regE (callS F) d b j ops e g = some (e',g')∧K e' g'
def thenQ (b:ACode) (Q:Out→Env→G→Prop):Out→Env→G→Prop
 | .nrm,e,g => W F b e g Q
 | o,e,g => Q o e g
def selW (t f:ACode) (e:Env) (g:G) (Q:Out→Env→G→Prop):AV→Prop
 | .b true => W F t e g Q
 | .b false => W F f e g Q
 | _ => False
def blkQ (id:Nat) (Q:Out→Env→G→Prop):Out→Env→G→Prop
 | .ext n,e,g => if n = id then Q .nrm e g else Q (.ext n) e g
 | o,e,g => Q o e g
def nrmQ (Q:Out→Env→G→Prop) (e:Env) (g:G):Prop:=Q .nrm e g
def bindO (d:Bool) (b j:Nat) (dst:Option Nat) (os:List AOper) (e:Env) (K:Env→G→Prop):Option (AV × G)→Prop
 | some (v,g) => WR F d b j os (put e dst v) g K
 | none => False
def selO (d:Bool) (b j:Nat) (dst:Option Nat) (os:List AOper) (e:Env) (op:AOp) (pre:List Nat) (g:G) (K:Env→G→Prop) (w:Bool):Prop:=
 if w then bindO F d b (j + 1) dst os e K (opE (callS F) (allow d b pre) b (b + j) op e g) else WR F d b (j + 1) os (put e dst .undef) g K
end
section
variable {F:Funs}
theorem W_skip {e g Q}:W F .skip e g Q = Q .nrm e g:=by
 unfold W;rw[codeS_skip];apply propext
 exact ⟨fun ⟨o,e',g',h,q⟩ => by cases h;exact q,fun q => ⟨_,_,_,rfl,q⟩⟩
theorem W_ext {id e g Q}:W F (.ext id) e g Q = Q (.ext id) e g:=by
 unfold W;rw[codeS_ext];apply propext
 exact ⟨fun ⟨o,e',g',h,q⟩ => by cases h;exact q,fun q => ⟨_,_,_,rfl,q⟩⟩
theorem W_ret {e g Q}:W F .ret e g Q = Q .ret e g:=by
 unfold W;rw[codeS_ret];apply propext
 exact ⟨fun ⟨o,e',g',h,q⟩ => by cases h;exact q,fun q => ⟨_,_,_,rfl,q⟩⟩
theorem W_seq {a b e g Q}:W F (.seq a b) e g Q = W F a e g (thenQ F b Q):=by
 unfold W;rw[cS_seq];apply propext
 constructor
 ·intro ⟨o,e',g',h,q⟩
  cases hc:codeS F a e g with
  | none => rw[hc] at h;cases h
  | some r =>
    obtain ⟨o1,e1,g1⟩:=r
    rw[hc] at h
    refine ⟨o1,e1,g1,rfl,?_⟩
    cases o1 with
    | nrm => exact ⟨o,e',g',h,q⟩
    | ext n => cases h;exact q
    | ret => cases h;exact q
 ·intro ⟨o,e',g',h,q⟩
  rw[h]
  cases o with
  | nrm => exact q
  | ext n => exact ⟨_,_,_,rfl,q⟩
  | ret => exact ⟨_,_,_,rfl,q⟩
theorem thenQ_nrm {b Q e g}:thenQ F b Q .nrm e g = W F b e g Q:=rfl
theorem thenQ_ext {b Q n e g}:thenQ F b Q (.ext n) e g = Q (.ext n) e g:=rfl
theorem thenQ_ret {b Q e g}:thenQ F b Q .ret e g = Q .ret e g:=rfl
theorem W_cond {c t f e g Q}:W F (.cond c t f) e g Q = selW F t f e g Q (c.ev e):=by
 unfold W;rw[cS_cond];apply propext
 generalize c.ev e = v
 cases v<;>simp only[selS,selW]<;>try (constructor<;>(intro h;first | exact h.elim | (obtain ⟨_,_,_,h,_⟩:=h;cases h)))
 rename_i x
 cases x<;>simp[W]
theorem selW_true {t f e g Q}:selW F t f e g Q (.b true) = W F t e g Q:=rfl
theorem selW_false {t f e g Q}:selW F t f e g Q (.b false) = W F f e g Q:=rfl
theorem W_scp {c e g Q}:W F (.scp c) e g Q = W F c e g Q:=by unfold W;rw[codeS_scp]
theorem W_lab {e g Q}:W F .lab e g Q = Q .nrm e g:=by
 unfold W;rw[codeS_lab];apply propext
 exact ⟨fun ⟨o,e',g',h,q⟩ => by cases h;exact q,fun q => ⟨_,_,_,rfl,q⟩⟩
theorem W_blk {id c e g Q}:W F (.blk id c) e g Q = W F c e g (blkQ id Q):=by
 unfold W;rw[cS_blk];apply propext
 constructor
 ·intro ⟨o,e',g',h,q⟩
  cases hc:codeS F c e g with
  | none => rw[hc] at h;cases h
  | some r =>
    obtain ⟨o1,e1,g1⟩:=r
    rw[hc] at h
    refine ⟨o1,e1,g1,rfl,?_⟩
    cases o1 with
    | nrm => cases h;exact q
    | ext n =>
      cases h
      show if n = id then _ else _
      split
      ·rename_i hn;rw[if_pos hn] at q;exact q
      ·rename_i hn;rw[if_neg hn] at q;exact q
    | ret => cases h;exact q
 ·intro ⟨o,e',g',h,q⟩
  rw[h]
  cases o with
  | nrm => exact ⟨_,_,_,rfl,q⟩
  | ext n =>
    refine ⟨_,_,_,rfl,?_⟩
    have q:if n = id then Q .nrm e' g' else Q (.ext n) e' g':=q
    split
    ·rename_i hn;rw[if_pos hn] at q;exact q
    ·rename_i hn;rw[if_neg hn] at q;exact q
  | ret => exact ⟨_,_,_,rfl,q⟩
theorem blkQ_nrm {id Q e g}:blkQ id Q .nrm e g = Q .nrm e g:=rfl
theorem blkQ_ret {id Q e g}:blkQ id Q .ret e g = Q .ret e g:=rfl
theorem blkQ_same {id Q e g}:blkQ id Q (.ext id) e g = Q .nrm e g:=if_pos rfl
theorem blkQ_ne {id n Q e g} (h:n≠id):blkQ id Q (.ext n) e g = Q (.ext n) e g:=if_neg h
theorem W_reg {d ops e g Q}:W F (.reg d ops) e g Q = WR F d g.nx 0 ops e ⟨g.hp,g.nx + ops.length⟩ (nrmQ Q):=by
 unfold W WR;rw[cS_reg];apply propext
 constructor
 ·intro ⟨o,e',g',h,q⟩
  cases hc:regE (callS F) d g.nx 0 ops e ⟨g.hp,g.nx + ops.length⟩ with
  | none => rw[hc] at h;cases h
  | some r =>
    rw[hc] at h
    cases h
    exact ⟨_,_,rfl,q⟩
 ·intro ⟨e',g',h,q⟩
  rw[h]
  exact ⟨.nrm,e',g',rfl,q⟩
theorem nrmQ_is {Q e g}:nrmQ Q e g = Q .nrm e g:=rfl
theorem WR_nil {d b j e g K}:WR F d b j [] e g K = K e g:=by
 unfold WR;apply propext
 simp only[regE_nil]
 exact ⟨fun ⟨e',g',h,q⟩ => by cases h;exact q,fun q => ⟨_,_,rfl,q⟩⟩
theorem WR_cons {d b j dst op grd pre os e g K}:WR F d b j ({ dst,op,grd,pre } :: os) e g K = selO F d b j dst os e op pre g K (wanted e grd):=by
 unfold WR;rw[regE_cons]
 generalize wanted e grd = w
 cases w
 ·rfl
 ·rw[selR_true]
  show _ = bindO _ _ _ _ _ _ _ _ _
  cases opE (callS F) (allow d b pre) b (b + j) op e g with
  | none =>
    apply propext
    constructor
    ·intro ⟨_,_,h,_⟩;cases h
    ·intro h;exact False.elim h
  | some r => rfl
theorem selO_true {d b j dst os e op pre g K}:selO F d b j dst os e op pre g K true = bindO F d b (j + 1) dst os e K (opE (callS F) (allow d b pre) b (b + j) op e g):=rfl
theorem selO_false {d b j dst os e op pre g K}:selO F d b j dst os e op pre g K false = WR F d b (j + 1) os (put e dst .undef) g K:=rfl
theorem bindO_some {d b j dst os e K v g}:bindO F d b j dst os e K (some (v,g)) = WR F d b j os (put e dst v) g K:=rfl
theorem W_mono {c e g} {Q Q':Out→Env→G→Prop} (h:W F c e g Q) (hq:∀ o e g,Q o e g→Q' o e g):W F c e g Q':=by
 obtain ⟨o,e',g',h1,h2⟩:=h;exact ⟨o,e',g',h1,hq _ _ _ h2⟩
def loopQ (I:Nat→Env→G→Prop) (m:Nat) (Q:Out→Env→G→Prop):Out→Env→G→Prop
 | .nrm,e,g => ∃ m',m' < m∧I m' e g
 | o,e,g => Q o e g
theorem loopQ_nrm {I m Q e g}:loopQ I m Q .nrm e g = ∃ m',m' < m∧I m' e g:=rfl
theorem loopQ_ext {I m Q n e g}:loopQ I m Q (.ext n) e g = Q (.ext n) e g:=rfl
theorem loopQ_ret {I m Q e g}:loopQ I m Q .ret e g = Q .ret e g:=rfl
theorem W_loop {c e g Q} (I:Nat→Env→G→Prop) (n:Nat) (h0:I n e g) (h:∀ m e g,I m e g→W F c e g (loopQ I m Q)):W F (.loop c) e g Q:=by
 have key:∀ m e g,I m e g→W F (.loop c) e g Q:=by
  intro m
  induction m using Nat.strongRecOn with
  | _ m ih =>
    intro e g hI
    obtain ⟨o,e1,g1,h1,h2⟩:=h m e g hI
    unfold W
    rw[cS_loop,h1]
    cases o with
    | nrm =>
      obtain ⟨m',hm,hI'⟩:=h2
      exact ih m' hm e1 g1 hI'
    | ext n => exact ⟨_,_,_,rfl,h2⟩
    | ret => exact ⟨_,_,_,rfl,h2⟩
 exact key n e g h0
noncomputable def pureS (F:Funs) (f:Nat) (asx:List AV):Option AV:=match callS F f asx g0 with
 | some (v,g) => frz g.hp depth v
 | none => none
noncomputable def vPure (F:Funs) (al:Nat→Bool) (f:AV) (args:List AV) (g:G):Option (AV × G):=vCall (callS F) al 0 .pure f args g
theorem o_pure {al lo id e g} (f:Opd) (asx:List Opd):opE (callS F) al lo id (.call .pure f asx) e g = vPure F al (f.ev e) (asx.map (·.ev e)) g:=rfl
theorem vPure_ok {al:Nat→Bool} {fid:Nat} {fst caps args bs:List AV} {g:G} {v:AV} (h1:frzL (rd g al) depth (fst ++ args ++ caps) = some bs) (h2:pureS F fid bs = some v) (h3:(flat v || ((fst ++ args ++ caps).flatMap (vis (rd g al) depth)).isEmpty) = true):
  vPure F al (.fn fid fst caps) args g = some (v,g):=by
 unfold pureS at h2
 split at h2
 ·rename_i v0 g' hc
  have hc':callS F fid bs ⟨fun _ => none,0⟩ = some (v0,g'):=hc
  unfold vPure vCall
  simp only[h1,hc',h2,h3,if_true]
 ·cases h2
def retQ (rs:List ARes) (v:AV):Out→Env→G→Prop
 | .ext _,_,_ => False
 | _,e,g => (match resE rs e g with | some v0 => frz g.hp depth v0 | none => none) = some v
theorem retQ_nrm {rs v e g}:retQ rs v .nrm e g = ((match resE rs e g with | some v0 => frz g.hp depth v0 | none => none) = some v):=rfl
theorem retQ_ret {rs v e g}:retQ rs v .ret e g = ((match resE rs e g with | some v0 => frz g.hp depth v0 | none => none) = some v):=rfl
theorem pure_of {f:Nat} {fn:AFun} {asx:List AV} {v:AV} (hF:F f = some fn) (h:W F fn.body (argEnv asx) g0 (retQ fn.res v)) (ha:arB fn asx = true:=by rfl):pureS F f asx = some v:=by
 obtain ⟨o,e,g,h1,h2⟩:=h
 unfold pureS
 rw[callS_eq,hF]
 simp only[ha,h1]
 cases o with
 | ext n => exact h2.elim
 | nrm =>
   have h2:(match resE fn.res e g with | some v0 => frz g.hp depth v0 | none => none) = some v:=h2
   cases hr:resE fn.res e g with
   | none => rw[hr] at h2;cases h2
   | some v0 => rw[hr] at h2;simp only[hr,Option.map_some];exact h2
 | ret =>
   have h2:(match resE fn.res e g with | some v0 => frz g.hp depth v0 | none => none) = some v:=h2
   cases hr:resE fn.res e g with
   | none => rw[hr] at h2;cases h2
   | some v0 => rw[hr] at h2;simp only[hr,Option.map_some];exact h2
end
theorem argEnv_0 (a l):argEnv (a :: l) 0 = a:=rfl
theorem argEnv_1 (a b l):argEnv (a :: b :: l) 1 = b:=rfl
theorem argEnv_2 (a b c l):argEnv (a :: b :: c :: l) 2 = c:=rfl
theorem argEnv_3 (a b c d l):argEnv (a :: b :: c :: d :: l) 3 = d:=rfl
theorem argEnv_4 (a b c d e l):argEnv (a :: b :: c :: d :: e :: l) 4 = e:=rfl
theorem argEnv_5 (a b c d e f l):argEnv (a :: b :: c :: d :: e :: f :: l) 5 = f:=rfl
theorem res_1 (n e g):resE [.t n] e g = some (e n):=rfl
theorem res_2 (n m e g):resE [.t n,.t m] e g = some (.tup [e n,e m]):=rfl
theorem frz_flat {hp} {d:Nat} {v:AV} (h:flat v = true):frz hp (d + 1) v = some v:=by cases v<;>first | (cases h;done) | simp only[frz]
theorem frzL_flat {hp} {d:Nat}:∀ {cs:List AV},cs.all flat = true→frzL hp (d + 1) cs = some cs
 | [],_ => by simp only[frzL]
 | c :: cs,h => by
   simp only[List.all_cons,Bool.and_eq_true] at h
   simp only[frzL,frz_flat h.1,frzL_flat h.2]
theorem frzL_nil (hp d):frzL hp d [] = some []:=by simp only[frzL]
def consO (c:Option AV) (cs:Option (List AV)):Option (List AV):=match c,cs with
 | some c,some cs => some (c :: cs)
 | _,_ => none
theorem consO_ok (c cs):consO (some c) (some cs) = some (c :: cs):=rfl
theorem frzL_cons (hp d c cs):frzL hp d (c :: cs) = consO (frz hp d c) (frzL hp d cs):=by
 simp only[frzL]
 cases frz hp d c<;>cases frzL hp d cs<;>rfl
theorem frz_d_i (hp k n):frz hp depth (.i k n) = some (.i k n):=by show frz hp (8 + 1) _ = _;simp only[frz]
theorem frz_d_b (hp x):frz hp depth (.b x) = some (.b x):=by show frz hp (8 + 1) _ = _;simp only[frz]
theorem frz_d_s (hp x):frz hp depth (.s x) = some (.s x):=by show frz hp (8 + 1) _ = _;simp only[frz]
theorem frz_d_nilp (hp):frz hp depth .nilp = some .nilp:=by show frz hp (8 + 1) _ = _;simp only[frz]
theorem frz_d_ptr (hp cs):frz hp depth (.ptr cs) = some (.ptr cs):=by show frz hp (8 + 1) _ = _;simp only[frz]
theorem frz_d_sl (hp cs n t):frz hp depth (.sl cs n t) = some (.sl cs n .non):=by show frz hp (8 + 1) _ = _;simp only[frz]
theorem frz_d_fn0 (hp f):frz hp depth (.fn f [] []) = some (.fn f [] []):=by show frz hp (8 + 1) _ = _;simp only[frz,frzL]
noncomputable def frzB (hp:Nat→Option Blk) (off:Nat) (cs:List AV) (x:Bool):Option (List AV):=if x then some (cs.drop off) else frzL hp 8 (cs.drop off)
noncomputable def frzP (hp:Nat→Option Blk) (off:Nat) (f:List AV→AV):Option Blk→Option AV
 | some (.cells cs _) => (frzB hp off cs (cs.all flat)).map f
 | _ => none
theorem frzB_eq (hp:Nat→Option Blk) (off:Nat) (cs:List AV):frzB hp off cs (cs.all flat) = frzL hp 8 (cs.drop off):=by
 unfold frzB
 split
 ·rename_i hf
  refine (frzL_flat ?_).symm
  rw[List.all_eq_true] at hf ⊢
  exact fun x hx => hf x (List.mem_of_mem_drop hx)
 ·rfl
theorem frz_P (hp:Nat→Option Blk) (id off:Nat):frz hp depth (.mp id off) = frzP hp off .ptr (hp id):=by
 show frz hp (8 + 1) _ = _
 simp only[frz]
 unfold frzP
 simp only[frzB_eq]
 cases hp id with
 | none => rfl
 | some b => cases b<;>rfl
theorem frz_Q (hp:Nat→Option Blk) (id off n:Nat):frz hp depth (.ms id off n) = frzP hp off (fun cs => .sl cs n .non) (hp id):=by
 show frz hp (8 + 1) _ = _
 simp only[frz]
 unfold frzP
 simp only[frzB_eq]
 cases hp id with
 | none => rfl
 | some b => cases b<;>rfl
theorem frzP_cells (hp off f cs ro):frzP hp off f (some (.cells cs ro)) = (frzB hp off cs (cs.all flat)).map f:=rfl
theorem frzB_true (hp off cs):frzB hp off cs true = some (cs.drop off):=rfl
theorem map_some' (f:List AV→AV) (cs:List AV):(some cs).map f = some (f cs):=rfl
noncomputable def purD (g:G) (vs:List Nat):Option AV→Option (AV × G)
 | some v => if flat v || vs.isEmpty then some (v,g) else none
 | none => none
def purE (g:G) (v:AV) (x:Bool):Option (AV × G):=if x then some (v,g) else none
theorem purD_some (g vs v):purD g vs (some v) = purE g v (flat v || vs.isEmpty):=rfl
theorem purE_true (g v):purE g v true = some (v,g):=rfl
noncomputable def purS (F:Funs) (f:Nat) (g:G) (vs:List Nat):Option (List AV)→Option (AV × G)
 | some bs => purD g vs (pureS F f bs)
 | none => none
theorem purS_some (F f g vs bs):purS F f g vs (some bs) = purD g vs (pureS F f bs):=rfl
theorem vPure_S (F:Funs) (al:Nat→Bool) (fid:Nat) (fst args caps:List AV) (g:G):
  vPure F al (.fn fid fst caps) args g = purS F fid g ((fst ++ args ++ caps).flatMap (vis (rd g al) depth)) (frzL (rd g al) depth (fst ++ args ++ caps)):=by
 unfold vPure vCall
 simp only
 cases frzL (rd g al) depth (fst ++ args ++ caps) with
 | none => rfl
 | some bs =>
   rw[purS_some]
   unfold pureS g0
   simp only
   cases callS F fid bs ⟨fun _ => none,0⟩ with
   | none => rfl
   | some r =>
     obtain ⟨v,g'⟩:=r
     simp only
     cases frz g'.hp depth v with
     | none => rfl
     | some v' => rfl
theorem flat_i (k n):flat (.i k n) = true:=rfl
theorem flat_b (x):flat (.b x) = true:=rfl
theorem flat_s (x):flat (.s x) = true:=rfl
theorem flat_nilp:flat .nilp = true:=rfl
theorem flat_ptr (x):flat (.ptr x) = false:=rfl
theorem flat_sl (a b c):flat (.sl a b c) = false:=rfl
theorem flat_agg (a):flat (.agg a) = false:=rfl
theorem flat_tup (a):flat (.tup a) = false:=rfl
theorem vis_i (hp k n):vis hp depth (.i k n) = []:=by show vis hp (8 + 1) _ = _;simp only[vis]
theorem vis_b (hp x):vis hp depth (.b x) = []:=by show vis hp (8 + 1) _ = _;simp only[vis]
theorem vis_s (hp x):vis hp depth (.s x) = []:=by show vis hp (8 + 1) _ = _;simp only[vis]
theorem vis_nilp (hp):vis hp depth .nilp = []:=by show vis hp (8 + 1) _ = _;simp only[vis]
theorem vis_ptr (hp x):vis hp depth (.ptr x) = []:=by show vis hp (8 + 1) _ = _;simp only[vis]
theorem vis_sl (hp a b c):vis hp depth (.sl a b c) = []:=by show vis hp (8 + 1) _ = _;simp only[vis]
theorem vis_fn0 (hp f):vis hp depth (.fn f [] []) = []:=by show vis hp (8 + 1) _ = _;simp only[vis,List.flatMap_nil,List.append_nil]
theorem isEmpty_nil:([]:List Nat).isEmpty = true:=rfl
def midQ (M:Env→G→Prop):Out→Env→G→Prop
 | .nrm,e,g => M e g
 | _,_,_ => False
theorem midQ_nrm {M e g}:midQ M .nrm e g = M e g:=rfl
theorem frz_b_inv {hp:Nat→Option Blk} {k:Nat} {v:AV} {b:Bool} (h:frz hp (k + 1) v = some (.b b)):v = .b b:=by
 cases v with
 | b x => simp only[frz] at h;cases h;rfl
 | agg cs => simp only[frz] at h;cases hf:frzL hp k cs<;>rw[hf] at h<;>cases h
 | tup cs => simp only[frz] at h;cases hf:frzL hp k cs<;>rw[hf] at h<;>cases h
 | mp id off =>
   simp only[frz] at h
   split at h
   ·cases hf:frzL hp k (List.drop off _)<;>rw[hf] at h<;>cases h
   ·cases h
 | ms id off n =>
   simp only[frz] at h
   split at h
   ·cases hf:frzL hp k (List.drop off _)<;>rw[hf] at h<;>cases h
   ·cases h
 | fn f asx bs => simp only[frz] at h;split at h<;>cases h
 | ifc t w => simp only[frz] at h;cases hf:frz hp k w<;>rw[hf] at h<;>cases h
 | _ => simp only[frz] at h;cases h
theorem pureS_bool {F:Funs} {f:Nat} {asx:List AV} {b:Bool} (h:pureS F f asx = some (.b b)):∃ k g',callE F k f asx g0 = some (.b b,g'):=by
 unfold pureS at h
 split at h
 ·rename_i v g hc
  have:=frz_b_inv (k:=8) h
  subst this
  obtain ⟨k,hk⟩:=(callS_some F).1 hc
  exact ⟨k,g,hk⟩
 ·cases h
def retB (rs:List ARes) (P:Bool→Prop):Out→Env→G→Prop
 | .ext _,_,_ => False
 | _,e,g => ∃ b,resE rs e g = some (.b b)∧P b
theorem retB_nrm {rs P e g}:retB rs P .nrm e g = (∃ b,resE rs e g = some (.b b)∧P b):=rfl
theorem retB_ret {rs P e g}:retB rs P .ret e g = (∃ b,resE rs e g = some (.b b)∧P b):=rfl
theorem pureB_of {F:Funs} {f:Nat} {fn:AFun} {asx:List AV} {P:Bool→Prop} (hF:F f = some fn) (h:W F fn.body (argEnv asx) g0 (retB fn.res P)) (ha:arB fn asx = true:=by rfl):∃ b,pureS F f asx = some (.b b)∧P b:=by
 obtain ⟨o,e,g,h1,h2⟩:=h
 have key:∀ (b:Bool),resE fn.res e g = some (.b b)→pureS F f asx = some (.b b)∨∃ n,o = .ext n:=by
  intro b hb
  cases o with
  | ext n => exact .inr ⟨n,rfl⟩
  | nrm =>
    left
    unfold pureS
    rw[callS_eq,hF]
    simp only[ha,h1,hb,Option.map_some,frz_d_b]
  | ret =>
    left
    unfold pureS
    rw[callS_eq,hF]
    simp only[ha,h1,hb,Option.map_some,frz_d_b]
 cases o with
 | ext n => exact h2.elim
 | nrm =>
   obtain ⟨b,hb,hP⟩:=h2
   rcases key b hb with h | ⟨n,h⟩
   ·exact ⟨b,h,hP⟩
   ·cases h
 | ret =>
   obtain ⟨b,hb,hP⟩:=h2
   rcases key b hb with h | ⟨n,h⟩
   ·exact ⟨b,h,hP⟩
   ·cases h
theorem blk_cut {F:Funs} {c rest:ACode} {id:Nat} {e:Env} {g:G} {Q:Out→Env→G→Prop} (M:Env→G→Prop) (h1:W F c e g (blkQ id (midQ M))) (h2:∀ e g,M e g→W F rest e g Q):W F c e g (blkQ id (thenQ F rest Q)):=by
 refine W_mono h1 fun o e g h => ?_
 cases o with
 | nrm => exact h2 e g h
 | ret => exact h.elim
 | ext n =>
   have h:if n = id then midQ M .nrm e g else midQ M (.ext n) e g:=h
   show if n = id then thenQ F rest Q .nrm e g else thenQ F rest Q (.ext n) e g
   by_cases hn:n = id
   ·rw[if_pos hn] at h ⊢;exact h2 e g h
   ·rw[if_neg hn] at h;exact h.elim
def midR (Q:Out→Env→G→Prop) (M:Env→G→Prop):Out→Env→G→Prop
 | .nrm,e,g => M e g
 | .ret,e,g => Q .ret e g
 | .ext _,_,_ => False
theorem midR_nrm {Q M e g}:midR Q M .nrm e g = M e g:=rfl
theorem midR_ret {Q M e g}:midR Q M .ret e g = Q .ret e g:=rfl
theorem blk_cutR {F:Funs} {c rest:ACode} {id:Nat} {e:Env} {g:G} {Q:Out→Env→G→Prop} (M:Env→G→Prop) (h1:W F c e g (blkQ id (midR Q M))) (h2:∀ e g,M e g→W F rest e g Q):W F c e g (blkQ id (thenQ F rest Q)):=by
 refine W_mono h1 fun o e g h => ?_
 cases o with
 | nrm => exact h2 e g h
 | ret => exact h
 | ext n =>
   have h:if n = id then midR Q M .nrm e g else midR Q M (.ext n) e g:=h
   show if n = id then thenQ F rest Q .nrm e g else thenQ F rest Q (.ext n) e g
   by_cases hn:n = id
   ·rw[if_pos hn] at h ⊢;exact h2 e g h
   ·rw[if_neg hn] at h;exact h.elim
theorem wp:type_of% (And.intro (And.intro (And.intro (And.intro (And.intro (And.intro (And.intro @W_skip (And.intro @W_ext @W_ret)) (And.intro (And.intro @W_seq @thenQ_nrm) (And.intro @thenQ_ext @thenQ_ret))) (And.intro (And.intro (And.intro @W_cond @selW_true) (And.intro @selW_false @W_blk)) (And.intro (And.intro @blkQ_nrm @blkQ_ret) (And.intro @blkQ_same @blkQ_ne)))) (And.intro (And.intro (And.intro @W_reg (And.intro @nrmQ_is @WR_nil)) (And.intro (And.intro @WR_cons @selO_true) (And.intro @selO_false @bindO_some))) (And.intro (And.intro (And.intro @loopQ_nrm @loopQ_ext) (And.intro @loopQ_ret @wanted_none)) (And.intro (And.intro @wanted_some @wantV_1) (And.intro @wantV_0 @wantV_undef))))) (And.intro (And.intro (And.intro (And.intro @ev_t (And.intro @ev_c @put_some)) (And.intro (And.intro @put_none @upd_same) (And.intro @upd_ne @List.length_cons.{0}))) (And.intro (And.intro (And.intro @List.length_nil.{0} @List.map_cons.{0,0}) (And.intro @List.map_nil.{0,0} @allow_no)) (And.intro (And.intro @allow_lt @argEnv_0) (And.intro @argEnv_1 @argEnv_2)))) (And.intro (And.intro (And.intro (And.intro @argEnv_3 @argEnv_4) (And.intro @argEnv_5 @res_1)) (And.intro (And.intro @res_2 @retQ_nrm) (And.intro @retQ_ret @o_mv))) (And.intro (And.intro (And.intro @o_pick @vPick_t) (And.intro @vPick_f @o_new)) (And.intro (And.intro @o_box @vBox_S) (And.intro @boxD_ok @vMap_some)))))) (And.intro (And.intro (And.intro (And.intro (And.intro @vMapL_some (And.intro @o_build @o_ld)) (And.intro (And.intro @vLd_ptr @vLd_S) (And.intro @ldS_ok @selB_true))) (And.intro (And.intro (And.intro @o_st @vSt_S) (And.intro @stS_ok @stD_ok)) (And.intro (And.intro @o_nilck @vNil_ptr) (And.intro @vNil_mp @vNil_fn)))) (And.intro (And.intro (And.intro (And.intro @o_bin @o_un) (And.intro @o_mkfn @o_fa)) (And.intro (And.intro @vFa_mp @vFa_S) (And.intro @faD_ok @o_fld))) (And.intro (And.intro (And.intro @vFld_agg @o_ia) (And.intro @vIa_sl @vIa_ms)) (And.intro (And.intro @o_iaa @vIaa_ptr) (And.intro @vIaa_mp @o_len))))) (And.intro (And.intro (And.intro (And.intro @vLen_sl (And.intro @vLen_ms @o_mx)) (And.intro (And.intro @o_mn @vMx_i) (And.intro @vMn_i @o_ext))) (And.intro (And.intro (And.intro @vExt_tup @b_add) (And.intro @b_sub @b_mul)) (And.intro (And.intro @b_lss @b_leq) (And.intro @b_gtr @b_geq)))) (And.intro (And.intro (And.intro (And.intro @b_eql @b_neq) (And.intro @o_pure @List.nil_append.{0})) (And.intro (And.intro @List.append_nil.{0} @List.cons_append.{0}) (And.intro @frz_d_i @frz_d_b))) (And.intro (And.intro (And.intro @frz_d_s @frz_d_nilp) (And.intro @frz_d_ptr @frz_d_sl)) (And.intro (And.intro @frz_d_fn0 @Bool.not_true) (And.intro @Bool.not_false @Bool.true_and))))))) (And.intro (And.intro (And.intro (And.intro (And.intro (And.intro @Bool.and_true (And.intro @Bool.false_and @Bool.and_false)) (And.intro (And.intro @decide_true @decide_false) (And.intro @beq_self_eq_true.{0} @Bool.true_eq_false))) (And.intro (And.intro (And.intro @Bool.false_eq_true @Nat.zero_add) (And.intro @Nat.add_zero @Int.toNat_natCast)) (And.intro (And.intro @ge_iff_le.{0} @gt_iff_lt.{0}) (And.intro @fill_S @fillD_ok)))) (And.intro (And.intro (And.intro (And.intro @fill_nil @cellsOf_agg) (And.intro @cellsOf_i @cellsOf_b)) (And.intro (And.intro @cellsOf_s @cellsOf_ptr) (And.intro @cellsOf_nilp @cellsOf_sl))) (And.intro (And.intro (And.intro @cellsOf_mp @cellsOf_fn) (And.intro @one_i @one_b)) (And.intro (And.intro @one_s @one_ptr) (And.intro @one_nilp @one_sl))))) (And.intro (And.intro (And.intro (And.intro @one_mp (And.intro @one_fn @List.all_cons.{0})) (And.intro (And.intro @List.all_nil.{0} @splice_1) (And.intro @splice_2 @splice_3))) (And.intro (And.intro (And.intro @part_0 @part_1) (And.intro @part_2 @drop_0)) (And.intro (And.intro @g0_nx @g0_hp) (And.intro @List.set_cons_zero.{0} @List.set_cons_succ.{0})))) (And.intro (And.intro (And.intro (And.intro @List.length_append.{0} @List.length_replicate.{0}) (And.intro @eq_self.{1} @true_and)) (And.intro (And.intro @and_true @vPure_S) (And.intro @purS_some @purD_some))) (And.intro (And.intro (And.intro @purE_true @frzL_cons) (And.intro @frzL_nil @consO_ok)) (And.intro (And.intro @flat_i @flat_b) (And.intro @flat_s @flat_nilp)))))) (And.intro (And.intro (And.intro (And.intro (And.intro @flat_ptr (And.intro @flat_sl @flat_agg)) (And.intro (And.intro @flat_tup @vis_i) (And.intro @vis_b @vis_s))) (And.intro (And.intro (And.intro @vis_nilp @vis_ptr) (And.intro @vis_sl @vis_fn0)) (And.intro (And.intro @List.flatMap_cons.{0,0} @List.flatMap_nil.{0,0}) (And.intro @isEmpty_nil @Bool.true_or)))) (And.intro (And.intro (And.intro (And.intro @Bool.false_or @Bool.or_true) (And.intro @Bool.or_false @frz_P)) (And.intro (And.intro @frz_Q @frzP_cells) (And.intro @frzB_true @map_some'))) (And.intro (And.intro (And.intro @rd_S @o_bsl) (And.intro @vBsl_t @vBsl_f)) (And.intro (And.intro @o_app @appD_ok) (And.intro @vApp_rig @vApp_rig0))))) (And.intro (And.intro (And.intro (And.intro @appK_ok (And.intro @vApp_own @o_eqn)) (And.intro (And.intro @o_eqb @o_eqa) (And.intro @aeqn_pn @aeqn_np))) (And.intro (And.intro (And.intro @aeqn_mn @aeqn_nn) (And.intro @aeqb_bb @negb_t)) (And.intro (And.intro @negb_f @aun_not) (And.intro @midQ_nrm @part_3)))) (And.intro (And.intro (And.intro (And.intro @part_4 @part_5) (And.intro @cellsOf_ms @one_ms)) (And.intro (And.intro @Int.toNat_zero @Nat.zero_mul) (And.intro @o_stL @andLe_ok))) (And.intro (And.intro (And.intro @allow_hd @allow_h2) (And.intro @retB_nrm @retB_ret)) (And.intro (And.intro @midR_nrm @midR_ret) (And.intro @W_scp @W_lab)))))))):=(And.intro (And.intro (And.intro (And.intro (And.intro (And.intro (And.intro @W_skip (And.intro @W_ext @W_ret)) (And.intro (And.intro @W_seq @thenQ_nrm) (And.intro @thenQ_ext @thenQ_ret))) (And.intro (And.intro (And.intro @W_cond @selW_true) (And.intro @selW_false @W_blk)) (And.intro (And.intro @blkQ_nrm @blkQ_ret) (And.intro @blkQ_same @blkQ_ne)))) (And.intro (And.intro (And.intro @W_reg (And.intro @nrmQ_is @WR_nil)) (And.intro (And.intro @WR_cons @selO_true) (And.intro @selO_false @bindO_some))) (And.intro (And.intro (And.intro @loopQ_nrm @loopQ_ext) (And.intro @loopQ_ret @wanted_none)) (And.intro (And.intro @wanted_some @wantV_1) (And.intro @wantV_0 @wantV_undef))))) (And.intro (And.intro (And.intro (And.intro @ev_t (And.intro @ev_c @put_some)) (And.intro (And.intro @put_none @upd_same) (And.intro @upd_ne @List.length_cons.{0}))) (And.intro (And.intro (And.intro @List.length_nil.{0} @List.map_cons.{0,0}) (And.intro @List.map_nil.{0,0} @allow_no)) (And.intro (And.intro @allow_lt @argEnv_0) (And.intro @argEnv_1 @argEnv_2)))) (And.intro (And.intro (And.intro (And.intro @argEnv_3 @argEnv_4) (And.intro @argEnv_5 @res_1)) (And.intro (And.intro @res_2 @retQ_nrm) (And.intro @retQ_ret @o_mv))) (And.intro (And.intro (And.intro @o_pick @vPick_t) (And.intro @vPick_f @o_new)) (And.intro (And.intro @o_box @vBox_S) (And.intro @boxD_ok @vMap_some)))))) (And.intro (And.intro (And.intro (And.intro (And.intro @vMapL_some (And.intro @o_build @o_ld)) (And.intro (And.intro @vLd_ptr @vLd_S) (And.intro @ldS_ok @selB_true))) (And.intro (And.intro (And.intro @o_st @vSt_S) (And.intro @stS_ok @stD_ok)) (And.intro (And.intro @o_nilck @vNil_ptr) (And.intro @vNil_mp @vNil_fn)))) (And.intro (And.intro (And.intro (And.intro @o_bin @o_un) (And.intro @o_mkfn @o_fa)) (And.intro (And.intro @vFa_mp @vFa_S) (And.intro @faD_ok @o_fld))) (And.intro (And.intro (And.intro @vFld_agg @o_ia) (And.intro @vIa_sl @vIa_ms)) (And.intro (And.intro @o_iaa @vIaa_ptr) (And.intro @vIaa_mp @o_len))))) (And.intro (And.intro (And.intro (And.intro @vLen_sl (And.intro @vLen_ms @o_mx)) (And.intro (And.intro @o_mn @vMx_i) (And.intro @vMn_i @o_ext))) (And.intro (And.intro (And.intro @vExt_tup @b_add) (And.intro @b_sub @b_mul)) (And.intro (And.intro @b_lss @b_leq) (And.intro @b_gtr @b_geq)))) (And.intro (And.intro (And.intro (And.intro @b_eql @b_neq) (And.intro @o_pure @List.nil_append.{0})) (And.intro (And.intro @List.append_nil.{0} @List.cons_append.{0}) (And.intro @frz_d_i @frz_d_b))) (And.intro (And.intro (And.intro @frz_d_s @frz_d_nilp) (And.intro @frz_d_ptr @frz_d_sl)) (And.intro (And.intro @frz_d_fn0 @Bool.not_true) (And.intro @Bool.not_false @Bool.true_and))))))) (And.intro (And.intro (And.intro (And.intro (And.intro (And.intro @Bool.and_true (And.intro @Bool.false_and @Bool.and_false)) (And.intro (And.intro @decide_true @decide_false) (And.intro @beq_self_eq_true.{0} @Bool.true_eq_false))) (And.intro (And.intro (And.intro @Bool.false_eq_true @Nat.zero_add) (And.intro @Nat.add_zero @Int.toNat_natCast)) (And.intro (And.intro @ge_iff_le.{0} @gt_iff_lt.{0}) (And.intro @fill_S @fillD_ok)))) (And.intro (And.intro (And.intro (And.intro @fill_nil @cellsOf_agg) (And.intro @cellsOf_i @cellsOf_b)) (And.intro (And.intro @cellsOf_s @cellsOf_ptr) (And.intro @cellsOf_nilp @cellsOf_sl))) (And.intro (And.intro (And.intro @cellsOf_mp @cellsOf_fn) (And.intro @one_i @one_b)) (And.intro (And.intro @one_s @one_ptr) (And.intro @one_nilp @one_sl))))) (And.intro (And.intro (And.intro (And.intro @one_mp (And.intro @one_fn @List.all_cons.{0})) (And.intro (And.intro @List.all_nil.{0} @splice_1) (And.intro @splice_2 @splice_3))) (And.intro (And.intro (And.intro @part_0 @part_1) (And.intro @part_2 @drop_0)) (And.intro (And.intro @g0_nx @g0_hp) (And.intro @List.set_cons_zero.{0} @List.set_cons_succ.{0})))) (And.intro (And.intro (And.intro (And.intro @List.length_append.{0} @List.length_replicate.{0}) (And.intro @eq_self.{1} @true_and)) (And.intro (And.intro @and_true @vPure_S) (And.intro @purS_some @purD_some))) (And.intro (And.intro (And.intro @purE_true @frzL_cons) (And.intro @frzL_nil @consO_ok)) (And.intro (And.intro @flat_i @flat_b) (And.intro @flat_s @flat_nilp)))))) (And.intro (And.intro (And.intro (And.intro (And.intro @flat_ptr (And.intro @flat_sl @flat_agg)) (And.intro (And.intro @flat_tup @vis_i) (And.intro @vis_b @vis_s))) (And.intro (And.intro (And.intro @vis_nilp @vis_ptr) (And.intro @vis_sl @vis_fn0)) (And.intro (And.intro @List.flatMap_cons.{0,0} @List.flatMap_nil.{0,0}) (And.intro @isEmpty_nil @Bool.true_or)))) (And.intro (And.intro (And.intro (And.intro @Bool.false_or @Bool.or_true) (And.intro @Bool.or_false @frz_P)) (And.intro (And.intro @frz_Q @frzP_cells) (And.intro @frzB_true @map_some'))) (And.intro (And.intro (And.intro @rd_S @o_bsl) (And.intro @vBsl_t @vBsl_f)) (And.intro (And.intro @o_app @appD_ok) (And.intro @vApp_rig @vApp_rig0))))) (And.intro (And.intro (And.intro (And.intro @appK_ok (And.intro @vApp_own @o_eqn)) (And.intro (And.intro @o_eqb @o_eqa) (And.intro @aeqn_pn @aeqn_np))) (And.intro (And.intro (And.intro @aeqn_mn @aeqn_nn) (And.intro @aeqb_bb @negb_t)) (And.intro (And.intro @negb_f @aun_not) (And.intro @midQ_nrm @part_3)))) (And.intro (And.intro (And.intro (And.intro @part_4 @part_5) (And.intro @cellsOf_ms @one_ms)) (And.intro (And.intro @Int.toNat_zero @Nat.zero_mul) (And.intro @o_stL @andLe_ok))) (And.intro (And.intro (And.intro @allow_hd @allow_h2) (And.intro @retB_nrm @retB_ret)) (And.intro (And.intro @midR_nrm @midR_ret) (And.intro @W_scp @W_lab))))))))
end Go.Ab
end
section
set_option linter.unusedVariables false
set_option linter.unusedSimpArgs false
namespace Go.Ab
open Go.RowKit
def c0 (num:Nat→Nat) (w:World):Cx:=⟨num,w.heap.size,fun _ => True,w,fun _ => (0,0),fun _ => none⟩
theorem row_callsG {P:Program} {num:Nat→Nat} {F:Funs} (hT:Table P num F) (hm:P.follows .mixedOrders = true) {f:Nat} {asx:List AV} {b:Bool} (h:pureS F f asx = some (.b b)) {w:World} {vargs:List Value} (hr:Reps (c0 num w) true asx vargs) (hgl:GlOk (c0 num w)):
  Calls P (num f) vargs.toArray w (fun e w' => e = .returned (.bool b)∧Below w.heap.size w w'):=by
 obtain ⟨k,g',hk⟩:=pureS_bool h
 have K:Ok (c0 num w) 0:={
  basele:=Nat.le_refl _
  cells:=fun _ _ _ h => by cases h
  maps:=fun _ _ h => by cases h
  toks:=fun _ h => by cases h
  inj:=fun _ _ _ h => by obtain ⟨_,h,_⟩:=h;cases h
  fresh:=fun _ _ => rfl
  gl:=hgl }
 have:=((callE_ok hT hm k).2 f asx g0 _ _ hk).2 (c0 num w) vargs rfl rfl K hr
 refine Calls.mono this.1 fun e w' ⟨val,c',h1,h2,E,_,_,hrep⟩ => ?_
 cases hrep
 exact ⟨h1,h2 ▸ E.below⟩
theorem row_calls {P:Program} {num:Nat→Nat} {F:Funs} (hT:Table P num F) (hm:P.follows .mixedOrders = true) (hz:num 1000000 = 0) {f:Nat} {asx:List AV} {b:Bool} (h:pureS F f asx = some (.b b)) {w:World} {vargs:List Value} (hr:Reps (c0 num w) true asx vargs):
  Calls P (num f) vargs.toArray w (fun e w' => e = .returned (.bool b)∧Below w.heap.size w w'):=
 row_callsG hT hm h hr fun k h => by rw[show (c0 num w).num 1000000 = 0 from hz] at h;cases h
def intsC (l:List Int):List AV:=l.map fun v => .i .i64 v
def pairsC (l:List (Int × Int)):List AV:=l.flatMap fun p => [.i .i64 p.1,.i .i64 p.2]
end Go.Ab
end
section
set_option linter.unusedVariables false
set_option linter.unusedSimpArgs false
namespace Go.Ab
def cmpL:List Int→List Int→Int
 | [],[] => 0
 | [],_ :: _ => -1
 | _ :: _,[] => 1
 | a :: x,b :: y => if a < b then -1 else if b < a then 1 else cmpL x y
theorem cmpL_zero:∀ {x y:List Int},cmpL x y = 0↔x = y
 | [],[] => by simp[cmpL]
 | [],_ :: _ => by simp[cmpL]
 | _ :: _,[] => by simp[cmpL]
 | a :: x,b :: y => by
   unfold cmpL
   split
   ·simp;omega
   split
   ·simp;omega
   ·rw[cmpL_zero]
    simp
    omega
theorem cmpL_rev:∀ (x y:List Int),cmpL y x = -cmpL x y
 | [],[] => rfl
 | [],_ :: _ => rfl
 | _ :: _,[] => rfl
 | a :: x,b :: y => by
   unfold cmpL
   by_cases h1:a < b
   ·rw[if_neg (by omega),if_pos h1,if_pos h1]
    rfl
   ·by_cases h2:b < a
    ·rw[if_pos h2,if_neg h1,if_pos h2]
    ·rw[if_neg h2,if_neg h1,if_neg h1,if_neg h2,cmpL_rev x y]
def ltL (x y:List Int):Prop:=cmpL x y < 0
instance (x y:List Int):Decidable (ltL x y):=by unfold ltL;infer_instance
theorem ltL_irrefl (x:List Int):¬ ltL x x:=by unfold ltL;rw[cmpL_zero.2 rfl];omega
theorem ltL_trans:∀ {x y z:List Int},ltL x y→ltL y z→ltL x z
 | [],[],_,h,_ => by simp[ltL,cmpL] at h
 | _ :: _,[],_,h,_ => by simp[ltL,cmpL] at h
 | [],b :: y,[],_,h => by simp[ltL,cmpL] at h
 | [],b :: y,c :: z,_,_ => by simp[ltL,cmpL]
 | a :: x,b :: y,[],_,h => by simp[ltL,cmpL] at h
 | a :: x,b :: y,c :: z,h,k => by
   unfold ltL cmpL at *
   by_cases h1:a < b
   ·by_cases k1:b < c
    ·rw[if_pos (by omega)];omega
    ·rw[if_neg k1] at k
     by_cases k2:c < b
     ·rw[if_pos k2] at k;omega
     ·rw[if_pos (by omega)];omega
   ·rw[if_neg h1] at h
    by_cases h2:b < a
    ·rw[if_pos h2] at h;omega
    ·rw[if_neg h2] at h
     by_cases k1:b < c
     ·rw[if_pos (by omega)];omega
     ·rw[if_neg k1] at k
      by_cases k2:c < b
      ·rw[if_pos k2] at k;omega
      ·rw[if_neg k2] at k
       rw[if_neg (by omega),if_neg (by omega)]
       exact ltL_trans (x:=x) (y:=y) (z:=z) h k
theorem ltL_tot {x y:List Int} (h:¬ ltL x y) (h2:¬ ltL y x):x = y:=by
 unfold ltL at *
 rw[cmpL_rev x y] at h2
 exact cmpL_zero.1 (by omega)
def Rise (l:List (List Int)):Prop:=l.Pairwise ltL
theorem rise_ext:∀ {a b:List (List Int)},Rise a→Rise b→(∀ x,x∈a↔x∈b)→a = b
 | [],[],_,_,_ => rfl
 | [],y :: b,_,_,h => by have:=(h y).2 (List.mem_cons_self ..);cases this
 | x :: a,[],_,_,h => by have:=(h x).1 (List.mem_cons_self ..);cases this
 | x :: a,y :: b,ha,hb,h => by
   obtain ⟨a1,a2⟩:=List.pairwise_cons.1 ha
   obtain ⟨b1,b2⟩:=List.pairwise_cons.1 hb
   have hxy:x = y:=by
    rcases List.mem_cons.1 ((h x).1 (List.mem_cons_self ..)) with e | hx
    ·exact e
    ·rcases List.mem_cons.1 ((h y).2 (List.mem_cons_self ..)) with e | hy
     ·exact e.symm
     ·exact absurd (ltL_trans (a1 y hy) (b1 x hx)) (ltL_irrefl x)
   subst hxy
   rw[rise_ext a2 b2 fun z => ?_]
   constructor
   ·intro hz
    rcases List.mem_cons.1 ((h z).1 (List.mem_cons_of_mem _ hz)) with e | hz2
    ·subst e;exact absurd (a1 z hz) (ltL_irrefl z)
    ·exact hz2
   ·intro hz
    rcases List.mem_cons.1 ((h z).2 (List.mem_cons_of_mem _ hz)) with e | hz2
    ·subst e;exact absurd (b1 z hz) (ltL_irrefl z)
    ·exact hz2
def insL:List (List Int)→List Int→List (List Int)
 | [],v => [v]
 | a :: l,v => if ltL a v then a :: insL l v else if a = v then a :: l else v :: a :: l
theorem insL_mem:∀ {l:List (List Int)} {v x:List Int},x∈insL l v↔x∈l∨x = v
 | [],v,x => by simp[insL]
 | a :: l,v,x => by
   unfold insL
   split
   ·simp[insL_mem,or_assoc]
   ·split
    ·rename_i h1 h2
     subst h2
     simp only[List.mem_cons]
     exact ⟨fun h => .inl h,fun h => by rcases h with h | h;· exact h
                                        ·exact .inl h⟩
    ·simp only[List.mem_cons]
     refine ⟨fun h => ?_,fun h => ?_⟩
     ·rcases h with h | h | h
      ·exact .inr h
      ·exact .inl (.inl h)
      ·exact .inl (.inr h)
     ·rcases h with (h | h) | h
      ·exact .inr (.inl h)
      ·exact .inr (.inr h)
      ·exact .inl h
theorem insL_rise:∀ {l:List (List Int)} {v:List Int},Rise l→Rise (insL l v)
 | [],v,_ => by simp[insL,Rise]
 | a :: l,v,h => by
   obtain ⟨h1,h2⟩:=List.pairwise_cons.1 h
   unfold insL
   split
   ·rename_i hv
    refine List.pairwise_cons.2 ⟨fun x hx => ?_,insL_rise h2⟩
    rcases insL_mem.1 hx with hx | rfl
    ·exact h1 x hx
    ·exact hv
   ·split
    ·exact h
    ·rename_i hv hn
     have hva:ltL v a:=by
      by_cases c:ltL v a
      ·exact c
      ·exact absurd (ltL_tot hv c) hn
     refine List.pairwise_cons.2 ⟨fun x hx => ?_,h⟩
     rcases List.mem_cons.1 hx with rfl | hx
     ·exact hva
     ·exact ltL_trans hva (h1 x hx)
def srtL (l:List (List Int)):List (List Int):=l.foldl insL []
theorem srtL_gen:∀ (l acc:List (List Int)),Rise acc→Rise (l.foldl insL acc)∧∀ x,x∈l.foldl insL acc↔x∈acc∨x∈l
 | [],acc,h => ⟨h,fun x => by simp⟩
 | v :: l,acc,h => by
   obtain ⟨h1,h2⟩:=srtL_gen l (insL acc v) (insL_rise h)
   refine ⟨h1,fun x => ?_⟩
   rw[List.foldl_cons,h2,insL_mem,List.mem_cons,or_assoc]
theorem srtL_rise (l:List (List Int)):Rise (srtL l):=(srtL_gen l [] List.Pairwise.nil).1
theorem srtL_mem {l:List (List Int)} {x:List Int}:x∈srtL l↔x∈l:=by
 rw[show x∈srtL l↔_ from (srtL_gen l [] List.Pairwise.nil).2 x];simp
theorem srtL_len:∀ (l acc:List (List Int)),(l.foldl insL acc).length≤acc.length + l.length
 | [],acc => by simp
 | v :: l,acc => by
   have h:∀ (a:List (List Int)),(insL a v).length≤a.length + 1:=by
    intro a
    induction a with
    | nil => simp[insL]
    | cons b a ih =>
      unfold insL
      split
      ·simp;omega
      split
      ·simp
      ·simp
   have:=srtL_len l (insL acc v)
   have:=h acc
   simp only[List.foldl_cons,List.length_cons]
   omega
def SrtD (l:List (List Int)):Prop:=l.Pairwise fun x y => ¬ ltL y x
theorem srtD_ext:∀ {a b:List (List Int)},SrtD a→SrtD b→a.Perm b→a = b
 | [],b,_,_,h => (List.nil_perm.1 h).symm
 | x :: a,[],_,_,h => by have:=h.length_eq;simp at this
 | x :: a,y :: b,ha,hb,h => by
   obtain ⟨a1,a2⟩:=List.pairwise_cons.1 ha
   obtain ⟨b1,b2⟩:=List.pairwise_cons.1 hb
   have hxy:x = y:=by
    rcases List.mem_cons.1 (h.mem_iff.1 (List.mem_cons_self ..)) with e | hx
    ·exact e
    ·rcases List.mem_cons.1 (h.mem_iff.2 (List.mem_cons_self ..)) with e | hy
     ·exact e.symm
     ·exact ltL_tot (b1 x hx) (a1 y hy)
   subst hxy
   rw[srtD_ext a2 b2 (List.Perm.cons_inv h)]
def insD:List (List Int)→List Int→List (List Int)
 | [],v => [v]
 | a :: l,v => if ltL v a then v :: a :: l else a :: insD l v
theorem insD_perm:∀ (l:List (List Int)) (v:List Int),(insD l v).Perm (v :: l)
 | [],v => List.Perm.refl _
 | a :: l,v => by
   unfold insD
   split
   ·exact List.Perm.refl _
   ·exact ((insD_perm l v).cons a).trans (List.Perm.swap v a l)
theorem ltL_asym {x y:List Int} (h:ltL x y):¬ ltL y x:=fun k => ltL_irrefl x (ltL_trans h k)
theorem nlt_trans {x y z:List Int} (h:¬ ltL y x) (k:¬ ltL z y):¬ ltL z x:=by
 intro c
 by_cases e:ltL x y
 ·exact k (ltL_trans c e)
 ·have:=ltL_tot e h
  subst this
  exact k c
theorem insD_srt:∀ {l:List (List Int)} {v:List Int},SrtD l→SrtD (insD l v)
 | [],v,_ => by simp[insD,SrtD]
 | a :: l,v,h => by
   obtain ⟨h1,h2⟩:=List.pairwise_cons.1 h
   unfold insD
   split
   ·rename_i hv
    refine List.pairwise_cons.2 ⟨fun x hx => ?_,h⟩
    rcases List.mem_cons.1 hx with rfl | hx
    ·exact ltL_asym hv
    ·exact nlt_trans (ltL_asym hv) (h1 x hx)
   ·rename_i hv
    refine List.pairwise_cons.2 ⟨fun x hx => ?_,insD_srt h2⟩
    rcases List.mem_cons.1 ((insD_perm l v).mem_iff.1 hx) with rfl | hx
    ·exact hv
    ·exact h1 x hx
def srtD (l:List (List Int)):List (List Int):=l.foldl insD []
theorem srtD_gen:∀ (l acc:List (List Int)),SrtD acc→SrtD (l.foldl insD acc)∧(l.foldl insD acc).Perm (acc ++ l)
 | [],acc,h => ⟨h,by simp⟩
 | v :: l,acc,h => by
   obtain ⟨h1,h2⟩:=srtD_gen l (insD acc v) (insD_srt h)
   refine ⟨h1,h2.trans ?_⟩
   have:=(insD_perm acc v).append_right l
   refine this.trans ?_
   rw[List.cons_append]
   exact List.perm_middle.symm
theorem srtD_srt (l:List (List Int)):SrtD (srtD l):=(srtD_gen l [] List.Pairwise.nil).1
theorem srtD_perm (l:List (List Int)):(srtD l).Perm l:=by
 have h:=(srtD_gen l [] List.Pairwise.nil).2
 rw[List.nil_append] at h
 exact h
theorem srtD_len (l:List (List Int)):(srtD l).length = l.length:=(srtD_perm l).length_eq
def cptL:List (List Int)→List (List Int)
 | [] => []
 | [a] => [a]
 | a :: b :: l => if a = b then cptL (b :: l) else a :: cptL (b :: l)
theorem cptL_mem:∀ {l:List (List Int)} {x:List Int},x∈cptL l↔x∈l
 | [],x => by simp[cptL]
 | [a],x => by simp[cptL]
 | a :: b :: l,x => by
   unfold cptL
   split
   ·rename_i h
    subst h
    rw[cptL_mem]
    simp
   ·rw[List.mem_cons,cptL_mem,List.mem_cons (b:=a)]
theorem cptL_rise:∀ {l:List (List Int)},SrtD l→Rise (cptL l)
 | [],_ => List.Pairwise.nil
 | [a],_ => by simp[cptL,Rise]
 | a :: b :: l,h => by
   obtain ⟨h1,h2⟩:=List.pairwise_cons.1 h
   unfold cptL
   split
   ·exact cptL_rise h2
   ·rename_i hab
    refine List.pairwise_cons.2 ⟨fun x hx => ?_,cptL_rise h2⟩
    have hx:=cptL_mem.1 hx
    obtain ⟨g1,g2⟩:=List.pairwise_cons.1 h2
    have lab:ltL a b:=by
     by_cases c:ltL a b
     ·exact c
     ·exact absurd (ltL_tot c (h1 b (List.mem_cons_self ..))) hab
    rcases List.mem_cons.1 hx with rfl | hx
    ·exact lab
    ·by_cases c:ltL b x
     ·exact ltL_trans lab c
     ·have:=ltL_tot c (g1 x hx)
      subst this
      exact lab
theorem cpt_srt (l:List (List Int)):cptL (srtD l) = srtL l:=
 rise_ext (cptL_rise (srtD_srt l)) (srtL_rise l) fun x => by rw[cptL_mem,srtL_mem,(srtD_perm l).mem_iff]
end Go.Ab
end
section
set_option linter.unusedVariables false
set_option linter.unusedSimpArgs false
namespace Go.Ab
noncomputable def vRaw (F:Funs) (al:Nat→Bool) (id:Nat) (f:AV) (args:List AV) (g:G):Option (AV × G):=vCall (callS F) al id .raw f args g
theorem o_raw {F:Funs} {al lo id e g} (f:Opd) (asx:List Opd):opE (callS F) al lo id (.call .raw f asx) e g = vRaw F al id (f.ev e) (asx.map (·.ev e)) g:=rfl
theorem vRaw_fn {F:Funs} {al id fid fst caps args g}:vRaw F al id (.fn fid fst caps) args g = callS F fid (fst ++ args ++ caps) g:=rfl
noncomputable def vSee (F:Funs) (al:Nat→Bool) (id:Nat) (f:AV) (args:List AV) (g:G):Option (AV × G):=vCall (callS F) al id .see f args g
theorem o_see {F:Funs} {al lo id e g} (f:Opd) (asx:List Opd):opE (callS F) al lo id (.call .see f asx) e g = vSee F al id (f.ev e) (asx.map (·.ev e)) g:=rfl
theorem vSee_fn {F:Funs} {al id fid fst caps args g}:vSee F al id (.fn fid fst caps) args g = seeR g (callS F fid (fst ++ args ++ caps) g):=rfl
theorem bindO_call {F:Funs} {d b j dst os e K fid asx g} (P:AV→G→Prop) (h:∃ v g',callS F fid asx g = some (v,g')∧P v g') (hk:∀ v g',P v g'→WR F d b j os (put e dst v) g' K):bindO F d b j dst os e K (callS F fid asx g):=by
 obtain ⟨v,g',h1,h2⟩:=h
 rw[h1]
 exact hk v g' h2
def retP (rs:List ARes) (P:AV→G→Prop):Out→Env→G→Prop
 | .ext _,_,_ => False
 | _,e,g => ∃ v,resE rs e g = some v∧P v g
theorem retP_nrm {rs P e g}:retP rs P .nrm e g = (∃ v,resE rs e g = some v∧P v g):=rfl
theorem retP_ret {rs P e g}:retP rs P .ret e g = (∃ v,resE rs e g = some v∧P v g):=rfl
theorem raw_of {F:Funs} {f:Nat} {fn:AFun} {asx:List AV} {g:G} {P:AV→G→Prop} (hF:F f = some fn) (h:W F fn.body (argEnv asx) g (retP fn.res P)) (ha:arB fn asx = true:=by rfl):∃ v g',callS F f asx g = some (v,g')∧P v g':=by
 obtain ⟨o,e,g',h1,h2⟩:=h
 rw[callS_eq,hF]
 simp only[ha,h1]
 cases o with
 | ext n => exact h2.elim
 | nrm =>
   obtain ⟨v,h3,h4⟩:=h2
   exact ⟨v,g',by simp only[h3,Option.map_some],h4⟩
 | ret =>
   obtain ⟨v,h3,h4⟩:=h2
   exact ⟨v,g',by simp only[h3,Option.map_some],h4⟩
theorem res_0 (e g):resE [] e g = some (.tup []):=rfl
def mgS (k:ByteArray) (g:G):Option Blk→Option (AV × G)
 | some (.map es) => vMap g (mlook es k)
 | _ => none
theorem o_mget {c:CS} {al:Nat→Bool} {lo id:Nat} {e:Env} {g:G} (m k):opE c al lo id (.mget m k) e g = vMget al (m.ev e) (k.ev e) g:=rfl
theorem vMget_S {al:Nat→Bool} {g:G} (b k):vMget al (.mm b) (.s k) g = mgS k g (selB (al b) (g.hp b)):=by
 simp only[vMget,rd_S]
 cases selB (al b) (g.hp b) with
 | none => rfl
 | some bl => cases bl<;>rfl
theorem mgS_map (k g es):mgS k g (some (.map es)) = vMap g (mlook es k):=rfl
theorem o_mkmap {c:CS} {al:Nat→Bool} {lo id:Nat} {e:Env} {g:G}:opE c al lo id .mkmap e g = some (.mm id,⟨upd g.hp id (some (.map [])),g.nx⟩):=rfl
theorem o_mput {c:CS} {al:Nat→Bool} {lo id:Nat} {e:Env} {g:G} (m k v):opE c al lo id (.mput m k v) e g = vMput al (m.ev e) (k.ev e) (v.ev e) g:=rfl
def mpO (b:Nat) (k:ByteArray) (v:AV) (es:List (AV × AV)) (g:G) (x:Bool):Option AV→Option (AV × G)
 | none => if x then some (.undef,⟨upd g.hp b (some (.map (es ++ [(.s k,v)]))),g.nx⟩) else none
 | some _ => none
def mpS (b:Nat) (k:ByteArray) (v:AV) (g:G) (x:Bool):Option Blk→Option (AV × G)
 | some (.map es) => mpO b k v es g x (mlook es k)
 | _ => none
theorem vMput_S {al:Nat→Bool} {g:G} (b k v):vMput al (.mm b) (.s k) v g = mpS b k v g (one v) (selB (al b) (g.hp b)):=by
 simp only[vMput,rd_S]
 cases selB (al b) (g.hp b) with
 | none => rfl
 | some bl =>
   cases bl with
   | map es => simp only[mpS];cases mlook es k<;>rfl
   | cells _ _ => rfl
   | tok _ => rfl
theorem mpS_map (b k v g x es):mpS b k v g x (some (.map es)) = mpO b k v es g x (mlook es k):=rfl
theorem mpO_none (b k v es g):mpO b k v es g true none = some (.undef,⟨upd g.hp b (some (.map (es ++ [(.s k,v)]))),g.nx⟩):=rfl
theorem frz_d_agg {hp cs ds} (h:frzL hp 8 cs = some ds):frz hp depth (.agg cs) = some (.agg ds):=by
 show frz hp (8 + 1) _ = _
 simp only[frz,h,Option.map_some]
end Go.Ab
end
section
set_option linter.unusedVariables false
set_option linter.unusedSimpArgs false
namespace Go.Ab
abbrev Rw:=Nat→BitVec 64
def U (x:BitVec 64):AV:=.i .u64 (x.toNat:Int)
def rowsC (R:Rw):List AV:=(List.range 40).map fun a => U (R a)
def relC (n:Nat) (R:Rw):List AV:=.i .i64 n :: rowsC R
theorem rowsC_len (R:Rw):(rowsC R).length = 40:=by simp[rowsC]
theorem rowsC_get {R:Rw} {a:Nat} (h:a < 40):(rowsC R)[a]? = some (U (R a)):=by
 simp[rowsC,h]
end Go.Ab
end
section
set_option linter.unusedVariables false
set_option linter.unusedSimpArgs false
namespace Go.Ab
variable {F:Funs}
def has (n:Nat) (R:Rw) (a b:Int):Bool:=decide (0≤a∧a < n∧0≤b∧b < n) && (R a.toNat).getLsbD b.toNat
end Go.Ab
end
section
set_option linter.unusedVariables false
set_option linter.unusedSimpArgs false
namespace Go.Ab
variable {F:Funs}
theorem i64_wrap {x:Int} (h:-9223372036854775808≤x) (h2:x≤9223372036854775807):IntKind.i64.wrap x = x:=by
 simp[IntKind.wrap,IntKind.bits,IntKind.signed,IntKind.min,IntKind.max]
 omega
end Go.Ab
end
section
set_option linter.unusedVariables false
set_option linter.unusedSimpArgs false
namespace Go.Ab
variable {F:Funs}
theorem succ_wrap {k:Nat} (h:k < 9000000000000000000):IntKind.i64.wrap ((k:Int) + 1) = ((k + 1:Nat):Int):=by rw[i64_wrap (by omega) (by omega)];omega
end Go.Ab
end
section
set_option linter.unusedVariables false
set_option linter.unusedSimpArgs false
namespace Go.Ab
variable {F:Funs}
def Live (g:G) (esz:Nat) (t:Tok):Prop:=t = .rig∨∃ τ,t = .own τ esz∧g.hp τ = some (.tok true)∧τ < g.nx
end Go.Ab
end
section
set_option linter.unusedVariables false
set_option linter.unusedSimpArgs false
namespace Go.Ab
def hb (R:Rw) (a b:Nat):Bool:=(R a).getLsbD b
inductive Thru (r:Nat→Nat→Prop) (k:Nat):Nat→Nat→Prop
 | one {a b}:r a b→Thru r k a b
 | join {a c b}:c < k→Thru r k a c→Thru r k c b→Thru r k a b
theorem Thru.mono {r:Nat→Nat→Prop} {k k':Nat} (h:k≤k') {a b:Nat} (t:Thru r k a b):Thru r k' a b:=by
 induction t with
 | one h => exact .one h
 | join hc _ _ ih1 ih2 => exact .join (by omega) ih1 ih2
inductive Steps' (r:Nat→Nat→Prop):Nat→Nat→Prop
 | one {a b}:r a b→Steps' r a b
 | join {a c b}:Steps' r a c→Steps' r c b→Steps' r a b
end Go.Ab
end
section
namespace Go.Ab
def A_xlaw00_Place:AFun:={ res:=[.t 4],body:=(.seq (.reg false [qo 4 (.mv (.c (.i .i64 0)))])
 (.seq (.reg false [qm 6 0,qm 7 1,qo 8 (.bin .rem (.t 6) (.t 7)),qm 5 8])
 (.seq (.seq (.reg false [qm 9 5,qo 10 (.bin .lss (.t 9) (.c (.i .i64 0)))])
 (.cond (.t 10) (.reg false [qm 11 5,qm 12 1,qo 13 (.bin .add (.t 11) (.t 12)),qm 5 13])
 .skip))
 (.seq (.reg false [qm 14 5,qm 4 14])
 .ret)))) }
end Go.Ab
end
section
set_option linter.unusedVariables false
set_option linter.unusedSimpArgs false
namespace Go.Ab
variable {F:Funs}
theorem t1_neg (u n:Int) (e1:u % n + n * (u / n) = u):-u = (n - u % n) + n * (-(u / n) - 1):=by
 have e2:n * (-(u / n) - 1) = -(n * (u / n)) - n:=by rw[Int.mul_sub,Int.mul_neg,Int.mul_one]
 rw[e2]
 generalize n * (u / n) = c at *
 generalize u % n = b at *
 omega
theorem tmod_cases {v n:Int} (hn:0 < n):(if v.tmod n < 0 then v.tmod n + n else v.tmod n) = v % n:=by
 have h2:=Int.emod_nonneg v (by omega:n≠0)
 have h3:=Int.emod_lt_of_pos v hn
 by_cases hv:0≤v
 ·rw[Int.tmod_eq_emod_of_nonneg hv,if_neg (by omega)]
 ·obtain ⟨u,rfl⟩:∃ u,v = -u:=⟨-v,by omega⟩
  rw[Int.neg_tmod,Int.tmod_eq_emod_of_nonneg (by omega:0≤u)]
  have h4:=Int.emod_nonneg u (by omega:n≠0)
  have h5:=Int.emod_lt_of_pos u hn
  have e1:=Int.emod_add_mul_ediv u n
  by_cases h6:u % n = 0
  ·rw[h6,Int.neg_zero,if_neg (by omega)]
   exact (Int.emod_eq_zero_of_dvd (Int.dvd_neg.2 (Int.dvd_of_emod_eq_zero h6))).symm
  ·rw[if_pos (by omega)]
   have e3:(-u) % n = n - u % n:=by
    rw[t1_neg u n e1,Int.add_mul_emod_self_left,Int.emod_eq_of_lt (by omega) (by omega)]
   rw[e3]
   omega
theorem tmod_bound {v n:Int} (hn:0 < n):-n≤v.tmod n∧v.tmod n < n:=by
 refine ⟨?_,Int.tmod_lt_of_pos v hn⟩
 have h1:=tmod_cases (v:=v) hn
 have h2:=Int.emod_nonneg v (by omega:n≠0)
 split at h1<;>omega
def place (v n:Int):Int:=v % n
theorem place_lt {v n:Int} (hn:0 < n):0≤place v n∧place v n < n:=⟨Int.emod_nonneg v (by omega),Int.emod_lt_of_pos v hn⟩
theorem sp_place (h10:F 10 = some A_xlaw00_Place) {v n:Int} (hn:0 < n) (hb:n≤4611686018427387904):pureS F 10 [.i .i64 v,.i .i64 n] = some (.i .i64 (place v n)):=by
 refine pure_of h10 ?_
 have h1:=tmod_cases (v:=v) hn
 obtain ⟨h2,h3⟩:=tmod_bound (v:=v) hn
 unfold place
 by_cases h:v.tmod n < 0
 ·have hw:IntKind.i64.wrap (v.tmod n + n) = v.tmod n + n:=i64_wrap (by omega) (by omega)
  rw[if_pos h] at h1
  simp (disch:=omega) only[A_xlaw00_Place,wp,qa,qb,qc,b_rem,h,hw]
  rw[h1]
 ·rw[if_neg h] at h1
  simp (disch:=omega) only[A_xlaw00_Place,wp,qa,qb,qc,b_rem,h]
  rw[h1]
end Go.Ab
end
section
set_option linter.unusedVariables false
set_option linter.unusedSimpArgs false
namespace Go.Ab
variable {F:Funs}
theorem ints_part {l:List Int} {k:Nat} (h:k < l.length):part ((intsC l).drop (k * 1)) 0 none = some (.i .i64 (l.getD k 0)):=by
 simp only[part,intsC,List.getElem?_drop,Nat.mul_one,Nat.add_zero,List.getElem?_map,List.getElem?_eq_getElem h,Option.map_some,List.getD_eq_getElem?_getD,Option.getD_some]
theorem Steps'.mono {r s:Nat→Nat→Prop} (h:∀ a b,r a b→s a b) {a b:Nat} (t:Steps' r a b):Steps' s a b:=by
 induction t with
 | one h' => exact .one (h _ _ h')
 | join _ _ i1 i2 => exact .join i1 i2
theorem Steps'.first {r:Nat→Nat→Prop} {a b:Nat} (t:Steps' r a b):r a b∨∃ c,r a c∧Steps' r c b:=by
 induction t with
 | one h => exact .inl h
 | @join a c b t1 t2 i1 i2 =>
   rcases i1 with h | ⟨d,h1,h2⟩
   ·exact .inr ⟨c,h,t2⟩
   ·exact .inr ⟨d,h1,.join h2 t2⟩
end Go.Ab
end
section
set_option linter.unusedVariables false
set_option linter.unusedSimpArgs false
namespace Go.Ab
variable {F:Funs}
structure CmpF (F:Funs):Prop where
 cmp:F 248 = some A_cmp_Compare_int
 nan:F 266 = some A_cmp_isNaN_int
 compare:F 377 = some A_slices_Compare_lint_int
 mcompare:F 326 = some A_mem_compare_int
 msame:F 327 = some A_mem_same_int
def cmpZ (a b:Int):Int:=if a < b then -1 else if b < a then 1 else 0
theorem sp_isnan (h:F 266 = some A_cmp_isNaN_int) (a:Int):pureS F 266 [.i .i64 a] = some (.b false):=by
 refine pure_of h ?_
 simp (disch:=omega) only[A_cmp_isNaN_int,wp,qa,qb,qc,bne_self_eq_false]
theorem sp_cmpZ (A:CmpF F) (a b:Int):pureS F 248 [.i .i64 a,.i .i64 b] = some (.i .i64 (cmpZ a b)):=by
 refine pure_of A.cmp ?_
 have h:=sp_isnan A.nan
 unfold cmpZ
 by_cases c1:a < b
 ·simp (disch:=omega) only[A_cmp_Compare_int,wp,qa,qb,qc,h,c1,if_true]
 ·by_cases c2:b < a
  ·simp (disch:=omega) only[A_cmp_Compare_int,wp,qa,qb,qc,h,c1,c2,if_true,if_false]
  ·simp (disch:=omega) only[A_cmp_Compare_int,wp,qa,qb,qc,h,c1,c2,if_false]
theorem cmpL_drop {x y:List Int} {k:Nat} (hx:k < x.length) (hy:k < y.length) (h:x.getD k 0 = y.getD k 0):cmpL (x.drop k) (y.drop k) = cmpL (x.drop (k + 1)) (y.drop (k + 1)):=by
 have e1:x.drop k = x.getD k 0 :: x.drop (k + 1):=by
  rw[List.drop_eq_getElem_cons hx,List.getD_eq_getElem?_getD,List.getElem?_eq_getElem hx];rfl
 have e2:y.drop k = y.getD k 0 :: y.drop (k + 1):=by
  rw[List.drop_eq_getElem_cons hy,List.getD_eq_getElem?_getD,List.getElem?_eq_getElem hy];rfl
 rw[e1,e2,cmpL,h,if_neg (by omega),if_neg (by omega)]
theorem cmpL_here {x y:List Int} {k:Nat} (hx:k < x.length) (hy:k < y.length) (h:x.getD k 0≠y.getD k 0):cmpL (x.drop k) (y.drop k) = cmpZ (x.getD k 0) (y.getD k 0):=by
 have e1:x.drop k = x.getD k 0 :: x.drop (k + 1):=by
  rw[List.drop_eq_getElem_cons hx,List.getD_eq_getElem?_getD,List.getElem?_eq_getElem hx];rfl
 have e2:y.drop k = y.getD k 0 :: y.drop (k + 1):=by
  rw[List.drop_eq_getElem_cons hy,List.getD_eq_getElem?_getD,List.getElem?_eq_getElem hy];rfl
 rw[e1,e2,cmpL]
 unfold cmpZ
 by_cases c1:x.getD k 0 < y.getD k 0
 ·rw[if_pos c1,if_pos c1]
 ·rw[if_neg c1,if_neg c1,if_pos (by omega),if_pos (by omega)]
structure CpI (x y:List Int) (t1 t2:Tok) (k:Nat) (e:Env) (g:G):Prop where
 hk:k≤x.length∧k≤y.length
 e0:e 0 = .sl (intsC x) x.length t1
 e1:e 1 = .sl (intsC y) y.length t2
 e9:e 9 = .sl (intsC x) x.length t1
 e10:e 10 = .i .i64 ((x.length:Nat):Int)
 e11:e 11 = .i .i64 ((k:Nat):Int)
 hc:cmpL x y = cmpL (x.drop k) (y.drop k)
theorem sp_cmpL (A:CmpF F) (x y:List Int) (t1 t2:Tok) (hx:x.length≤1000000):pureS F 377 [.sl (intsC x) x.length t1,.sl (intsC y) y.length t2] = some (.i .i64 (cmpL x y)):=by
 refine pure_of A.compare ?_
 simp (disch:=omega) only[A_slices_Compare_lint_int,wp,qa,qb,qc]
 refine blk_cutR (fun e g => e 0 = .sl (intsC x) x.length t1∧e 1 = .sl (intsC y) y.length t2∧x.length≤y.length∧cmpL x y = cmpL (x.drop x.length) (y.drop x.length)) ?_ ?_
 ·refine W_loop (fun q e g => ∃ k,q = x.length - k∧CpI x y t1 t2 k e g) x.length ?_ ?_
  ·exact ⟨0,rfl,⟨Nat.zero_le _,Nat.zero_le _⟩,rfl,rfl,rfl,rfl,rfl,rfl⟩
  ·rintro q e g ⟨k,rfl,⟨hk1,hk2⟩,e0,e1,e9,e10,e11,hc⟩
   by_cases c1:k < x.length
   ·have c1':((k:Nat):Int) < ((x.length:Nat):Int):=by omega
    have hp:=ints_part (l:=x) (k:=k) c1
    have hwk:=succ_wrap (k:=k) (by omega)
    by_cases c2:y.length≤k
    ·have c2':((y.length:Nat):Int)≤((k:Nat):Int):=by omega
     simp (disch:=omega) only[wp,qa,qb,qc,e0,e1,e9,e10,e11,c1',c2',hp]
     obtain rfl:k = y.length:=by omega
     have:cmpL (x.drop y.length) (y.drop y.length) = 1:=by
      rw[List.drop_length,List.drop_eq_getElem_cons c1];rfl
     rw[hc,this]
    ·have c2':¬ ((y.length:Nat):Int)≤((k:Nat):Int):=by omega
     have hp2:=ints_part (l:=y) (k:=k) (by omega)
     have hz:=sp_cmpZ A (x.getD k 0) (y.getD k 0)
     by_cases c3:x.getD k 0 = y.getD k 0
     ·have c3':(cmpZ (x.getD k 0) (y.getD k 0) != 0) = false:=by rw[c3];simp[cmpZ]
      rw[cmpL_drop c1 (by omega) c3] at hc
      simp (disch:=omega) only[wp,qa,qb,qc,e0,e1,e9,e10,e11,c1',c2',hp,hp2,hz,c3',hwk]
      exact ⟨x.length - (k + 1),by omega,k + 1,rfl,⟨by omega,by omega⟩,e0,e1,e9,e10,rfl,hc⟩
     ·have c3':(cmpZ (x.getD k 0) (y.getD k 0) != 0) = true:=by
       rw[bne_iff_ne]
       unfold cmpZ
       split
       ·omega
       ·split<;>omega
      rw[cmpL_here c1 (by omega) c3] at hc
      simp (disch:=omega) only[wp,qa,qb,qc,e0,e1,e9,e10,e11,c1',c2',hp,hp2,hz,c3',hwk]
      rw[hc]
   ·have c1':¬ ((k:Nat):Int) < ((x.length:Nat):Int):=by omega
    obtain rfl:k = x.length:=by omega
    simp (disch:=omega) only[wp,qa,qb,qc,e0,e1,e9,e10,e11,c1']
    exact ⟨hk2,hc⟩
 ·rintro e g ⟨e0,e1,hle,hc⟩
  rw[List.drop_length] at hc
  by_cases c1:x.length < y.length
  ·have c1':((x.length:Nat):Int) < ((y.length:Nat):Int):=by omega
   simp (disch:=omega) only[wp,qa,qb,qc,e0,e1,c1']
   rw[hc,List.drop_eq_getElem_cons c1]
   rfl
  ·have c1':¬ ((x.length:Nat):Int) < ((y.length:Nat):Int):=by omega
   simp (disch:=omega) only[wp,qa,qb,qc,e0,e1,c1']
   rw[hc,List.drop_eq_nil_of_le (by omega)]
   rfl
theorem sp_mcompare (A:CmpF F) (x y:List Int) (t1 t2:Tok) (hx:x.length≤1000000):pureS F 326 [.sl (intsC x) x.length t1,.sl (intsC y) y.length t2] = some (.i .i64 (cmpL x y)):=by
 refine pure_of A.mcompare ?_
 have h:=sp_cmpL A x y .non .non hx
 simp (disch:=omega) only[A_mem_compare_int,wp,qa,qb,qc,h]
theorem sp_msame (A:CmpF F) (x y:List Int) (t1 t2:Tok) (hx:x.length≤1000000):pureS F 327 [.sl (intsC x) x.length t1,.sl (intsC y) y.length t2] = some (.b (decide (x = y))):=by
 refine pure_of A.msame ?_
 have h:=sp_mcompare A x y .non .non hx
 simp (disch:=omega) only[A_mem_same_int,wp,qa,qb,qc,h]
 have:(cmpL x y == 0) = decide (x = y):=by
  by_cases c:x = y
  ·rw[decide_eq_true c,beq_iff_eq];exact cmpL_zero.2 c
  ·rw[decide_eq_false c,beq_eq_false_iff_ne];exact fun h => c (cmpL_zero.1 h)
 rw[this]
end Go.Ab
end
section
set_option linter.unusedVariables false
set_option linter.unusedSimpArgs false
namespace Go.Ab
variable {F:Funs}
def decI:List AV→Option (List Int)
 | [] => some []
 | .i .i64 v :: cs => (decI cs).map (v :: ·)
 | _ => none
theorem decI_ints:∀ l:List Int,decI (intsC l) = some l
 | [] => rfl
 | v :: l => by
   show decI (.i .i64 v :: intsC l) = _
   rw[decI,decI_ints l];rfl
theorem decI_inv:∀ {cs:List AV} {l:List Int},decI cs = some l→cs = intsC l
 | [],l,h => by cases h;rfl
 | c :: cs,l,h => by
   cases c with
   | i k v =>
     cases k<;>try (cases h;done)
     simp only[decI] at h
     cases hd:decI cs with
     | none => rw[hd] at h;cases h
     | some m =>
       rw[hd] at h
       cases h
       rw[decI_inv hd]
       rfl
   | _ => cases h
def cloneH:List AV→(Nat→Option Blk)→Option (AV × Option (Nat × List AV))
 | [.sl cs n t],_ => match decI cs with
   | some l => if l.length = n∧n≤1000000 then some (.sl cs n .non,none) else none
   | none => none
 | _,_ => none
def A_clone:AFun:={ res:=[.t 0],body:=.prim 1 cloneH }
theorem sp_clone (h:F 373 = some A_clone) (l:List Int) (t:Tok) (hl:l.length≤1000000):pureS F 373 [.sl (intsC l) l.length t] = some (.sl (intsC l) l.length .non):=by
 refine pure_of h ?_
 unfold W
 have hh:cloneH ((List.range 1).map (argEnv [.sl (intsC l) l.length t])) g0.hp = some (.sl (intsC l) l.length .non,none):=by
  show cloneH [.sl (intsC l) l.length t] _ = _
  simp only[cloneH,decI_ints]
  exact if_pos ⟨trivial,hl⟩
 have hp:primE cloneH ((List.range 1).map (argEnv [.sl (intsC l) l.length t])) g0 = some (.sl (intsC l) l.length .non,g0):=by
  unfold primE
  rw[hh]
 refine ⟨.ret,upd (argEnv [.sl (intsC l) l.length t]) 0 (.sl (intsC l) l.length .non),g0,?_,?_⟩
 ·show codeS F (.prim 1 cloneH) _ _ = _
  rw[codeS_prim,hp]
 ·rw[retQ_ret]
  have:resE A_clone.res (upd (argEnv [.sl (intsC l) l.length t]) 0 (.sl (intsC l) l.length .non)) g0 = some (.sl (intsC l) l.length .non):=by
   show resE [ARes.t 0] _ _ = _
   rw[res_1,upd_same]
  rw[this]
  exact frz_d_sl _ _ _ _
def llC (L:List (List Int)):List AV:=L.map fun l => .sl (intsC l) l.length .non
theorem llC_len (L):(llC L).length = L.length:=by simp[llC]
def decLL:List AV→Option (List (List Int))
 | [] => some []
 | .sl cs n t :: r => match decI cs,decLL r with
   | some l,some L => if l.length = n∧n≤1000000 then some (l :: L) else none
   | _,_ => none
 | _ => none
theorem decLL_ll:∀ L:List (List Int),(∀ l∈L,l.length≤1000000)→decLL (llC L) = some L
 | [],_ => rfl
 | l :: L,h => by
   show decLL (.sl (intsC l) l.length .non :: llC L) = _
   rw[decLL,decI_ints,decLL_ll L fun x hx => h x (List.mem_cons_of_mem _ hx)]
   exact if_pos ⟨rfl,h l (List.mem_cons_self ..)⟩
def sortH:List AV→(Nat→Option Blk)→Option (AV × Option (Nat × List AV))
 | [.ms id 0 n,.fn 326 [] []],hp => match hp id with
   | some (.cells cs false) => match decLL cs with
     | some L => if L.length = n∧1≤n∧n≤1000000 then some (.tup [],some (id,llC (srtD L))) else none
     | none => none
   | _ => none
 | [.sl [] 0 .rig,.fn 326 [] []],_ => some (.tup [],none)
 | _,_ => none
def A_sortFunc:AFun:={ res:=[.t 0],body:=.prim 2 sortH }
theorem rp_sort (h:F 374 = some A_sortFunc) (L:List (List Int)) (hL:∀ l∈L,l.length≤1000000) (h1:1≤L.length) (h2:L.length≤1000000) {g:G} {id:Nat} (hid:g.hp id = some (.cells (llC L) false)):
  callS F 374 [.ms id 0 L.length,.fn 326 [] []] g = some (.tup [],⟨upd g.hp id (some (.cells (llC (srtD L)) false)),g.nx⟩):=by
 have hh:sortH ((List.range 2).map (argEnv [.ms id 0 L.length,.fn 326 [] []])) g.hp = some (.tup [],some (id,llC (srtD L))):=by
  show sortH [.ms id 0 L.length,.fn 326 [] []] _ = _
  unfold sortH
  simp only[hid,decLL_ll L hL]
  exact if_pos ⟨trivial,h1,h2⟩
 have hp:primE sortH ((List.range 2).map (argEnv [.ms id 0 L.length,.fn 326 [] []])) g = some (.tup [],⟨upd g.hp id (some (.cells (llC (srtD L)) false)),g.nx⟩):=by
  unfold primE
  rw[hh]
  simp only[hid]
 rw[callS_eq,h]
 have ha:arB A_sortFunc [.ms id 0 L.length,.fn 326 [] []] = true:=rfl
 simp only[ha]
 have hc:codeS F A_sortFunc.body (argEnv [.ms id 0 L.length,.fn 326 [] []]) g = some (.ret,upd (argEnv [.ms id 0 L.length,.fn 326 [] []]) 0 (.tup []),⟨upd g.hp id (some (.cells (llC (srtD L)) false)),g.nx⟩):=by
  show codeS F (.prim 2 sortH) _ _ = _
  rw[codeS_prim,hp]
 rw[hc]
 show (resE [ARes.t 0] _ _).map _ = _
 rw[res_1,upd_same]
 rfl
theorem rp_sort0 (h:F 374 = some A_sortFunc) {g:G}:callS F 374 [.sl [] 0 .rig,.fn 326 [] []] g = some (.tup [],g):=by
 have hp:primE sortH ((List.range 2).map (argEnv [.sl [] 0 .rig,.fn 326 [] []])) g = some (.tup [],g):=rfl
 rw[callS_eq,h]
 have ha:arB A_sortFunc [.sl [] 0 .rig,.fn 326 [] []] = true:=rfl
 simp only[ha]
 have hc:codeS F A_sortFunc.body (argEnv [.sl [] 0 .rig,.fn 326 [] []]) g = some (.ret,upd (argEnv [.sl [] 0 .rig,.fn 326 [] []]) 0 (.tup []),g):=by
  show codeS F (.prim 2 sortH) _ _ = _
  rw[codeS_prim,hp]
 rw[hc]
 show (resE [ARes.t 0] _ _).map _ = _
 rw[res_1,upd_same]
 rfl
end Go.Ab
end
section
namespace Go.Proofs
open Go.Shelf
def Try.laysSlF6_f19_ren:Go.Shelf.Ren:=⟨fun | 6 => 19 | 15 => 28 | 14 => 27 | 28 => 39 | 29 => 40 | 20 => 31 | 21 => 32 | 22 => 33 | 23 => 34 | 24 => 35 | 25 => 36 | 26 => 37 | 27 => 38 | 46 => 42 | 47 => 43 | 48 => 44 | 49 => 45 | 50 => 46 | 57 => 48 | n => n,fun | 22 => 22 | 24 => 23 | 25 => 42 | 3 => 3 | 39 => 48 | 0 => 0 | 53 => 59 | 55 => 61 | 4 => 4 | 46 => 52 | 45 => 51 | 50 => 56 | 5 => 5 | 9 => 9 | 66 => 62 | 70 => 66 | 76 => 69 | 77 => 70 | n => n,fun | n => n⟩
theorem Try.laysSlF6_f19:Go.Proofs.SlLaysF.n6 Try.prog Try.laysSlF6_f19_ren:={
 mixed:=by kernel_rfl
 f6:=⟨Try.f19.name,by decide,Try.func19.trans (congrArg some (by kernel_rfl))⟩
 f14:=⟨Try.f27.name,by decide,Try.func27.trans (congrArg some (by kernel_rfl))⟩
 f15:=Try.func28.trans (congrArg some (by kernel_rfl))
 f20:=⟨Try.f31.name,by decide,Try.func31.trans (congrArg some (by kernel_rfl))⟩
 f21:=⟨Try.f32.name,by decide,Try.func32.trans (congrArg some (by kernel_rfl))⟩
 f22:=⟨Try.f33.name,by decide,Try.func33.trans (congrArg some (by kernel_rfl))⟩
 f23:=⟨Try.f34.name,by decide,Try.func34.trans (congrArg some (by kernel_rfl))⟩
 f24:=⟨Try.f35.name,by decide,Try.func35.trans (congrArg some (by kernel_rfl))⟩
 f25:=⟨Try.f36.name,by decide,Try.func36.trans (congrArg some (by kernel_rfl))⟩
 f26:=⟨Try.f37.name,by decide,Try.func37.trans (congrArg some (by kernel_rfl))⟩
 f27:=⟨Try.f38.name,by decide,Try.func38.trans (congrArg some (by kernel_rfl))⟩
 f28:=Try.func39.trans (congrArg some (by kernel_rfl))
 f29:=Try.func40.trans (congrArg some (by kernel_rfl))
 f46:=⟨Try.f42.name,by decide,Try.func42.trans (congrArg some (by kernel_rfl))⟩
 f47:=Try.func43.trans (congrArg some (by kernel_rfl))
 f48:=Try.func44.trans (congrArg some (by kernel_rfl))
 f49:=⟨Try.f45.name,by decide,Try.func45.trans (congrArg some (by kernel_rfl))⟩
 f50:=⟨Try.f46.name,by decide,Try.func46.trans (congrArg some (by kernel_rfl))⟩
 f57:=⟨Try.f48.name,by decide,Try.func48.trans (congrArg some (by kernel_rfl))⟩
 t0:=Try.underlying0
 a0:=Try.isAgg0
 z0:=Try.sizeOf0
 v0:=Try.zeroValue0
 t3:=Try.underlying3
 a3:=Try.isAgg3
 z3:=Try.sizeOf3
 v3:=Try.zeroValue3
 t4:=Try.underlying4
 a4:=Try.isAgg4
 z4:=Try.sizeOf4
 v4:=Try.zeroValue4
 t5:=Try.underlying5
 a5:=Try.isAgg5
 z5:=Try.sizeOf5
 v5:=Try.zeroValue5
 t9:=Try.underlying9
 a9:=Try.isAgg9
 z9:=Try.sizeOf9
 v9:=Try.zeroValue9
 t22:=Try.underlying22
 a22:=Try.isAgg22
 z22:=Try.sizeOf22
 v22:=Try.zeroValue22
 a24:=Try.isAgg23
 z24:=Try.sizeOf23
 t25:=Try.underlying42
 a25:=Try.isAgg42
 z25:=Try.sizeOf42
 v25:=Try.zeroValue42
 t39:=Try.underlying48
 a39:=Try.isAgg48
 z39:=Try.sizeOf48
 v39:=Try.zeroValue48
 t45:=Try.underlying51
 a45:=Try.isAgg51
 z45:=Try.sizeOf51
 v45:=Try.zeroValue51
 t46:=Try.underlying52
 a46:=Try.isAgg52
 z46:=Try.sizeOf52
 v46:=Try.zeroValue52
 t50:=Try.underlying56
 a50:=Try.isAgg56
 z50:=Try.sizeOf56
 v50:=Try.zeroValue56
 t53:=Try.underlying59
 a53:=Try.isAgg59
 z53:=Try.sizeOf59
 v53:=Try.zeroValue59
 t55:=Try.underlying61
 a55:=Try.isAgg61
 z55:=Try.sizeOf61
 v55:=Try.zeroValue61
 t66:=Try.underlying62
 a66:=Try.isAgg62
 z66:=Try.sizeOf62
 v66:=Try.zeroValue62
 t70:=Try.underlying66
 a70:=Try.isAgg66
 z70:=Try.sizeOf66
 v70:=Try.zeroValue66
 t76:=Try.underlying69
 a76:=Try.isAgg69
 z76:=Try.sizeOf69
 v76:=Try.zeroValue69
 t77:=Try.underlying70
 a77:=Try.isAgg70
 z77:=Try.sizeOf70
 v77:=Try.zeroValue70 }
open Go.RowKit Go.Lib Go.Sort in
theorem Try.slices_SortFunc {α:Type} [Inhabited α] (enc:α→Value) (h1:OneCell enc) (cf:α→α→Int) (hO:SWO (ltOf cf)) (g:Nat) (cb:Array Value) (blk off cap:Nat) (d:Array α) (w:World) (eg:∀ args w,(callFunc g args).run Try.prog w = .ok (.enter g args) w) (hcmp:CmpLays1 Try.prog g cb enc cf blk off d.size w) (hH:Holds enc w blk off d) (hblk:blk < w.heap.size) (hsz:d.size < 4611686018427387904):
  Calls Try.prog 19 #[.slice (some ⟨blk,off,none⟩) d.size cap,.func (.func g) #[] cb] w fun e w' =>
   e = .returned (.tuple #[])∧∃ d' n os,PermIn 0 d.size d d'∧SortedIn (ltOf cf) 0 d.size d'∧w' = sortWorld enc w blk off n d' os:=Any.slices_SortFunc Try.laysSlF6_f19 enc h1 cf hO g cb blk off cap d w eg hcmp hH hblk hsz
end Go.Proofs
end
section
set_option linter.unusedVariables false
set_option linter.unusedSimpArgs false
set_option linter.unnecessarySimpa false
namespace Go.Ab
open Go.RowKit Go.Sort
theorem pureS_i64 {F:Funs} {f:Nat} {xs:List AV} {n:Int} (h:pureS F f xs = some (.i .i64 n)):∃ k g',callE F k f xs g0 = some (.i .i64 n,g'):=by
 unfold pureS at h
 split at h
 ·rename_i v g hc
  have:v = .i .i64 n:=by
   have h':frz g.hp (8 + 1) v = some (.i .i64 n):=h
   cases v with
   | i k m => simp only[frz] at h';cases h';rfl
   | mp id o => simp only[frz] at h';split at h'
                ·rename_i hh
                 cases hf:frzL g.hp 8 (List.drop o _)<;>rw[hf] at h'<;>cases h'
                ·cases h'
   | agg cs => simp only[frz] at h';cases hf:frzL g.hp 8 cs<;>rw[hf] at h'<;>cases h'
   | tup cs => simp only[frz] at h';cases hf:frzL g.hp 8 cs<;>rw[hf] at h'<;>cases h'
   | sl cs m t => simp only[frz] at h';cases h'
   | ms id o m => simp only[frz] at h';split at h'
                  ·cases hf:frzL g.hp 8 (List.drop o _)<;>rw[hf] at h'<;>cases h'
                  ·cases h'
   | fn f a bs => simp only[frz] at h';split at h'<;>cases h'
   | ifc t w => simp only[frz] at h';cases hf:frz g.hp 8 w<;>rw[hf] at h'<;>cases h'
   | _ => simp only[frz] at h';cases h'
  subst this
  obtain ⟨k,hk⟩:=(callS_some F).1 hc
  exact ⟨k,g,hk⟩
 ·cases h
theorem rep_intsC {c c':Cx} {l:List Int} {v:Value} {m m':Bool} {t:Tok} (h:Rep c m (.sl (intsC l) l.length t) v) (hI:∀ ad,c.I ad→c'.I ad∧∀ v,c.w.cell? ad = some v→c'.w.cell? ad = some v):Rep c' m' (.sl (intsC l) l.length .non) v:=by
 cases h with
 | sl ad vs hc hm hr ho hz h1 hl ha hk hx ht =>
   refine .sl ad vs hc hm (fun h => by cases h) (fun _ _ _ h => by cases h) hz h1 hl ha (fun j v hv => ⟨(hI _ (hk j v hv).1).1,(hI _ (hk j v hv).1).2 _ (hk j v hv).2⟩) (fun j x v hj hv => ?_) (fun _ _ h => by cases h)
   have:=hx j x v hj hv
   have hxi:∃ n,x = .i .i64 n:=by
    have:x∈intsC l:=List.mem_of_getElem? hj
    obtain ⟨n,_,rfl⟩:=List.mem_map.1 this
    exact ⟨n,rfl⟩
   obtain ⟨n,rfl⟩:=hxi
   cases this
   exact .i _ _
structure LV (c:Cx) where
 list:List Int
 enc:Value
 rep:Rep c true (.sl (intsC list) list.length .non) enc
 len:list.length≤1000000
theorem repNil (c:Cx):Rep c true (.sl [] 0 .non) (.slice none 0 0):=
 .sl ⟨0,0,none⟩ [] (Nat.le_refl _) (Nat.zero_le _) (fun h => by cases h) (fun h => by cases h) (fun h => by omega) (fun _ h => by cases h) rfl (fun h => absurd rfl h) (fun j v h => by cases h) (fun j x v h => by cases h) (fun _ _ h => by cases h)
instance (c:Cx):Inhabited (LV c):=⟨⟨[],.slice none 0 0,repNil c,Nat.zero_le _⟩⟩
def LV.cf {c:Cx} (x y:LV c):Int:=cmpL x.list y.list
theorem lv_one (c:Cx):Go.Proofs.OneCell (LV.enc (c:=c)):=by
 intro x
 have h:=x.rep
 show x.enc.oneCell' = true
 generalize x.enc = v at h
 cases h
 rfl
theorem lv_swo (c:Cx):SWO (Go.Proofs.ltOf (LV.cf (c:=c))) where
 irrefl x:=by
  unfold Go.Proofs.ltOf LV.cf
  exact decide_eq_false (ltL_irrefl _)
 trans x y z h k:=by
  unfold Go.Proofs.ltOf LV.cf at *
  exact decide_eq_true (ltL_trans (of_decide_eq_true h) (of_decide_eq_true k))
 ntrans x y z h k:=by
  unfold Go.Proofs.ltOf LV.cf at *
  have h:=of_decide_eq_false h
  have k:=of_decide_eq_false k
  refine decide_eq_false fun hz => ?_
  by_cases h2:ltL y.list x.list
  ·exact k (ltL_trans h2 hz)
  ·have e:=ltL_tot h h2
   exact k (e ▸ hz)
theorem lv_of {c:Cx}:∀ {cs:List AV} {L:List (List Int)} {vs:List Value},Reps c true cs vs→decLL cs = some L→(∃ ds:List (LV c),ds.map LV.list = L∧ds.map LV.enc = vs)∧cs.length = L.length
 | [],L,vs,h,hd => by
   cases hd
   have:vs = []:=List.length_eq_zero_iff.1 h.1.symm
   subst this
   exact ⟨⟨[],rfl,rfl⟩,rfl⟩
 | x :: cs,L,vs,h,hd => by
   cases vs with
   | nil => have:=h.1;simp at this
   | cons v vs =>
     have h1:Reps c true cs vs:=⟨by have:=h.1;simpa using this,fun j x u hx hu => h.2 (j + 1) x u (by simpa using hx) (by simpa using hu)⟩
     have h0:Rep c true x v:=h.2 0 _ v rfl rfl
     cases x with
     | sl a n t =>
       simp only[decLL] at hd
       cases h2:decI a with
       | none => rw[h2] at hd;cases hd
       | some l =>
         cases h3:decLL cs with
         | none => rw[h2,h3] at hd;cases hd
         | some M =>
           rw[h2,h3] at hd
           simp only at hd
           by_cases hn:l.length = n∧n≤1000000
           ·rw[if_pos hn] at hd
            cases hd
            obtain ⟨rfl,hn⟩:=hn
            rw[decI_inv h2] at h0
            obtain ⟨⟨ds,e1,e2⟩,e3⟩:=lv_of h1 h3
            exact ⟨⟨⟨l,v,rep_intsC h0 fun _ h => ⟨h,fun _ h => h⟩,hn⟩ :: ds,by rw[List.map_cons,e1],by rw[List.map_cons,e2]⟩,by simp[e3]⟩
           ·rw[if_neg hn] at hd;cases hd
     | _ => cases hd
theorem lv_reps {c:Cx}:∀ (ds:List (LV c)),Reps c true (llC (ds.map LV.list)) (ds.map LV.enc)
 | [] => ⟨rfl,fun j x v h => by cases h⟩
 | d :: ds => by
   obtain ⟨h1,h2⟩:=lv_reps ds
   refine ⟨by simpa [llC] using h1,fun j x v hx hv => ?_⟩
   cases j with
   | zero => cases hx;cases hv;exact d.rep
   | succ j => exact h2 j x v (by simpa [llC] using hx) (by simpa using hv)
section
variable {α:Type} [Inhabited α] {enc:α→Value} {w:World} {b off m:Nat} {d:Array α} {os:Array Obj}
theorem sw_size:w.heap.size≤(Go.Proofs.sortWorld enc w b off m d os).heap.size:=by
 simp[Go.Proofs.sortWorld,grow,putRow,mapBlock,ahead]
theorem sw_other {k:Nat} (hk:k≠b) (hs:k < w.heap.size):(Go.Proofs.sortWorld enc w b off m d os).heap[k]? = w.heap[k]?:=by
 show ((w.heap.modify b _) ++ os)[k]? = _
 rw[Array.getElem?_append_left (by simpa using hs),Array.getElem?_modify,if_neg (Ne.symm hk)]
theorem sw_same {cs:Array Value} {ty:TypeId} {fr:Nat × Nat} (h:w.heap[b]? = some (.cells cs ty fr)):(Go.Proofs.sortWorld enc w b off m d os).heap[b]? = some (.cells (putCells enc off d cs) ty fr):=by
 have hs:=(Array.getElem?_eq_some_iff.1 h).1
 show ((w.heap.modify b _) ++ os)[b]? = _
 rw[Array.getElem?_append_left (by simpa using hs),Array.getElem?_modify,if_pos rfl,h]
 rfl
theorem sw_drawn:(Go.Proofs.sortWorld enc w b off m d os).drawn = w.drawn + m:=rfl
end
theorem cmp_lays {P:Program} {num:Nat→Nat} {F:Funs} (hT:Table P num F) (hm:P.follows .mixedOrders = true) (A:CmpF F) (hz:num 1000000 = 0) (hd:num 1000001 = 0) {c:Cx} {nx:Nat} (K:Ok c nx) {id:Nat} {cs:List AV} (hid:c.hp id = some (.cells cs false)) (size:Nat):
  Go.Proofs.CmpLays1 P (num 326) #[] (LV.enc (c:=c)) LV.cf (c.loc id).1 0 size c.w:=by
 intro m os dk hs x y
 generalize hW:Go.Proofs.sortWorld (LV.enc (c:=c)) c.w (c.loc id).1 0 m dk os = W
 let cc:Cx:=⟨num,W.heap.size,c.I,W,fun _ => (0,0),fun _ => none⟩
 have Kc:Ok cc 0:={
  basele:=Nat.le_refl _
  cells:=fun _ _ _ h => by cases h
  maps:=fun _ _ h => by cases h
  toks:=fun _ h => by cases h
  inj:=fun _ _ _ h => by obtain ⟨_,h,_⟩:=h;cases h
  fresh:=fun _ _ => rfl
  gl:=fun k h => by rw[show cc.num 1000000 = 0 from hz] at h;cases h }
 have hI:∀ ad,c.I ad→cc.I ad∧∀ v,c.w.cell? ad = some v→cc.w.cell? ad = some v:=by
  intro ad h
  have h1:=I_lt K.basele h
  have hne:ad.block≠(c.loc id).1:=by
   intro he
   rcases h with ⟨h2,_⟩ | ⟨_,_,h3⟩
   ·have:=(K.cells id cs _ hid).1;omega
   ·exact h3 (.inl ⟨id,cs,hid,he.symm⟩)
  have e:W.heap[ad.block]? = c.w.heap[ad.block]?:=by rw[←hW];exact sw_other hne h1
  refine ⟨.inl ⟨?_,h⟩,fun v hv => ?_⟩
  ·show ad.block < W.heap.size
   rw[←hW];exact Nat.lt_of_lt_of_le h1 sw_size
  ·show W.cell? ad = some v
   rw[←hv]
   unfold World.cell?
   rw[e]
 obtain ⟨k,g',hk⟩:=pureS_i64 (sp_mcompare A x.list y.list .non .non x.len)
 have hr:Reps cc true [.sl (intsC x.list) x.list.length .non,.sl (intsC y.list) y.list.length .non] [x.enc,y.enc]:=by
  refine ⟨rfl,fun j u v hu hv => ?_⟩
  match j with
  | 0 => cases hu;cases hv;exact rep_intsC x.rep hI
  | 1 => cases hu;cases hv;exact rep_intsC y.rep hI
  | j + 2 => cases hu
 have h:=((callE_ok hT hm k).2 326 _ g0 _ _ hk).2 cc [x.enc,y.enc] rfl rfl Kc hr
 refine Calls.mono h.1 ?_
 rintro e w' ⟨val,c',rfl,rfl,E,_,_,hrep⟩
 cases hrep
 refine ⟨rfl,?_⟩
 have hb:Below W.heap.size W c'.w:=E.below
 have hdr:W.drawn≤c'.w.drawn:=E.dr hd
 obtain ⟨p,hp⟩:=regrown_of_below hb
 refine ⟨c'.w.drawn - W.drawn,p.os,?_⟩
 have hpd:p.d = c'.w.drawn:=by rw[hp];rfl
 rw[World.drewN,show W.drawn + (c'.w.drawn - W.drawn) = c'.w.drawn by omega,←hpd]
 exact hp
theorem sortH_inv {xs:List AV} {hp:Nat→Option Blk} {r:AV × Option (Nat × List AV)} (h:sortH xs hp = some r):(xs = [.sl [] 0 .rig,.fn 326 [] []]∧r = (.tup [],none))∨∃ id cs L,xs = [.ms id 0 L.length,.fn 326 [] []]∧hp id = some (.cells cs false)∧decLL cs = some L∧L.length≤1000000∧r = (.tup [],some (id,llC (srtD L))):=by
 unfold sortH at h
 split at h
 ·rename_i id n
  split at h
  ·rename_i cs hid
   split at h
   ·rename_i L hL
    split at h
    ·rename_i hn
     obtain ⟨rfl,_,h3⟩:=hn
     cases h
     exact .inr ⟨id,cs,L,rfl,hid,hL,h3,rfl⟩
    ·cases h
   ·cases h
  ·cases h
 ·cases h;exact .inl ⟨rfl,rfl⟩
 ·cases h
theorem putCells_eq {α:Type} [Inhabited α] (enc:α→Value) (d:Array α) (l:List Value) (h:d.size≤l.length):putCells enc 0 d l.toArray = (lset l 0 (d.toList.map enc)).toArray:=by
 rw[lset_eq _ _ _ (by simpa using h)]
 apply Array.ext_getElem?
 intro k
 simp only[putCells,Array.getElem?_mapIdx,List.getElem?_toArray,List.take_zero,List.nil_append,Nat.zero_add,List.length_map,Array.length_toList,Nat.zero_le,true_and,Nat.sub_zero]
 by_cases hk:k < d.size
 ·rw[List.getElem?_append_left (by simpa using hk),List.getElem?_map,Array.getElem?_toList (xs:=d),Array.getElem?_eq_getElem hk]
  rw[List.getElem?_eq_getElem (show k < l.length by omega)]
  simp[hk,getElem!_pos d k hk]
 ·rw[List.getElem?_append_right (by simpa using Nat.le_of_not_lt hk)]
  simp only[List.length_map,Array.length_toList,List.getElem?_drop]
  rw[show d.size + (k - d.size) = k by omega]
  cases l[k]? with
  | none => rfl
  | some x => simp[hk]
end Go.Ab
namespace Go.Proofs
open Go.Ab Go.RowKit Go.Sort
def SortNil (num:Nat→Nat):Prop:=∀ (c:Cx) (nx:Nat) (vargs:List Value),c.num = num→Ab.Ok c nx→Reps c true [.sl [] 0 .rig,.fn 326 [] []] vargs →
 Calls Try.prog (num 374) vargs.toArray c.w fun e w' => e = .returned (.tuple #[])∧Below c.w.heap.size c.w w'∧c.w.drawn≤w'.drawn
theorem primSort {num num2:Nat→Nat} {F2:Funs} (h0:SortNil num) (hT:Table Try.prog num2 F2) (hm:Try.prog.follows .mixedOrders = true) (A:CmpF F2) (hz:num2 1000000 = 0) (hd:num2 1000001 = 0) (hn2:num2 326 = num 326) (h1:num 374 = 19):PrimOk Try.prog num 374 A_sortFunc:=by
 refine ⟨2,sortH,rfl,rfl,⟨Try.f19,by rw[h1];exact Try.func19,by kernel_rfl,by kernel_rfl⟩,?_⟩
 intro xs g v g' hl hp c vargs hn hhp K hr
 have hxs:(List.range 2).map (argEnv xs) = xs:=by
  obtain ⟨a,b,rfl⟩:∃ a b,xs = [a,b]:=by
   match xs,hl with
   | [a,b],_ => exact ⟨a,b,rfl⟩
  rfl
 rw[hxs] at hp
 unfold primE at hp
 cases hs:sortH xs g.hp with
 | none => rw[hs] at hp;cases hp
 | some r =>
 rcases sortH_inv hs with ⟨rfl,rfl⟩ | ⟨id,cs,L,rfl,hid,hL,hlen,rfl⟩
 ·rw[hs] at hp
  cases hp
  refine Calls.mono (h0 c g.nx vargs hn K hr) ?_
  rintro e w' ⟨rfl,hb,hd'⟩
  exact ⟨_,c.grow w',rfl,rfl,Evo.grow K hb fun _ => hd',K.grow hb fun _ => hd',hhp,.tup [] rfl fun j x v h => by cases h⟩
 rw[hs] at hp
 simp only[hid] at hp
 cases hp
 have hidc:c.hp id = some (.cells cs false):=by rw[hhp];exact hid
 obtain ⟨hb0,vs,us0,ty,hheap,hreps,hones⟩:=K.cells id cs _ hidc
 obtain ⟨⟨ds,e1,e2⟩,e3⟩:=lv_of hreps hL
 have hds:ds.length = L.length:=by rw[←e1];simp
 obtain ⟨hlenv,hrepv⟩:=hr
 obtain ⟨u0,u1,rfl⟩:∃ a b,vargs = [a,b]:=by
  match vargs,hlenv with
  | [a,b],_ => exact ⟨a,b,rfl⟩
 have r0:=hrepv 0 _ u0 rfl rfl
 have r1:=hrepv 1 _ u1 rfl rfl
 cases r0 with
 | ms _ _ _ cap hs1 hcap hcap2 hms =>
 cases r1 with
 | fn ws xs' hw hx' _ _ =>
 have:ws = []:=List.length_eq_zero_iff.1 hw.symm
 subst this
 have:xs' = []:=List.length_eq_zero_iff.1 hx'.symm
 subst this
 have hlt:(c.loc id).1 < c.w.heap.size:=(Array.getElem?_eq_some_iff.1 hheap).1
 obtain ⟨fn,f1,f2,f3⟩:∃ fn,Try.prog.funcs[num2 326]? = some fn∧fn.body.isSome∧(fn.name == "runtime.NumGoroutine") = false:=by
  obtain ⟨k,g',hk⟩:=pureS_i64 (sp_mcompare A [] [] .non .non (Nat.zero_le _))
  have K0:Ok ⟨num2,c.w.heap.size,c.I,c.w,fun _ => (0,0),fun _ => none⟩ 0:={
   basele:=Nat.le_refl _
   cells:=fun _ _ _ h => by cases h
   maps:=fun _ _ h => by cases h
   toks:=fun _ h => by cases h
   inj:=fun _ _ _ h => by obtain ⟨_,h,_⟩:=h;cases h
   fresh:=fun _ _ => rfl
   gl:=fun k h => by rw[show (Cx.mk num2 c.w.heap.size c.I c.w (fun _ => (0,0)) fun _ => none).num 1000000 = 0 from hz] at h;cases h }
  refine (((callE_ok hT hm k).2 326 _ g0 _ _ hk).2 _ [.slice none 0 0,.slice none 0 0] rfl rfl K0 ⟨rfl,fun j u v hu hv => ?_⟩).2
  match j with
  | 0 => cases hu;cases hv;exact repNil _
  | 1 => cases hu;cases hv;exact repNil _
  | j + 2 => cases hu
 obtain ⟨bd,hbd⟩:=Option.isSome_iff_exists.1 f2
 have hsz:ds.toArray.size = L.length:=by simpa using hds
 have hH:Holds (LV.enc (c:=c)) c.w (c.loc id).1 0 ds.toArray:=by
  intro j hj
  have hj':j < ds.length:=by simpa using hj
  constructor
  ·unfold World.cell?
   simp only[hheap,Nat.zero_add]
   rw[←e2]
   rw[getElem!_pos ds.toArray j hj]
   simp only[Option.isSome_none,Bool.false_eq_true,if_false,List.getElem?_toArray]
   rw[List.getElem?_append_left (by simpa using hj'),List.getElem?_map,List.getElem?_eq_getElem hj']
   rfl
  ·unfold World.frozen?
   simp[hheap]
 have main:=Try.slices_SortFunc (LV.enc (c:=c)) (lv_one c) LV.cf (lv_swo c) (num2 326) #[] (c.loc id).1 0 cap ds.toArray c.w (fun args w => enters_of f1 f3 hbd args w) (cmp_lays hT hm A hz hd K hidc _) hH hlt (by omega)
 rw[h1]
 have eargs:([Value.slice (some ⟨(c.loc id).1,0,none⟩) L.length cap,.func (.func (c.num 326)) [].toArray [].toArray]:List Value).toArray = #[.slice (some ⟨(c.loc id).1,0,none⟩) ds.toArray.size cap,.func (.func (num2 326)) #[] #[]]:=by
  rw[hsz,hn2,hn]
 rw[eargs]
 refine Calls.mono main ?_
 rintro e w' ⟨rfl,d',n,os,hperm,hsort,rfl⟩
 obtain ⟨p1,_,p3⟩:=hperm
 have hP:d'.toList.Perm ds:=by
  have a1:d'.extract 0 ds.toArray.size = d':=by rw[←p1];exact Array.extract_size
  have a2:ds.toArray.extract 0 ds.toArray.size = ds.toArray:=Array.extract_size
  rw[a1,a2] at p3
  simpa using p3
 have hL':d'.toList.map LV.list = srtD L:=by
  refine srtD_ext ?_ (srtD_srt L) (((hP.map LV.list).trans (by rw[e1])).trans (srtD_perm L).symm)
  refine List.pairwise_iff_getElem.2 fun i j hi hj hij => ?_
  have hj':j < d'.size:=by simpa using hj
  have hi':i < d'.size:=by simpa using hi
  have h:=hsort i j (Nat.zero_le _) hij (by rw[←p1];exact hj')
  rw[getElem!_pos d' i hi',getElem!_pos d' j hj'] at h
  unfold ltOf LV.cf at h
  have:=of_decide_eq_false h
  simpa [ltL] using this
 have hrr:Reps c true (llC (srtD L)) (d'.toList.map LV.enc):=by rw[←hL'];exact lv_reps _
 have hcl:(llC (srtD L)).length = cs.length:=by rw[llC_len,srtD_len,e3]
 have hf:0 + (llC (srtD L)).length≤cs.length:=by omega
 have hone:(llC (srtD L)).all Ab.one = true:=by
  rw[List.all_eq_true]
  intro x hx
  obtain ⟨l,_,rfl⟩:=List.mem_map.1 hx
  rfl
 have E1:=Evo.store K (off:=0) (xs:=llC (srtD L)) (us:=d'.toList.map LV.enc) hidc hf
 have K1:=K.store (off:=0) (us:=d'.toList.map LV.enc) hidc hrr hf hone
 have hbs:=below_setCells (c.loc id).1 (d'.toList.map LV.enc) 0 c.w (Below.refl 0 c.w) (Nat.zero_le _)
 have hvl:vs.length = L.length:=by rw[←e2];simpa using hds
 have hb:Below (c.store id 0 cs (llC (srtD L)) (d'.toList.map LV.enc)).w.heap.size (c.store id 0 cs (llC (srtD L)) (d'.toList.map LV.enc)).w (sortWorld LV.enc c.w (c.loc id).1 0 n d' os):=by
  refine ⟨hbs.os.symm,hbs.tape.symm,hbs.output.symm,?_,fun k hk => ?_⟩
  ·show (c.w.setCells _ _ _).heap.size≤_
   rw[Go.Ab.size_setCells];exact sw_size
  ·have hk:k < (c.w.setCells (c.loc id).1 0 (d'.toList.map LV.enc)).heap.size:=hk
   rw[Go.Ab.size_setCells] at hk
   show _ = (c.w.setCells (c.loc id).1 0 (d'.toList.map LV.enc)).heap[k]?
   by_cases he:k = (c.loc id).1
   ·subst he
    rw[sw_same hheap,heap_setCells_same _ _ _ _ _ _ _ hheap,putCells_eq]
    rw[List.length_append,p1,hsz];omega
   ·rw[sw_other he hk,heap_setCells_other _ _ _ _ _ he]
 have hdr:c.w.drawn≤(sortWorld (LV.enc (c:=c)) c.w (c.loc id).1 0 n d' os).drawn:=by rw[sw_drawn];omega
 have hdr1:(c.store id 0 cs (llC (srtD L)) (d'.toList.map LV.enc)).w.drawn≤(sortWorld (LV.enc (c:=c)) c.w (c.loc id).1 0 n d' os).drawn:=by
  show (c.w.setCells _ _ _).drawn≤_
  rw[Go.Ab.drawn_setCells];exact hdr
 refine ⟨_,(c.store id 0 cs (llC (srtD L)) (d'.toList.map LV.enc)).grow _,rfl,rfl,E1.trans (Evo.grow K1 hb fun _ => hdr1),K1.grow hb fun _ => hdr1,?_,.tup [] rfl fun j x v h => by cases h⟩
 show upd c.hp id (some (.cells (splice cs 0 (llC (srtD L))) false)) = _
 rw[splice_eq _ _ _ hf,lset_eq _ _ _ hf,hhp]
 simp[hcl]
end Go.Proofs
end
section
set_option linter.unusedVariables false
set_option linter.unusedSimpArgs false
namespace Go.Proofs
open Go.Ab Go.RowKit Go.Sort
theorem sortNil_of {num num3:Nat→Nat} {F3:Funs} (hT:Table Try.prog num3 F3) (hm:Try.prog.follows .mixedOrders = true) (hz:num3 1000000 = 0) (hd:num3 1000001 = 0) (h1:num3 374 = num 374) (h2:num3 326 = num 326) {k:Nat} {g':G}
  (hk:callE F3 k 374 [.sl [] 0 .rig,.fn 326 [] []] g0 = some (.tup [],g')):SortNil num:=by
 intro c nx vargs hn K hr
 let cc:Cx:=⟨num3,c.w.heap.size,c.I,c.w,fun _ => (0,0),fun _ => none⟩
 have Kc:Ab.Ok cc 0:={
  basele:=Nat.le_refl _
  cells:=fun _ _ _ h => by cases h
  maps:=fun _ _ h => by cases h
  toks:=fun _ h => by cases h
  inj:=fun _ _ _ h => by obtain ⟨_,h,_⟩:=h;cases h
  fresh:=fun _ _ => rfl
  gl:=fun k h => by rw[show cc.num 1000000 = 0 from hz] at h;cases h }
 obtain ⟨hlenv,hrepv⟩:=hr
 obtain ⟨u0,u1,rfl⟩:∃ a b,vargs = [a,b]:=by
  match vargs,hlenv with
  | [a,b],_ => exact ⟨a,b,rfl⟩
 have r0:=hrepv 0 _ u0 rfl rfl
 have r1:=hrepv 1 _ u1 rfl rfl
 have q0:Rep cc true (.sl [] 0 .rig) u0:=by
  cases r0 with
  | sl ad vs hc hm hr' ho hz h1' hl ha hk hx ht =>
    have:vs = []:=List.length_eq_zero_iff.1 hl.symm
    subst this
    exact .sl ad [] hc hm hr' (fun h => by cases h) hz h1' rfl ha (fun j v h => by cases h) (fun j x v h => by cases h) (fun _ _ h => by cases h)
 have q1:Rep cc true (.fn 326 [] []) u1:=by
  cases r1 with
  | fn ws xs' hw hx' _ _ =>
    have:ws = []:=List.length_eq_zero_iff.1 hw.symm
    subst this
    have:xs' = []:=List.length_eq_zero_iff.1 hx'.symm
    subst this
    rw[hn,←h2]
    exact .fn (c:=cc) (f:=326) [] [] rfl rfl (fun j x v h => by cases h) (fun j x v h => by cases h)
 have h:=((callE_ok hT hm k).2 374 _ g0 _ _ hk).2 cc [u0,u1] rfl rfl Kc ⟨rfl,fun j x v hx hv => by
  match j with
  | 0 => cases hx;cases hv;exact q0
  | 1 => cases hx;cases hv;exact q1
  | j + 2 => cases hx⟩
 rw[←h1]
 refine Calls.mono h.1 ?_
 rintro e w' ⟨val,c',rfl,rfl,E,_,_,hrep⟩
 cases hrep with
 | tup vs hl _ =>
   have:vs = []:=List.length_eq_zero_iff.1 hl.symm
   subst this
   exact ⟨rfl,E.below,E.dr hd⟩
end Go.Proofs
end
section
namespace Go.Proofs
open Go.Shelf
def Try.laysNm215_ren:Go.Shelf.Ren:=⟨fun | 15 => 18 | n => n,fun | 22 => 23 | 3 => 3 | 4 => 4 | n => n,fun | n => n⟩
theorem Try.laysNm215:Go.Proofs.Lays2.n15 Try.prog Try.laysNm215_ren:={
 mixed:=by kernel_rfl
 f15:=Try.func18.trans (congrArg some (by kernel_rfl))
 t3:=Try.underlying3
 a3:=Try.isAgg3
 z3:=Try.sizeOf3
 v3:=Try.zeroValue3
 t4:=Try.underlying4
 a4:=Try.isAgg4
 z4:=Try.sizeOf4
 v4:=Try.zeroValue4
 t22:=Try.underlying23
 a22:=Try.isAgg23
 z22:=Try.sizeOf23
 v22:=Try.zeroValue23
 i3:=by kernel_rfl }
open Go.RowKit Go.Lib in
theorem Try.slices_Clone_int (b off n c:Nat) (zs:List Int) (w:World) (hz:n≤zs.length) (hbig:n * 8≤140737488355328) (hc:∀ j,j < zs.length→w.cell? ⟨b,off + j,none⟩ = some (.int .i64 (zs.getD j 0))):
  Calls Try.prog 18 #[.slice (some ⟨b,off,none⟩) n c] w fun e w' => ∃ v',e = .returned v'∧w'.ownsRow w.heap.size 3 1 v' n ((zs.take n).map (Value.int .i64))∧v'≠.slice none 0 0∧Below w.heap.size w w':=Any.slices_Clone_int Try.laysNm215 b off n c zs w hz hbig hc
open Go.RowKit Go.Lib in
theorem Try.slices_Clone_int_nil (n c:Nat) (w:World):
  Calls Try.prog 18 #[.slice none n c] w fun e w' => e = .returned (.slice none 0 0)∧w' = w:=Any.slices_Clone_int_nil Try.laysNm215 n c w
open Go.RowKit Go.Lib in
theorem Try.slices_Clone_int_zero (a:Addr) (c:Nat) (w:World):
  Calls Try.prog 18 #[.slice (some a) 0 c] w fun e w' => ∃ v',e = .returned v'∧w'.ownsRow w.heap.size 3 1 v' 0 []∧v'≠.slice none 0 0∧Below w.heap.size w w':=Any.slices_Clone_int_zero Try.laysNm215 a c w
end Go.Proofs
end
section
set_option linter.unusedVariables false
set_option linter.unusedSimpArgs false
set_option linter.unnecessarySimpa false
namespace Go.Ab
open Go.RowKit Go.Sort
theorem own_rep {c:Cx} {nx:Nat} (K:Ok c nx) {w':World} {v:Value} {l:List Int} {e:TypeId} (h:w'.ownsRow c.w.heap.size e 1 v l.length (l.map (Value.int .i64))):Rep (c.grow w') true (.sl (intsC l) l.length .non) v:=by
 have h0:=h
 obtain ⟨_,⟨rfl,hn⟩ | ⟨g,cap,cur,rfl,hg,hh,hc,hm,hs,ht⟩⟩:=h
 ·have:l = []:=List.length_eq_zero_iff.1 hn
  subst this
  exact repNil _
 ·refine .sl ⟨g,0,none⟩ (l.map (Value.int .i64)) hc hm (fun h => by cases h) (fun h => by cases h) (fun _ => rfl) (fun v hv => ?_) (by simp[intsC]) (fun _ => rfl) (fun j v hv => ⟨?_,?_⟩) (fun j x v hx hv => ?_) (fun _ _ h => by cases h)
  ·obtain ⟨n,_,rfl⟩:=List.mem_map.1 hv
   rfl
  ·rw[Addr.add_lit]
   exact I_beside K hg (Array.getElem?_eq_some_iff.1 hh).1
  ·have hj:j < l.length:=by simpa using (List.getElem?_eq_some_iff.1 hv).1
   rw[Addr.add_lit,Nat.zero_add]
   exact (h0.cellAt j (by omega)).trans hv
  ·unfold intsC at hx
   rw[List.getElem?_map] at hx hv
   cases hl:l[j]? with
   | none => rw[hl] at hx;cases hx
   | some n => rw[hl] at hx hv;cases hx;cases hv;exact .i _ _
theorem cloneH_inv {xs:List AV} {hp:Nat→Option Blk} {r:AV × Option (Nat × List AV)} (h:cloneH xs hp = some r):∃ l t,xs = [.sl (intsC l) l.length t]∧l.length≤1000000∧r = (.sl (intsC l) l.length .non,none):=by
 unfold cloneH at h
 split at h
 ·rename_i cs n t
  split at h
  ·rename_i l hl
   split at h
   ·rename_i hn
    obtain ⟨rfl,h3⟩:=hn
    have:=decI_inv hl
    subst this
    cases h
    exact ⟨l,t,rfl,h3,rfl⟩
   ·cases h
  ·cases h
 ·cases h
end Go.Ab
namespace Go.Proofs
open Go.Ab Go.RowKit Go.Sort
theorem primClone {num:Nat→Nat} (h1:num 373 = 18) (hd:num 1000001≠0):PrimOk Try.prog num 373 A_clone:=by
 refine ⟨1,cloneH,rfl,rfl,⟨Try.f18,by rw[h1];exact Try.func18,by kernel_rfl,by kernel_rfl⟩,?_⟩
 intro xs g v g' hl hp c vargs hn hhp K hr
 have hxs:(List.range 1).map (argEnv xs) = xs:=by
  obtain ⟨a,rfl⟩:=List.length_eq_one_iff.1 hl
  rfl
 rw[hxs] at hp
 unfold primE at hp
 cases hs:cloneH xs g.hp with
 | none => rw[hs] at hp;cases hp
 | some r =>
 obtain ⟨l,t,rfl,hlen,rfl⟩:=cloneH_inv hs
 rw[hs] at hp
 cases hp
 obtain ⟨hlenv,hrepv⟩:=hr
 obtain ⟨u,rfl⟩:=List.length_eq_one_iff.1 (show vargs.length = 1 by rw[←hlenv];rfl)
 have r0:=hrepv 0 _ u rfl rfl
 have hdn:c.num 1000001 = 0→∀ w':World,c.w.drawn≤w'.drawn:=fun h => absurd (hn ▸ h) hd
 rw[h1]
 have fin:∀ {e:Ending} {w':World} {v':Value},e = .returned v'→w'.ownsRow c.w.heap.size 3 1 v' l.length (l.map (Value.int .i64))→Below c.w.heap.size c.w w'→∃ val c',e = .returned val∧c'.w = w'∧Evo c c'∧Ab.Ok c' g.nx∧c'.hp = g.hp∧Rep c' true (.sl (intsC l) l.length .non) val:=by
  intro e w' v' he ho hb
  exact ⟨v',c.grow w',he,rfl,Evo.grow K hb (fun h => hdn h w'),K.grow hb (fun h => hdn h w'),hhp,own_rep K ho⟩
 cases r0 with
 | @sl _ _ _ _ a cap ad vs hc hm hr' ho hz h1' hl' ha hk hx ht =>
 cases a with
 | none =>
   have h0:l = []:=by
    cases l with
    | nil => rfl
    | cons x l => exact absurd (hz (by simp)) (by simp)
   subst h0
   refine Calls.mono (Try.slices_Clone_int_nil _ cap c.w) ?_
   rintro e w' ⟨rfl,rfl⟩
   exact ⟨_,c,rfl,rfl,Evo.refl c,K,hhp,repNil c⟩
 | some a0 =>
   cases l with
   | nil =>
     refine Calls.mono (Try.slices_Clone_int_zero a0 cap c.w) ?_
     rintro e w' ⟨v',he,ho,_,hb⟩
     exact fin he ho hb
   | cons x l =>
     have had:a0 = ad:=by
      have:=ha (by simp[intsC])
      cases this
      rfl
     subst had
     have hcell:∀ j,j < (x :: l).length→c.w.cell? (a0.add j) = some (.int .i64 ((x :: l).getD j 0)):=by
      intro j hj
      have hj2:j < vs.length:=by rw[←hl'];simpa [intsC] using hj
      have hv:=List.getElem?_eq_getElem hj2
      have h2:=(hk j _ hv).2
      have hx2:(intsC (x :: l))[j]? = some (.i .i64 ((x :: l).getD j 0)):=by
       unfold intsC
       rw[List.getElem?_map,List.getD_eq_getElem?_getD,List.getElem?_eq_getElem hj]
       rfl
      have h3:=hx j _ _ hx2 hv
      rw[h2,rep_i h3]
     obtain ⟨b,off,sp⟩:=a0
     have hsp:sp = none:=by
      have h:=hcell 0 (by simp)
      rw[show Addr.add ⟨b,off,sp⟩ 0 = ⟨b,off,sp⟩ from rfl] at h
      unfold World.cell? at h
      cases sp with
      | none => rfl
      | some s =>
        exfalso
        simp only[Option.isSome_some,if_true] at h
        split at h<;>cases h
     subst hsp
     refine Calls.mono (Try.slices_Clone_int b off (x :: l).length cap (x :: l) c.w (Nat.le_refl _) (by omega) fun j hj => ?_) ?_
     ·have:=hcell j hj
      rwa [Addr.add_lit] at this
     ·rintro e w' ⟨v',he,ho,_,hb⟩
      rw[List.take_length] at ho
      exact fin he ho hb
end Go.Proofs
end
