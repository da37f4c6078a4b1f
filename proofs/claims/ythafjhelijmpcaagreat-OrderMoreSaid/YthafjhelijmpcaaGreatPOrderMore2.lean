/- What OrderMore rests on, part 2: lemmas, no claim of its own. -/
import Derived.LoopN
import Derived.Scope
import Derived.Test.YthafjhelijmpcaaGreatChecked
import Derived.KernelRfl
import Derived.OpenShut
import Derived.ChangeArms
import Derived.Laws.Rows
import Derived.Test.YthafjhelijmpcaaGreatPOrderMore1
set_option maxRecDepth 100000
set_option maxHeartbeats 16000000
open Nat renaming reduceAdd → qa, reduceMul → qb, reduceSub → qc
section
set_option linter.unusedVariables false
set_option linter.unusedSimpArgs false
namespace Go.Ab
def Opd.names:Opd→List Nat
 | .t n => [n]
 | .c _ => []
def onames:Option Opd→List Nat
 | some x => x.names
 | none => []
def pnames (ps:List (Nat × Nat × Opd)):List Nat:=ps.flatMap fun p => p.2.2.names
def AOp.names:AOp→List Nat
 | .mv x | .box x | .boxI x | .ld _ x | .ldF _ x | .nilck x | .eqs _ x | .clr _ _ x | .un _ x | .conv _ x | .fa _ x | .fld _ _ x | .ext _ x | .len x | .slen x => x.names
 | .pick x y z | .mput x y z => x.names ++ y.names ++ z.names
 | .new _ | .mkmap => []
 | .build _ ps | .bsl _ _ _ ps => pnames ps
 | .st _ x y | .stL _ x y | .stW _ x y | .bin _ x y | .eqb _ x y | .eqn _ x y | .eqa _ _ x y | .mget x y | .mksl _ _ _ x y | .ia _ x y | .iaa _ _ x y | .idx _ _ _ x y | .sidx x y | .mx x y | .mn x y | .app _ _ x y | .appM _ _ x y | .cutM _ x y => x.names ++ y.names
 | .bad => []
 | .ldQ _ x t => x.names ++ [t]
 | .stN _ x y ts => x.names ++ y.names ++ ts
 | .mkfn _ a b => a.flatMap (·.names) ++ b.flatMap (·.names)
 | .slice _ x l h m => x.names ++ onames l ++ onames h ++ onames m
 | .sslice x l h => x.names ++ onames l ++ onames h
 | .call _ f asx => f.names ++ asx.flatMap (·.names)
theorem ev_congr {e e':Env} {x:Opd} (h:∀ t∈x.names,e' t = e t):x.ev e' = x.ev e:=by
 cases x with
 | t n => exact h n (by simp[Opd.names])
 | c v => rfl
theorem evo_congr {e e':Env} {x:Option Opd} (h:∀ t∈onames x,e' t = e t):evo e' x = evo e x:=by
 cases x with
 | none => rfl
 | some x => exact congrArg some (ev_congr h)
theorem evl_congr {e e':Env}:∀ {xs:List Opd},(∀ t∈xs.flatMap (·.names),e' t = e t)→xs.map (·.ev e') = xs.map (·.ev e)
 | [],_ => rfl
 | x :: xs,h => by
   rw[List.map_cons,List.map_cons,ev_congr (fun t ht => h t (by simp[ht])),evl_congr (xs:=xs) (fun t ht => h t (by rw[List.flatMap_cons];exact List.mem_append_right _ ht))]
theorem fill_congr {e e':Env}:∀ {ps:List (Nat × Nat × Opd)} {cs:List AV},(∀ t∈pnames ps,e' t = e t)→fill e' cs ps = fill e cs ps
 | [],_,_ => rfl
 | (off,n,x) :: ps,cs,h => by
   have hx:x.ev e' = x.ev e:=ev_congr (fun t ht => h t (by simp[pnames,ht]))
   simp only[fill,hx]
   split
   ·exact fill_congr (ps:=ps) (fun t ht => h t (by
     unfold pnames at ht ⊢
     rw[List.flatMap_cons]
     exact List.mem_append_right _ ht))
   ·rfl
theorem opE_congr {call:CS} {al:Nat→Bool} {lo id:Nat} {op:AOp} {e e':Env} (h:∀ t∈op.names,e' t = e t) (g:G):opE call al lo id op e' g = opE call al lo id op e g:=by
 have l1:∀ {x:Opd} {ns:List Nat},(∀ t∈x.names ++ ns,e' t = e t)→x.ev e' = x.ev e:=fun h => ev_congr fun t ht => h t (List.mem_append_left _ ht)
 cases op<;>simp only[AOp.names] at h<;>simp only[opE]
 case mv => rw[ev_congr h]
 case pick => rw[ev_congr fun t ht => h t (by simp[ht]),ev_congr fun t ht => h t (by simp[ht]),ev_congr fun t ht => h t (by simp[ht])]
 case box => rw[ev_congr h]
 case boxI => rw[ev_congr h]
 case build => rw[fill_congr h]
 case bsl => rw[fill_congr h]
 case ld => rw[ev_congr h]
 case ldF => rw[ev_congr h]
 case ldQ => rw[ev_congr fun t ht => h t (by simp[ht]),h _ (by simp)]
 case stN =>
  rename_i n a x ts
  have hts:ts.map e' = ts.map e:=List.map_congr_left fun t ht => h t (by simp[ht])
  rw[ev_congr fun t ht => h t (by simp[ht]),ev_congr fun t ht => h t (by simp[ht]),hts]
 case stW => rw[ev_congr fun t ht => h t (by simp[ht]),ev_congr fun t ht => h t (by simp[ht])]
 case st => rw[ev_congr fun t ht => h t (by simp[ht]),ev_congr fun t ht => h t (by simp[ht])]
 case stL => rw[ev_congr fun t ht => h t (by simp[ht]),ev_congr fun t ht => h t (by simp[ht])]
 case nilck => rw[ev_congr h]
 case bin => rw[ev_congr fun t ht => h t (by simp[ht]),ev_congr fun t ht => h t (by simp[ht])]
 case eqb => rw[ev_congr fun t ht => h t (by simp[ht]),ev_congr fun t ht => h t (by simp[ht])]
 case eqn => rw[ev_congr fun t ht => h t (by simp[ht]),ev_congr fun t ht => h t (by simp[ht])]
 case eqs => rw[ev_congr h]
 case clr => rw[ev_congr h]
 case eqa => rw[ev_congr fun t ht => h t (by simp[ht]),ev_congr fun t ht => h t (by simp[ht])]
 case un => rw[ev_congr h]
 case conv => rw[ev_congr h]
 case mkfn => rw[evl_congr fun t ht => h t (List.mem_append_left _ ht),evl_congr fun t ht => h t (List.mem_append_right _ ht)]
 case mput => rw[ev_congr fun t ht => h t (by simp[ht]),ev_congr fun t ht => h t (by simp[ht]),ev_congr fun t ht => h t (by simp[ht])]
 case mget => rw[ev_congr fun t ht => h t (by simp[ht]),ev_congr fun t ht => h t (by simp[ht])]
 case mksl => rw[ev_congr fun t ht => h t (by simp[ht]),ev_congr fun t ht => h t (by simp[ht])]
 case slice => rw[ev_congr fun t ht => h t (by simp[ht]),evo_congr fun t ht => h t (by simp[ht]),evo_congr fun t ht => h t (by simp[ht]),evo_congr fun t ht => h t (by simp[ht])]
 case sslice => rw[ev_congr fun t ht => h t (by simp[ht]),evo_congr fun t ht => h t (by simp[ht]),evo_congr fun t ht => h t (by simp[ht])]
 case fa => rw[ev_congr h]
 case fld => rw[ev_congr h]
 case ia => rw[ev_congr fun t ht => h t (by simp[ht]),ev_congr fun t ht => h t (by simp[ht])]
 case iaa => rw[ev_congr fun t ht => h t (by simp[ht]),ev_congr fun t ht => h t (by simp[ht])]
 case idx => rw[ev_congr fun t ht => h t (by simp[ht]),ev_congr fun t ht => h t (by simp[ht])]
 case sidx => rw[ev_congr fun t ht => h t (by simp[ht]),ev_congr fun t ht => h t (by simp[ht])]
 case ext => rw[ev_congr h]
 case len => rw[ev_congr h]
 case slen => rw[ev_congr h]
 case mx => rw[ev_congr fun t ht => h t (by simp[ht]),ev_congr fun t ht => h t (by simp[ht])]
 case mn => rw[ev_congr fun t ht => h t (by simp[ht]),ev_congr fun t ht => h t (by simp[ht])]
 case app => rw[ev_congr fun t ht => h t (by simp[ht]),ev_congr fun t ht => h t (by simp[ht])]
 case appM => rw[ev_congr fun t ht => h t (by simp[ht]),ev_congr fun t ht => h t (by simp[ht])]
 case cutM => rw[ev_congr fun t ht => h t (by simp[ht]),ev_congr fun t ht => h t (by simp[ht])]
 case call => rw[l1 h,evl_congr fun t ht => h t (List.mem_append_right _ ht)]
inductive Cls where
 | p | r | a | t | s | x
 deriving DecidableEq
def cls:AOp→Cls
 | .ld _ _ | .mget _ _ | .call .pure _ _ => .r
 | .new _ | .box _ | .bsl false _ _ _ | .mkmap | .mksl _ _ _ _ _ | .call .thaw _ _ | .call .melt _ _ => .a
 | .app _ _ _ _ => .t
 | .stL _ _ _ => .s
 | .st _ _ _ | .mput _ _ _ | .call .raw _ _ | .call .see _ _ | .call .lock _ _ | .appM _ _ _ _ | .cutM _ _ _ | .clr _ _ _ | .bad | .ldF _ _ | .stW _ _ _ | .ldQ _ _ _ | .stN _ _ _ _ => .x
 | _ => .p
def CM:Option Blk→Prop
 | some (.cells _ _) | some (.map _) => True
 | _ => False
def isT:Option Blk→Prop
 | some (.tok true) => True
 | _ => False
def Rd (c:Cls) (al:Nat→Bool) (lo:Nat) (g:G) (i:Nat):Prop:=match c with
 | .p => False
 | .r | .a => al i = true∧CM (g.hp i)
 | .t => al i = true∧(CM (g.hp i)∨isT (g.hp i))
 | .s => lo≤i∧al i = true∧CM (g.hp i)
 | .x => True
def Wr (c:Cls) (al:Nat→Bool) (lo id:Nat) (g:G) (i:Nat):Prop:=match c with
 | .p | .r => False
 | .a => i = id
 | .t => i = id∨(al i = true∧isT (g.hp i))
 | .s => lo≤i∧al i = true∧CM (g.hp i)
 | .x => True
open Classical in
structure Foot (call:CS) (al:Nat→Bool) (lo id:Nat) (op:AOp) (e:Env) (g:G) (v:AV) (g1:G):Prop where
 nx:g1.nx = g.nx
 kind:∀ i,i≠id→CM (g1.hp i)→CM (g.hp i)
 foot:∃ W:Nat→Prop,(∀ i,W i→Wr (cls op) al lo id g i)∧(∀ i,¬ W i→g1.hp i = g.hp i) ∧
  ∀ g':G,(∀ i,Rd (cls op) al lo g i→g'.hp i = g.hp i)→opE call al lo id op e g' = some (v,⟨fun i => if W i then g1.hp i else g'.hp i,g'.nx⟩)
theorem foot_none {call:CS} {al:Nat→Bool} {lo id:Nat} {op:AOp} {e:Env} {g:G} {v:AV} (h:∀ g':G,(∀ i,Rd (cls op) al lo g i→g'.hp i = g.hp i)→opE call al lo id op e g' = some (v,g')):Foot call al lo id op e g v g:=
 ⟨rfl,fun _ _ h => h,fun _ => False,fun _ h => h.elim,fun _ _ => rfl,fun g' hg' => by
  rw[h g' hg']
  congr 2
  simp⟩
theorem foot_new {call:CS} {al:Nat→Bool} {lo id:Nat} {op:AOp} {e:Env} {g:G} {v:AV} {b:Blk} (hw:Wr (cls op) al lo id g id) (h:∀ g':G,(∀ i,Rd (cls op) al lo g i→g'.hp i = g.hp i)→opE call al lo id op e g' = some (v,⟨upd g'.hp id (some b),g'.nx⟩)):Foot call al lo id op e g v ⟨upd g.hp id (some b),g.nx⟩:=
 ⟨rfl,fun i hi h => by
  have h:CM (upd g.hp id (some b) i):=h
  rwa [upd,if_neg hi] at h,fun i => i = id,fun i hi => by subst hi;exact hw,fun i hi => by show upd _ _ _ _ = _;rw[upd,if_neg hi],fun g' hg' => by
  rw[h g' hg']
  congr 3
  funext i
  by_cases hi:i = id
  ·subst hi;simp[upd]
  ·simp[upd,hi]⟩
mutual
theorem frz_agree {hp hp':Nat→Option Blk} (h:∀ i,CM (hp i)→hp' i = hp i):∀ (k:Nat) {x y:AV},frz hp k x = some y→frz hp' k x = some y∧vis hp' k x = vis hp k x
 | 0,_,_,hf => by simp[frz] at hf
 | k + 1,x,y,hf => by
   cases x with
   | agg cs =>
     simp only[frz] at hf
     cases hc:frzL hp k cs with
     | none => rw[hc] at hf;cases hf
     | some ds => rw[hc] at hf;obtain ⟨h1,h2⟩:=frzL_agree h k hc;exact ⟨by simp only[frz,h1];exact hf,by simp only[vis,h2]⟩
   | tup cs =>
     simp only[frz] at hf
     cases hc:frzL hp k cs with
     | none => rw[hc] at hf;cases hf
     | some ds => rw[hc] at hf;obtain ⟨h1,h2⟩:=frzL_agree h k hc;exact ⟨by simp only[frz,h1];exact hf,by simp only[vis,h2]⟩
   | fn f asx bs =>
     simp only[frz] at hf
     cases hc:frzL hp k asx with
     | none => rw[hc] at hf;cases hf
     | some ds =>
       cases hd:frzL hp k bs with
       | none => rw[hc,hd] at hf;cases hf
       | some es =>
         rw[hc,hd] at hf
         obtain ⟨h1,h2⟩:=frzL_agree h k hc
         obtain ⟨h3,h4⟩:=frzL_agree h k hd
         exact ⟨by simp only[frz,h1,h3];exact hf,by simp only[vis,h2,h4]⟩
   | ifc t v =>
     simp only[frz] at hf
     cases hc:frz hp k v with
     | none => rw[hc] at hf;cases hf
     | some ds => rw[hc] at hf;obtain ⟨h1,h2⟩:=frz_agree h k hc;exact ⟨by simp only[frz,h1];exact hf,by simp only[vis,h2]⟩
   | mp id off =>
     simp only[frz] at hf
     split at hf
     ·rename_i cs ro hb
      have hb':hp' id = some (.cells cs ro):=by rw[h id (by rw[hb];trivial),hb]
      cases hc:frzL hp k (cs.drop off) with
      | none => rw[hc] at hf;cases hf
      | some ds =>
        rw[hc] at hf
        obtain ⟨h1,h2⟩:=frzL_agree h k hc
        exact ⟨by simp only[frz,hb',h1];exact hf,by simp only[vis,hb',hb,h2]⟩
     ·cases hf
   | ms id off n =>
     simp only[frz] at hf
     split at hf
     ·rename_i cs ro hb
      have hb':hp' id = some (.cells cs ro):=by rw[h id (by rw[hb];trivial),hb]
      cases hc:frzL hp k (cs.drop off) with
      | none => rw[hc] at hf;cases hf
      | some ds =>
        rw[hc] at hf
        obtain ⟨h1,h2⟩:=frzL_agree h k hc
        exact ⟨by simp only[frz,hb',h1];exact hf,by simp only[vis,hb',hb,h2]⟩
     ·cases hf
   | mm id => simp[frz] at hf
   | mc id k e n => simp[frz] at hf
   | undef => exact ⟨by simpa only[frz] using hf,by simp only[vis]⟩
   | b x => exact ⟨by simpa only[frz] using hf,by simp only[vis]⟩
   | i k n => exact ⟨by simpa only[frz] using hf,by simp only[vis]⟩
   | s x => exact ⟨by simpa only[frz] using hf,by simp only[vis]⟩
   | nilp => exact ⟨by simpa only[frz] using hf,by simp only[vis]⟩
   | nilf => exact ⟨by simpa only[frz] using hf,by simp only[vis]⟩
   | nili => exact ⟨by simpa only[frz] using hf,by simp only[vis]⟩
   | sl cs n t => exact ⟨by simpa only[frz] using hf,by simp only[vis]⟩
   | ptr cs => exact ⟨by simpa only[frz] using hf,by simp only[vis]⟩
theorem frzL_agree {hp hp':Nat→Option Blk} (h:∀ i,CM (hp i)→hp' i = hp i):∀ (k:Nat) {cs ds:List AV},frzL hp k cs = some ds→frzL hp' k cs = some ds∧cs.flatMap (vis hp' k) = cs.flatMap (vis hp k)
 | k,[],ds,hf => ⟨by simpa only[frzL] using hf,rfl⟩
 | k,x :: cs,ds,hf => by
   simp only[frzL] at hf
   split at hf
   ·rename_i hx hs
    obtain ⟨h1,h2⟩:=frz_agree h k hx
    obtain ⟨h3,h4⟩:=frzL_agree h k hs
    refine ⟨by simp only[frzL,h1,h3];exact hf,?_⟩
    rw[List.flatMap_cons,List.flatMap_cons,h2,h4]
   ·cases hf
end
theorem rd_agree {al:Nat→Bool} {g g':G} (h:∀ i,(al i = true∧CM (g.hp i))→g'.hp i = g.hp i):∀ i,CM (rd g al i)→rd g' al i = rd g al i:=by
 intro i hi
 unfold rd at hi ⊢
 split at hi
 ·rename_i ha
  rw[if_pos ha,if_pos ha]
  exact h i ⟨ha,hi⟩
 ·cases hi
theorem rd_cells {al:Nat→Bool} {g g':G} (h:∀ i,(al i = true∧CM (g.hp i))→g'.hp i = g.hp i) {i:Nat} {b:Blk} (hb:rd g al i = some b) (hc:CM (some b)):rd g' al i = some b:=by
 rw[rd_agree h i (by rw[hb];exact hc),hb]
def Any (f:G→Option (AV × G)):Prop:=∀ g v g1,f g = some (v,g1)→g1 = g∧∀ g',f g' = some (v,g')
theorem any_pick (c a b:AV):Any (vPick c a b):=by
 intro g v g1 h;cases c<;>simp only[vPick] at h<;>first | (cases h;done) | (cases h;exact ⟨rfl,fun _ => rfl⟩)
theorem any_map (o:Option AV):Any fun g => vMap g o:=by
 intro g v g1 h;cases o<;>simp only[vMap] at h<;>first | (cases h;done) | (cases h;exact ⟨rfl,fun _ => rfl⟩)
theorem any_mapL (f) (o:Option (List AV)):Any fun g => vMapL f g o:=by
 intro g v g1 h;cases o<;>simp only[vMapL] at h<;>first | (cases h;done) | (cases h;exact ⟨rfl,fun _ => rfl⟩)
theorem any_some (x:AV):Any fun g => some (x,g):=by intro g v g1 h;cases h;exact ⟨rfl,fun _ => rfl⟩
theorem any_none:Any fun _ => none:=by intro g v g1 h;cases h
theorem any_ite (c:Prop) [Decidable c] {f k:G→Option (AV × G)} (h1:Any f) (h2:Any k):Any fun g => if c then f g else k g:=by
 by_cases h:c
 ·simpa only[if_pos h] using h1
 ·simpa only[if_neg h] using h2
theorem any_boxI (x:AV):Any (vBoxI x):=by unfold vBoxI;exact any_ite _ (any_mapL _ _) any_none
theorem any_bslI (id n:Nat) (o:Option (List AV)):Any (vBsl id true n o):=by
 cases o with
 | none => exact any_none
 | some cs => exact any_mapL _ _
theorem any_nil (x:AV):Any (vNil x):=by cases x<;>first | exact any_none | exact any_some _
theorem any_conv (k:IntKind) (x:AV):Any (vConv k x):=by cases x<;>first | exact any_none | exact any_some _
theorem any_slice (esz:Nat) (x:AV) (l h m:Option AV):Any (vSlice esz x l h m):=by
 cases x<;>first | exact any_none | skip
 ·rename_i cs n t
  show Any fun g => vSlice esz (.sl cs n t) l h m g
  simp only[vSlice]
  split<;>first | exact any_none | exact any_ite _ (any_some _) any_none
 ·rename_i id off n
  show Any fun g => vSlice esz (.ms id off n) l h m g
  simp only[vSlice]
  split<;>first | exact any_none | exact any_ite _ (any_some _) any_none
theorem any_sslice (x:AV) (l h:Option AV):Any (vSslice x l h):=by
 cases x<;>first | exact any_none | skip
 rename_i s
 show Any fun g => vSslice (.s s) l h g
 simp only[vSslice]
 split<;>first | exact any_none | exact any_ite _ (any_some _) any_none
theorem any_fa (off:Nat) (x:AV):Any (vFa off x):=by cases x<;>first | exact any_none | exact any_some _ | exact any_ite _ (any_some _) any_none
theorem any_fld (off:Nat) (agg) (x:AV):Any (vFld off agg x):=by cases x<;>first | exact any_none | exact any_map _
theorem any_ia (esz:Nat) (x i:AV):Any (vIa esz x i):=by
 cases x<;>cases i<;>first | exact any_none | exact any_ite _ (any_some _) any_none
theorem any_iaa (len esz:Nat) (x i:AV):Any (vIaa len esz x i):=by
 cases x<;>cases i<;>first | exact any_none | exact any_ite _ (any_some _) any_none
theorem any_idx (len esz:Nat) (agg) (x i:AV):Any (vIdx len esz agg x i):=by
 cases x<;>cases i<;>first | exact any_none | exact any_ite _ (any_map _) any_none
theorem any_sidx (x i:AV):Any (vSidx x i):=by
 cases x<;>cases i<;>first | exact any_none | skip
 rename_i s k z
 show Any fun g => vSidx (.s s) (.i k z) g
 simp only[vSidx]
 split<;>first | exact any_none | exact any_some _
theorem any_ext (i:Nat) (x:AV):Any (vExt i x):=by cases x<;>first | exact any_none | exact any_map _
theorem any_len (x:AV):Any (vLen x):=by cases x<;>first | exact any_none | exact any_some _
theorem any_slen (x:AV):Any (vSlen x):=by cases x<;>first | exact any_none | exact any_some _
theorem any_mx (x y:AV):Any (vMx x y):=by cases x<;>cases y<;>first | exact any_none | exact any_some _
theorem any_mn (x y:AV):Any (vMn x y):=by cases x<;>cases y<;>first | exact any_none | exact any_some _
section
variable {call:CS} {al:Nat→Bool} {lo id:Nat} {e:Env} {g:G} {v:AV} {g1:G}
theorem any_p {op:AOp} (hc:cls op = .p):Any (opE call al lo id op e):=by
 cases op
 case mv => exact any_some _
 case pick => exact any_pick _ _ _
 case boxI => exact any_boxI _
 case build => exact any_mapL _ _
 case bsl imm n z ps =>
  cases imm with
  | false => cases hc
  | true => exact any_bslI _ _ _
 case nilck => exact any_nil _
 case bin => exact any_map _
 case eqb => exact any_map _
 case eqn => exact any_map _
 case eqs => exact any_map _
 case eqa => exact any_map _
 case un => exact any_map _
 case conv => exact any_conv _ _
 case mkfn => exact any_some _
 case slice => exact any_slice _ _ _ _ _
 case sslice => exact any_sslice _ _ _
 case fa => exact any_fa _ _
 case fld => exact any_fld _ _ _
 case ia => exact any_ia _ _ _
 case iaa => exact any_iaa _ _ _ _
 case idx => exact any_idx _ _ _ _ _
 case sidx => exact any_sidx _ _
 case ext => exact any_ext _ _
 case len => exact any_len _
 case slen => exact any_slen _
 case mx => exact any_mx _ _
 case mn => exact any_mn _ _
 case call m f asx => cases m<;>cases hc
 all_goals cases hc
theorem foot_p {op:AOp} (hc:cls op = .p) (h:opE call al lo id op e g = some (v,g1)):Foot call al lo id op e g v g1:=by
 obtain ⟨rfl,hk⟩:=any_p hc g v g1 h
 exact foot_none fun g' _ => hk g'
theorem foot_r {op:AOp} (hc:cls op = .r) (h:opE call al lo id op e g = some (v,g1)):Foot call al lo id op e g v g1:=by
 have key:g1 = g∧∀ g':G,(∀ i,Rd (cls op) al lo g i→g'.hp i = g.hp i)→opE call al lo id op e g' = some (v,g'):=by
  rw[hc]
  cases op
  case ld agg x =>
   simp only[opE] at h ⊢
   unfold vLd at h ⊢
   split at h
   ·rename_i cs hx
    obtain ⟨rfl,hk⟩:=any_map _ _ _ _ h
    exact ⟨rfl,fun g' _ => hk g'⟩
   ·rename_i b off hx
    split at h
    ·rename_i cs ro hb
     obtain ⟨rfl,hk⟩:=any_map _ _ _ _ h
     exact ⟨rfl,fun g' hg' => by simp only[rd_cells hg' hb trivial];exact hk g'⟩
    ·cases h
   ·cases h
  case mget m k =>
   simp only[opE] at h ⊢
   unfold vMget at h ⊢
   split at h
   ·rename_i b s hx hy
    split at h
    ·rename_i es hb
     obtain ⟨rfl,hk⟩:=any_map _ _ _ _ h
     exact ⟨rfl,fun g' hg' => by simp only[rd_cells hg' hb trivial];exact hk g'⟩
    ·cases h
   ·cases h
  case call m f asx =>
   cases m with
   | pure =>
     simp only[opE] at h ⊢
     unfold vCall at h ⊢
     split at h
     ·rename_i fid fst caps hx
      simp only at h
      split at h
      ·cases h
      ·rename_i bs hbs
       split at h
       ·cases h
       ·rename_i v' g' hcr
        split at h
        ·cases h
        ·rename_i v2 hfz
         split at h
         ·rename_i hcond
          cases h
          refine ⟨rfl,fun g'' hg' => ?_⟩
          obtain ⟨h1,h2⟩:=frzL_agree (rd_agree hg') depth hbs
          simp only[h1,hcr,hfz,h2,hcond,if_true]
         ·cases h
     ·cases h
   | lock => cases hc
   | thaw => cases hc
   | melt => cases hc
   | raw => cases hc
   | see => cases hc
  case bsl imm n z ps => cases imm<;>cases hc
  all_goals cases hc
 obtain ⟨rfl,hk⟩:=key
 exact foot_none hk
theorem foot_a {op:AOp} (hc:cls op = .a) (h:opE call al lo id op e g = some (v,g1)):Foot call al lo id op e g v g1:=by
 have hw:Wr (cls op) al lo id g id:=by rw[hc];rfl
 cases op
 case new z =>
  simp only[opE] at h;cases h
  exact foot_new hw fun g' _ => rfl
 case box x =>
  simp only[opE] at h
  unfold vBox at h
  split at h
  ·rename_i hh
   cases h
   exact foot_new hw fun g' _ => by simp only[opE,vBox];rw[if_pos hh]
  ·cases h
 case bsl imm n z ps =>
  cases imm with
  | true => cases hc
  | false =>
    simp only[opE] at h
    unfold vBsl at h
    split at h
    ·cases h
    ·rename_i cs hf
     simp only[Bool.false_eq_true,if_false] at h
     cases h
     exact foot_new hw fun g' _ => by simp only[opE,vBsl,hf,Bool.false_eq_true,if_false]
 case mkmap =>
  simp only[opE] at h;cases h
  exact foot_new hw fun g' _ => rfl
 case mksl z esz b l cp =>
  simp only[opE] at h
  unfold vMksl at h
  split at h
  ·rename_i n m hx hy
   split at h
   ·rename_i h1
    split at h
    ·rename_i h2
     cases h
     exact foot_new hw fun g' _ => by simp only[opE,vMksl,hx,hy];rw[if_pos h1,if_pos h2]
    ·rename_i h2
     split at h
     ·rename_i h3
      cases h
      exact foot_new hw fun g' _ => by simp only[opE,vMksl,hx,hy];rw[if_pos h1,if_neg h2,if_pos h3]
     ·cases h
   ·cases h
  ·cases h
 case call m f asx =>
  cases m with
  | thaw =>
    simp only[opE] at h
    unfold vCall at h
    split at h
    ·rename_i fid fst caps hx
     simp only at h
     split at h
     ·cases h
     ·rename_i bs hbs
      split at h
      ·rename_i b g' hcr
       split at h
       ·rename_i cs hb
        split at h
        ·rename_i cs' hfz
         split at h
         ·rename_i hcond
          cases h
          refine foot_new hw fun g'' hg' => ?_
          rw[hc] at hg'
          obtain ⟨h1,h2⟩:=frzL_agree (rd_agree hg') depth hbs
          simp only[opE,vCall,hx,h1,hcr,hb,hfz,h2,hcond,if_true]
         ·cases h
        ·cases h
       ·cases h
      ·cases h
    ·cases h
  | melt =>
    simp only[opE] at h
    unfold vCall at h
    split at h
    ·rename_i fid fst caps hx
     simp only at h
     split at h
     ·cases h
     ·rename_i bs hbs
      split at h
      ·rename_i b n g' hcr
       split at h
       ·rename_i cs hb
        split at h
        ·rename_i cs' hfz
         split at h
         ·rename_i hcond
          cases h
          refine foot_new hw fun g'' hg' => ?_
          rw[hc] at hg'
          obtain ⟨h1,h2⟩:=frzL_agree (rd_agree hg') depth hbs
          simp only[opE,vCall,hx,h1,hcr,hb,hfz,h2,hcond,if_true]
         ·cases h
        ·cases h
       ·cases h
      ·cases h
    ·cases h
  | pure => cases hc
  | lock => cases hc
  | raw => cases hc
  | see => cases hc
 all_goals cases hc
theorem vSrc_agree {esz:Nat} {y:AV} {g g':G} {r:List AV × Nat} (h:∀ i,(al i = true∧CM (g.hp i))→g'.hp i = g.hp i) (hs:vSrc al esz y g = some r):vSrc al esz y g' = some r:=by
 unfold vSrc at hs ⊢
 cases y<;>simp only at hs ⊢<;>first | exact hs | (cases hs;done) | skip
 split at hs
 ·rename_i hb
  simp only[rd_cells h hb trivial]
  exact hs
 ·cases hs
open Classical in
theorem foot_t {op:AOp} (hc:cls op = .t) (h:opE call al lo id op e g = some (v,g1)):Foot call al lo id op e g v g1:=by
 cases op
 case app esz b x y =>
  simp only[opE] at h
  unfold vApp at h
  split at h
  ·rename_i cs n tk hx
   split at h
   ·cases h
   ·rename_i ds m hsrc
    split at h
    ·rename_i hcond
     have hsrc':∀ g':G,(∀ i,Rd (cls (.app esz b x y)) al lo g i→g'.hp i = g.hp i)→vSrc al esz (y.ev e) g' = some (ds,m):=fun g' hg' => vSrc_agree (fun i hi => hg' i ⟨hi.1,.inl hi.2⟩) hsrc
     split at h
     ·cases h
     ·split at h
      ·rename_i hm
       cases h
       exact foot_none fun g' hg' => by simp only[opE,vApp,hx,hsrc' g' hg',if_pos hcond,if_pos hm]
      ·rename_i hm
       cases h
       exact foot_new (.inl rfl) fun g' hg' => by simp only[opE,vApp,hx,hsrc' g' hg',if_pos hcond,if_neg hm]
     ·rename_i τ e'
      split at h
      ·rename_i htk
       split at h
       ·rename_i he'
        cases h
        have hal:al τ = true:=by
         unfold rd at htk;split at htk
         ·assumption
         ·cases htk
        have hhp:=rd_g htk
        refine ⟨rfl,fun i hi h => ?_,fun i => i = id∨i = τ,fun i hi => ?_,fun i hi => ?_,fun g' hg' => ?_⟩
        ·have h:CM (upd (upd g.hp τ (some (.tok false))) id (some (.tok true)) i):=h
         rw[upd,if_neg hi] at h
         by_cases h2:i = τ
         ·subst h2;rw[upd,if_pos rfl] at h;exact h.elim
         ·rwa [upd,if_neg h2] at h
        ·rcases hi with rfl | rfl
         ·exact .inl rfl
         ·exact .inr ⟨hal,by rw[hhp];trivial⟩
        ·show upd _ _ _ _ = _
         rw[upd,if_neg (fun h => hi (.inl h)),upd,if_neg (fun h => hi (.inr h))]
        ·have hrd:rd g' al τ = some (.tok true):=by
          unfold rd;rw[if_pos hal,hg' τ ⟨hal,.inr (by rw[hhp];trivial)⟩,hhp]
         simp only[opE,vApp,hx,hsrc' g' hg',if_pos hcond,hrd,if_pos he']
         congr 3
         funext i
         by_cases h1:i = id
         ·subst h1;simp[upd]
         ·by_cases h2:i = τ
          ·subst h2;simp[upd,h1]
          ·simp[upd,h1,h2]
       ·cases h
      ·cases h
    ·cases h
  ·cases h
 case bsl imm n z ps => cases imm<;>cases hc
 case call m f asx => cases m<;>cases hc
 all_goals cases hc
open Classical in
theorem foot_s {op:AOp} (hc:cls op = .s) (h:opE call al lo id op e g = some (v,g1)):Foot call al lo id op e g v g1:=by
 cases op
 case stL n x y =>
  simp only[opE] at h
  unfold vSt at h
  split at h
  ·rename_i b off hx
   split at h
   ·rename_i cs hb
    split at h
    ·rename_i hcond
     cases h
     have hal:lo≤b∧al b = true:=by
      unfold rd at hb;split at hb
      ·rename_i hh;simpa using hh
      ·cases hb
     have hhp:=rd_g hb
     refine ⟨rfl,fun i hi h => ?_,fun i => i = b,fun i hi => ?_,fun i hi => ?_,fun g' hg' => ?_⟩
     ·by_cases h2:i = b
      ·subst h2;rw[hhp];trivial
      ·have h:CM (upd g.hp b _ i):=h
       rwa [upd,if_neg h2] at h
     ·subst hi;exact ⟨hal.1,hal.2,by rw[hhp];trivial⟩
     ·show upd _ _ _ _ = _
      rw[upd,if_neg hi]
     ·have hrd:rd g' (fun i => decide (lo≤i) && al i) b = some (.cells cs false):=by
       unfold rd;rw[if_pos (by simp[hal.1,hal.2]),hg' b ⟨hal.1,hal.2,by rw[hhp];trivial⟩,hhp]
      simp only[opE,vSt,hx,hrd,if_pos hcond]
      congr 3
      funext i
      by_cases h1:i = b
      ·subst h1;simp[upd]
      ·simp[upd,h1]
    ·cases h
   ·cases h
  ·cases h
 case bsl imm n z ps => cases imm<;>cases hc
 case call m f asx => cases m<;>cases hc
 all_goals cases hc
theorem foot_all {op:AOp} (hc:cls op≠.x) (h:opE call al lo id op e g = some (v,g1)):Foot call al lo id op e g v g1:=by
 cases hcl:cls op with
 | p => exact foot_p hcl h
 | r => exact foot_r hcl h
 | a => exact foot_a hcl h
 | t => exact foot_t hcl h
 | s => exact foot_s hcl h
 | x => exact absurd hcl hc
end
end Go.Ab
end
section
set_option linter.unusedVariables false
set_option linter.unusedSimpArgs false
namespace Go.Ab
open Go.RowKit
def gnames:Option (Nat × Bool)→List Nat
 | none => []
 | some (t,_) => [t]
def AOper.looks (o:AOper):List Nat:=gnames o.grd ++ o.op.names
def dnot (d:Option Nat) (l:List Nat):Bool:=match d with
 | none => true
 | some d => !l.contains d
def ddif (d d':Option Nat):Bool:=match d,d' with
 | some a,some b => a != b
 | _,_ => true
def clsOk0 (k i:Nat) (x y:AOper):Bool:=
 cls x.op == .p || cls y.op == .p || (cls x.op != .x && cls y.op != .x &&
  (!y.pre.contains k && !x.pre.contains i && (!(cls x.op == .s || cls y.op == .s) || x.pre.all (fun p => !y.pre.contains p)) && !(cls x.op == .t && cls y.op == .t)))
def fOp:AOp→Bool
 | .ldF _ _ => true
 | _ => false
def wOp:AOp→Bool
 | .stW _ _ _ => true
 | _ => false
def fwOk (x y:AOp):Bool:=(fOp x && fOp y) || (fOp x && wOp y) || (wOp x && fOp y)
def qnOk (x y:AOp):Bool:=match x,y with
 | .ldQ _ _ _,.ldQ _ _ _ => true
 | .ldQ _ _ t,.stN _ _ _ ts => ts.contains t
 | .stN _ _ _ ts,.ldQ _ _ t => ts.contains t
 | _,_ => false
def seeOk (x y:AOp):Bool:=match x,y with
 | .ld _ _,.call .see _ _ => true
 | _,_ => false
def clsOk (k i:Nat) (x y:AOper):Bool:=seeOk x.op y.op || (qnOk x.op y.op || (fwOk x.op y.op || clsOk0 k i x y))
def swapB (k i:Nat) (x y:AOper):Bool:=
 dnot x.dst y.looks && dnot y.dst x.looks && ddif x.dst y.dst && clsOk k i x y
theorem put_not {d:Option Nat} {l:List Nat} (h:dnot d l = true) (e:Env) (v:AV):∀ t∈l,put e d v t = e t:=by
 intro t ht
 cases d with
 | none => rfl
 | some d =>
   simp only[dnot,Bool.not_eq_true',List.contains_eq_mem,decide_eq_false_iff_not] at h
   have:t≠d:=fun h' => h (h' ▸ ht)
   simp only[put,upd,if_neg this]
theorem put_comm {d d':Option Nat} (h:ddif d d' = true) (e:Env) (v u:AV):put (put e d v) d' u = put (put e d' u) d v:=by
 cases d with
 | none => cases d'<;>rfl
 | some d =>
   cases d' with
   | none => rfl
   | some d' =>
     simp only[ddif,bne_iff_ne,ne_eq] at h
     funext t
     simp only[put,upd]
     by_cases h1:t = d'
     ·subst h1;rw[if_pos rfl,if_neg (fun h2 => h h2.symm),if_pos rfl]
     ·rw[if_neg h1]
      by_cases h2:t = d
      ·rw[if_pos h2,if_pos h2]
      ·rw[if_neg h2,if_neg h2,if_neg h1]
theorem wanted_congr {e e':Env} {grd:Option (Nat × Bool)} (h:∀ t∈gnames grd,e' t = e t):wanted e' grd = wanted e grd:=by
 cases grd with
 | none => rfl
 | some p => obtain ⟨t,w⟩:=p;simp only[wanted];rw[h t (by simp[gnames])]
noncomputable def stepV (call:CS) (base j:Nat) (o:AOper) (e:Env) (g:G):Option (AV × G):=
 if wanted e o.grd then opE call (allow true base o.pre) base (base + j) o.op e g else some (.undef,g)
theorem opStep_V (call:CS) (base j:Nat) (o:AOper) (e:Env) (g:G):opStep call true base j o e g = (stepV call base j o e g).map fun r => (put e o.dst r.1,r.2):=by
 unfold opStep stepV
 by_cases h:wanted e o.grd = true
 ·rw[if_pos h,if_pos h]
  cases opE call (allow true base o.pre) base (base + j) o.op e g with
  | none => rfl
  | some r => rfl
 ·rw[if_neg h,if_neg h];rfl
theorem stepV_congr {call:CS} {base j:Nat} {o:AOper} {e e':Env} (h:∀ t∈o.looks,e' t = e t) (g:G):stepV call base j o e' g = stepV call base j o e g:=by
 unfold stepV
 rw[wanted_congr fun t ht => h t (List.mem_append_left _ ht),opE_congr fun t ht => h t (List.mem_append_right _ ht)]
theorem allow_slot {base k:Nat} {pre:List Nat} (h:allow true base pre (base + k) = true):pre.contains k = true:=by
 simp only[allow,Bool.not_true,Bool.false_or,Bool.or_eq_true,decide_eq_true_eq] at h
 rcases h with h | h
 ·omega
 ·simpa using h
theorem allow_ge {base k:Nat} {pre:List Nat} (h:allow true base pre k = true) (hk:base≤k):pre.contains (k - base) = true:=by
 simp only[allow,Bool.not_true,Bool.false_or,Bool.or_eq_true,decide_eq_true_eq] at h
 rcases h with h | h
 ·omega
 ·exact h
theorem Foot.out {call:CS} {al:Nat→Bool} {lo id:Nat} {op:AOp} {e:Env} {g:G} {v:AV} {g1:G} (F:Foot call al lo id op e g v g1) {i:Nat} (h:¬ Wr (cls op) al lo id g i):g1.hp i = g.hp i:=by
 obtain ⟨_,_,W,h1,h2,_⟩:=F
 exact h2 i fun hw => h (h1 i hw)
open Classical in
theorem opE_swap0 {call:CS} {base k i:Nat} (hki:k≠i) {x y:AOper} (hc:clsOk0 k i x y = true) {e:Env} {g g1 g2:G} {v u:AV}
  (h1:opE call (allow true base x.pre) base (base + k) x.op e g = some (v,g1)) (h2:opE call (allow true base y.pre) base (base + i) y.op e g1 = some (u,g2)):
  ∃ g1',opE call (allow true base y.pre) base (base + i) y.op e g = some (u,g1')∧opE call (allow true base x.pre) base (base + k) x.op e g1' = some (v,g2):=by
 by_cases hx:cls x.op = .p
 ·obtain ⟨rfl,hh⟩:=any_p hx _ _ _ h1
  exact ⟨g2,h2,hh g2⟩
 by_cases hy:cls y.op = .p
 ·obtain ⟨rfl,hh⟩:=any_p hy _ _ _ h2
  exact ⟨g,hh g,h1⟩
 simp only[clsOk0,Bool.or_eq_true,beq_iff_eq,hx,hy,false_or,Bool.and_eq_true,bne_iff_ne,ne_eq,Bool.not_eq_true'] at hc
 obtain ⟨⟨cx,cy⟩,⟨⟨pk,pi⟩,ps⟩,ptt⟩:=hc
 have ak:allow true base y.pre (base + k)≠true:=fun h => by rw[allow_slot h] at pk;cases pk
 have ai:allow true base x.pre (base + i)≠true:=fun h => by rw[allow_slot h] at pi;cases pi
 have pp:(cls x.op = .s∨cls y.op = .s)→∀ m,base≤m→allow true base x.pre m = true→allow true base y.pre m = true→False:=by
  intro hs m hm h3 h4
  rcases ps with ps | ps
  ·simp only[Bool.or_eq_false_iff,beq_eq_false_iff_ne,ne_eq] at ps
   rcases hs with hs | hs
   ·exact ps.1 hs
   ·exact ps.2 hs
  ·have h3:=allow_ge h3 hm
   have h4:=allow_ge h4 hm
   have:=List.all_eq_true.1 ps (m - base) (by simpa using h3)
   rw[h4] at this;cases this
 have tt:¬ (cls x.op = .t∧cls y.op = .t):=by simpa [Bool.and_eq_false_iff] using ptt
 have F:=foot_all cx h1
 have F':=foot_all cy h2
 have out1:∀ m,¬ Wr (cls x.op) (allow true base x.pre) base (base + k) g m→g1.hp m = g.hp m:=fun m hm => F.out hm
 -- what y looks at,x has not turned
 have A:∀ m,Rd (cls y.op) (allow true base y.pre) base g1 m→¬ Wr (cls x.op) (allow true base x.pre) base (base + k) g m:=by
  intro m hr hw
  have hal:allow true base y.pre m = true:=by
   cases hcy:cls y.op<;>rw[hcy] at hr<;>simp only[Rd] at hr
   ·exact hr.1
   ·exact hr.1
   ·exact hr.1
   ·exact hr.2.1
   ·exact absurd hcy cy
  have hne:m≠base + k:=fun h => ak (h ▸ hal)
  cases hcx:cls x.op with
  | p => exact hx hcx
  | r => rw[hcx] at hw;exact hw
  | a => rw[hcx] at hw;exact hne hw
  | t =>
    rw[hcx] at hw
    rcases hw with hw | hw
    ·exact hne hw
    ·have hcm:CM (g1.hp m):=by
      cases hcy:cls y.op<;>rw[hcy] at hr<;>simp only[Rd] at hr
      ·exact hr.2
      ·exact hr.2
      ·exact absurd ⟨hcx,hcy⟩ tt
      ·exact hr.2.2
      ·exact absurd hcy cy
     have:=F.kind m hne hcm
     have h3:=hw.2
     cases hh:g.hp m with
     | none => rw[hh] at h3;exact h3
     | some b => rw[hh] at h3 this;cases b<;>first | exact h3 | exact this
  | s =>
    rw[hcx] at hw
    exact pp (.inl hcx) m hw.1 hw.2.1 hal
  | x => exact cx hcx
 have B:∀ m,Wr (cls y.op) (allow true base y.pre) base (base + i) g1 m→¬ Wr (cls x.op) (allow true base x.pre) base (base + k) g m:=by
  intro m hr hw
  have hor:m = base + i∨Rd (cls y.op) (allow true base y.pre) base g1 m:=by
   cases hcy:cls y.op<;>rw[hcy] at hr<;>simp only[Wr] at hr
   ·exact .inl hr
   ·rcases hr with hr | hr
    ·exact .inl hr
    ·exact .inr ⟨hr.1,.inr hr.2⟩
   ·exact .inr hr
   ·exact absurd hcy cy
  rcases hor with rfl | hr
  ·cases hcx:cls x.op with
   | p => exact hx hcx
   | r => rw[hcx] at hw;exact hw
   | a => rw[hcx] at hw;simp only[Wr] at hw;omega
   | t =>
     rw[hcx] at hw
     rcases hw with hw | hw
     ·omega
     ·exact ai hw.1
   | s => rw[hcx] at hw;exact ai hw.2.1
   | x => exact cx hcx
  ·exact A m hr hw
 have C:∀ m,Rd (cls x.op) (allow true base x.pre) base g m→¬ Wr (cls y.op) (allow true base y.pre) base (base + i) g1 m:=by
  intro m hr hw
  have hal:allow true base x.pre m = true:=by
   cases hcx:cls x.op<;>rw[hcx] at hr<;>simp only[Rd] at hr
   ·exact hr.1
   ·exact hr.1
   ·exact hr.1
   ·exact hr.2.1
   ·exact absurd hcx cx
  have hne:m≠base + i:=fun h => ai (h ▸ hal)
  have hold:g1.hp m = g.hp m:=out1 m (B m hw)
  cases hcy:cls y.op with
  | p => exact hy hcy
  | r => rw[hcy] at hw;exact hw
  | a => rw[hcy] at hw;exact hne hw
  | t =>
    rw[hcy] at hw
    rcases hw with hw | hw
    ·exact hne hw
    ·have h3:=hw.2
     rw[hold] at h3
     have hcm:CM (g.hp m):=by
      cases hcx:cls x.op<;>rw[hcx] at hr<;>simp only[Rd] at hr
      ·exact hr.2
      ·exact hr.2
      ·exact absurd ⟨hcx,hcy⟩ tt
      ·exact hr.2.2
      ·exact absurd hcx cx
     cases hh:g.hp m with
     | none => rw[hh] at h3;exact h3
     | some b => rw[hh] at h3 hcm;cases b<;>first | exact h3 | exact hcm
  | s =>
    rw[hcy] at hw
    exact pp (.inr hcy) m hw.1 hal hw.2.1
  | x => exact cy hcy
 obtain ⟨n1,_,W,w1,w2,w3⟩:=F
 obtain ⟨n2,_,W',w1',w2',w3'⟩:=F'
 have hAg:∀ m,Rd (cls y.op) (allow true base y.pre) base g1 m→g.hp m = g1.hp m:=fun m hm => (out1 m (A m hm)).symm
 refine ⟨_,w3' g hAg,?_⟩
 rw[w3 _ (fun m hm => ?_)]
 ·congr 2
  have:g2 = ⟨g2.hp,g2.nx⟩:=rfl
  rw[this]
  congr 1
  ·funext m
   show (if W m then g1.hp m else if W' m then g2.hp m else g.hp m) = g2.hp m
   by_cases hm:W m
   ·rw[if_pos hm]
    exact (w2' m (fun h' => B m (w1' m h') (w1 m hm))).symm
   ·rw[if_neg hm]
    by_cases hm':W' m
    ·rw[if_pos hm']
    ·rw[if_neg hm',w2' m hm',w2 m hm]
  ·show g.nx = g2.nx
   rw[n2,n1]
 ·show (if W' m then g2.hp m else g.hp m) = g.hp m
  rw[if_neg (fun h' => C m hm (w1' m h'))]
theorem ldF_any {call:CS} {al:Nat→Bool} {lo id:Nat} {op:AOp} (ho:fOp op = true) {e:Env} {g g1:G} {v:AV} (h:opE call al lo id op e g = some (v,g1)):
  g1 = g∧∀ g':G,(∀ i cs,g.hp i = some (.cells cs true)→g'.hp i = g.hp i)→opE call al lo id op e g' = some (v,g'):=by
 cases op<;>first | (cases ho;done) | skip
 rename_i agg x
 simp only[opE] at h ⊢
 unfold vLdF at h ⊢
 split at h
 ·obtain ⟨rfl,hk⟩:=any_map _ _ _ _ h
  exact ⟨rfl,fun g' _ => hk g'⟩
 ·rename_i b off hx
  split at h
  ·rename_i cs hb
   obtain ⟨rfl,hk⟩:=any_map _ _ _ _ h
   refine ⟨rfl,fun g' hg' => ?_⟩
   have hrd:rd g' al b = some (.cells cs true):=by
    unfold rd at hb ⊢
    split at hb
    ·rename_i ha
     rw[if_pos ha,hg' b cs hb];exact hb
    ·cases hb
   simp only[hrd]
   exact hk g'
  ·cases h
 ·cases h
theorem stW_keeps {call:CS} {al:Nat→Bool} {lo id:Nat} {op:AOp} (ho:wOp op = true) {e:Env} {g g1:G} {v:AV} (h:opE call al lo id op e g = some (v,g1)):
  (∀ i cs,g.hp i = some (.cells cs true)→g1.hp i = g.hp i)∧(∀ i cs,g1.hp i = some (.cells cs true)→g.hp i = g1.hp i):=by
 cases op<;>first | (cases ho;done) | skip
 rename_i n a x
 simp only[opE] at h
 unfold vSt at h
 split at h
 ·rename_i b off hx
  split at h
  ·rename_i cs hb
   split at h
   ·cases h
    have hhp:g.hp b = some (.cells cs false):=by
     unfold rd at hb
     split at hb
     ·exact hb
     ·cases hb
    refine ⟨fun i ds hi => ?_,fun i ds hi => ?_⟩
    ·have hne:i≠b:=fun h => by subst h;rw[hhp] at hi;cases hi
     show upd _ _ _ _ = _
     rw[upd,if_neg hne]
    ·have hne:i≠b:=fun h => by
      subst h
      have hi:upd g.hp i _ i = _:=hi
      rw[upd,if_pos rfl] at hi
      cases hi
     show _ = upd _ _ _ _
     rw[upd,if_neg hne]
   ·cases h
  ·cases h
 ·cases h
theorem ldQ_any {call:CS} {al:Nat→Bool} {lo id:Nat} {agg:Option Nat} {x:Opd} {t:Nat} {e:Env} {g g1:G} {v:AV} (h:opE call al lo id (.ldQ agg x t) e g = some (v,g1)):
  g1 = g∧∀ g':G,(∀ i,i∈ids1 (e t)→g'.hp i = g.hp i)→opE call al lo id (.ldQ agg x t) e g' = some (v,g'):=by
 simp only[opE] at h ⊢
 unfold vLdQ at h ⊢
 split at h
 ·rename_i b off hx
  split at h
  ·rename_i hb0
   split at h
   ·rename_i cs ro hb
    obtain ⟨rfl,hk⟩:=any_map _ _ _ _ h
    refine ⟨rfl,fun g' hg' => ?_⟩
    have hrd:rd g' al b = some (.cells cs ro):=by
     unfold rd at hb ⊢
     split at hb
     ·rename_i ha
      rw[if_pos ha,hg' b (by simpa using hb0)];exact hb
     ·cases hb
    rw[if_pos hb0]
    simp only[hrd]
    exact hk g'
   ·cases h
  ·cases h
 ·cases h
theorem stN_keeps {call:CS} {al:Nat→Bool} {lo id:Nat} {n:Nat} {a x:Opd} {ts:List Nat} {e:Env} {g g1:G} {v:AV} (h:opE call al lo id (.stN n a x ts) e g = some (v,g1)) {t:Nat} (ht:t∈ts) {i:Nat} (hi:i∈ids1 (e t)):g1.hp i = g.hp i:=by
 simp only[opE] at h
 unfold vStN at h
 split at h
 ·rename_i hall
  unfold vSt at h
  split at h
  ·rename_i b off hx
   split at h
   ·split at h
    ·cases h
     have hne:i≠b:=by
      intro hib
      subst hib
      rw[hx] at hall
      have h1:=List.all_eq_true.1 hall i (by simp[ids1])
      have h2:i∈(ts.map e).flatMap ids1:=List.mem_flatMap.2 ⟨e t,List.mem_map.2 ⟨t,ht,rfl⟩,hi⟩
      have h3:((ts.map e).flatMap ids1).contains i = true:=by simpa using h2
      rw[h3] at h1
      cases h1
     show upd _ _ _ _ = _
     rw[upd,if_neg hne]
    ·cases h
   ·cases h
  ·cases h
 ·cases h
theorem opE_swapQ {call:CS} {base k i:Nat} {x y:AOper} (hc:qnOk x.op y.op = true) {e:Env} {g g1 g2:G} {v u:AV}
  (h1:opE call (allow true base x.pre) base (base + k) x.op e g = some (v,g1)) (h2:opE call (allow true base y.pre) base (base + i) y.op e g1 = some (u,g2)):
  ∃ g1',opE call (allow true base y.pre) base (base + i) y.op e g = some (u,g1')∧opE call (allow true base x.pre) base (base + k) x.op e g1' = some (v,g2):=by
 unfold qnOk at hc
 split at hc
 ·rename_i hx hy
  rw[hx] at h1 ⊢
  rw[hy] at h2 ⊢
  obtain ⟨rfl,_⟩:=ldQ_any h1
  obtain ⟨rfl,_⟩:=ldQ_any h2
  exact ⟨g2,h2,h1⟩
 ·rename_i hx hy
  rw[hx] at h1 ⊢
  rw[hy] at h2 ⊢
  obtain ⟨rfl,k1⟩:=ldQ_any h1
  exact ⟨g2,h2,k1 g2 fun j hj => stN_keeps h2 (by simpa using hc) hj⟩
 ·rename_i hx hy
  rw[hx] at h1 ⊢
  rw[hy] at h2 ⊢
  obtain ⟨rfl,k2⟩:=ldQ_any h2
  exact ⟨g,k2 g fun j hj => (stN_keeps h1 (by simpa using hc) hj).symm,h1⟩
 ·cases hc
theorem ld_any {call:CS} {al:Nat→Bool} {lo id:Nat} {agg:Option Nat} {x:Opd} {e:Env} {g g1:G} {v:AV} (h:opE call al lo id (.ld agg x) e g = some (v,g1)):
  g1 = g∧∀ g':G,(∀ i b,g.hp i = some b→g'.hp i = some b)→opE call al lo id (.ld agg x) e g' = some (v,g'):=by
 have F:=foot_all (fun h => by cases h) h
 obtain ⟨hnx,_,W,h1,h2,h3⟩:=F
 have hW:∀ i,¬ W i:=fun i hi => h1 i hi
 have hg:g1 = g:=by
  obtain ⟨hp,nx⟩:=g
  obtain ⟨hp1,nx1⟩:=g1
  simp only at hnx h2
  subst hnx
  congr 1
  funext i
  exact h2 i (hW i)
 refine ⟨hg,fun g' hk => ?_⟩
 rw[h3 g' fun i hi => by
  have hc:CM (g.hp i):=hi.2
  cases hb:g.hp i with
  | none => rw[hb] at hc;exact hc.elim
  | some b => exact hk i b hb]
 congr 2
 obtain ⟨hp',nx'⟩:=g'
 congr 1
 funext i
 exact if_neg (hW i)
theorem opE_swapS {call:CS} {base k i:Nat} {x y:AOper} (hc:seeOk x.op y.op = true) {e:Env} {g g1 g2:G} {v u:AV}
  (h1:opE call (allow true base x.pre) base (base + k) x.op e g = some (v,g1)) (h2:opE call (allow true base y.pre) base (base + i) y.op e g1 = some (u,g2)):
  ∃ g1',opE call (allow true base y.pre) base (base + i) y.op e g = some (u,g1')∧opE call (allow true base x.pre) base (base + k) x.op e g1' = some (v,g2):=by
 unfold seeOk at hc
 split at hc
 ·rename_i hx hy
  rw[hx] at h1 ⊢
  rw[hy] at h2 ⊢
  obtain ⟨rfl,k1⟩:=ld_any h1
  refine ⟨g2,h2,k1 g2 ?_⟩
  simp only[opE,vCall] at h2
  split at h2
  ·obtain ⟨g',hce,h3,hkp⟩:=seeR_inv h2
   simp only at h3
   rw[h3]
   exact hkp
  ·cases h2
 ·cases hc
theorem opE_swap {call:CS} {base k i:Nat} (hki:k≠i) {x y:AOper} (hc:clsOk k i x y = true) {e:Env} {g g1 g2:G} {v u:AV}
  (h1:opE call (allow true base x.pre) base (base + k) x.op e g = some (v,g1)) (h2:opE call (allow true base y.pre) base (base + i) y.op e g1 = some (u,g2)):
  ∃ g1',opE call (allow true base y.pre) base (base + i) y.op e g = some (u,g1')∧opE call (allow true base x.pre) base (base + k) x.op e g1' = some (v,g2):=by
 unfold clsOk at hc
 rw[Bool.or_eq_true,Bool.or_eq_true,Bool.or_eq_true] at hc
 rcases hc with hc | hc | hc | hc
 ·exact opE_swapS hc h1 h2
 ·exact opE_swapQ hc h1 h2
 ·unfold fwOk at hc
  simp only[Bool.or_eq_true,Bool.and_eq_true] at hc
  rcases hc with (⟨hx,hy⟩ | ⟨hx,hy⟩) | ⟨hx,hy⟩
  ·obtain ⟨rfl,k1⟩:=ldF_any hx h1
   obtain ⟨rfl,k2⟩:=ldF_any hy h2
   exact ⟨g2,h2,h1⟩
  ·obtain ⟨rfl,k1⟩:=ldF_any hx h1
   exact ⟨g2,h2,k1 g2 (stW_keeps hy h2).1⟩
  ·obtain ⟨rfl,k2⟩:=ldF_any hy h2
   exact ⟨g,k2 g (stW_keeps hx h1).2,h1⟩
 ·exact opE_swap0 hki hc h1 h2
theorem stepV_swap {call:CS} {base k i:Nat} (hki:k≠i) {x y:AOper} (hc:clsOk k i x y = true) {e:Env} {g g1 g2:G} {v u:AV}
  (h1:stepV call base k x e g = some (v,g1)) (h2:stepV call base i y e g1 = some (u,g2)):∃ g1',stepV call base i y e g = some (u,g1')∧stepV call base k x e g1' = some (v,g2):=by
 unfold stepV at *
 by_cases hx:wanted e x.grd = true
 ·rw[if_pos hx] at h1
  by_cases hy:wanted e y.grd = true
  ·rw[if_pos hy] at h2
   obtain ⟨g1',h3,h4⟩:=opE_swap hki hc h1 h2
   exact ⟨g1',by rw[if_pos hy];exact h3,by rw[if_pos hx];exact h4⟩
  ·rw[if_neg hy] at h2
   cases h2
   exact ⟨g,by rw[if_neg hy],by rw[if_pos hx];exact h1⟩
 ·rw[if_neg hx] at h1
  cases h1
  exact ⟨g2,h2,by rw[if_neg hx]⟩
theorem opStep_swap {call:CS} {base k i:Nat} (hki:k≠i) {x y:AOper} (hc:swapB k i x y = true) {e e1 e2:Env} {g g1 g2:G}
  (h1:opStep call true base k x e g = some (e1,g1)) (h2:opStep call true base i y e1 g1 = some (e2,g2)):
  ∃ e1' g1',opStep call true base i y e g = some (e1',g1')∧opStep call true base k x e1' g1' = some (e2,g2):=by
 simp only[swapB,Bool.and_eq_true] at hc
 obtain ⟨⟨⟨d1,d2⟩,d3⟩,d4⟩:=hc
 rw[opStep_V] at h1 h2
 cases hv:stepV call base k x e g with
 | none => rw[hv] at h1;cases h1
 | some r =>
   obtain ⟨v,g1⟩:=r
   rw[hv] at h1
   cases h1
   rw[stepV_congr (put_not d1 e v)] at h2
   cases hu:stepV call base i y e g1 with
   | none => rw[hu] at h2;cases h2
   | some r =>
     obtain ⟨u,g2⟩:=r
     rw[hu] at h2
     cases h2
     obtain ⟨g1',h3,h4⟩:=stepV_swap hki d4 hv hu
     refine ⟨put e y.dst u,g1',by rw[opStep_V,h3];rfl,?_⟩
     rw[opStep_V,stepV_congr (put_not d2 e u),h4]
     show some _ = some _
     rw[put_comm d3]
noncomputable def runL (call:CS) (base:Nat) (aos:List AOper):List Nat→Env→G→Option (Env × G)
 | [],e,g => some (e,g)
 | i :: is,e,g => match aos[i]? with
   | some o => match opStep call true base i o e g with
     | some (e',g') => runL call base aos is e' g'
     | none => none
   | none => none
theorem runL_text (call:CS) (base:Nat) (aos:List AOper):∀ (os:List AOper) (j:Nat) (e:Env) (g:G),(∀ i o,os[i]? = some o→aos[j + i]? = some o)→runL call base aos (List.range' j os.length) e g = regE call true base j os e g
 | [],j,e,g,_ => rfl
 | o :: os,j,e,g,h => by
   rw[regE_step,List.length_cons,List.range'_succ]
   have h0:aos[j]? = some o:=by simpa using h 0 o rfl
   simp only[runL,h0]
   cases opStep call true base j o e g with
   | none => rfl
   | some r =>
     obtain ⟨e',g'⟩:=r
     exact runL_text call base aos os (j + 1) e' g' (fun i o' hi => by have:=h (i + 1) o' (by simpa using hi);rwa [show j + (i + 1) = j + 1 + i by omega] at this)
theorem runL_front {call:CS} {base:Nat} {aos:List AOper} {i:Nat} {y:AOper} (hy:aos[i]? = some y):∀ (pre post:List Nat) (e e':Env) (g g':G),(∀ k∈pre,k≠i∧∀ x,aos[k]? = some x→swapB k i x y = true) →
  runL call base aos (pre ++ i :: post) e g = some (e',g')→runL call base aos (i :: (pre ++ post)) e g = some (e',g')
 | [],post,e,e',g,g',_,h => h
 | k :: pre,post,e,e',g,g',hp,h => by
   rw[List.cons_append] at h
   simp only[runL] at h
   split at h
   ·rename_i x hx
    split at h
    ·rename_i e1 g1 hst
     have:=runL_front hy pre post e1 e' g1 g' (fun m hm => hp m (List.mem_cons_of_mem _ hm)) h
     simp only[runL,hy] at this
     split at this
     ·rename_i e2 g2 hst2
      obtain ⟨hne,hsw⟩:=hp k (List.mem_cons_self ..)
      obtain ⟨e1',g1',h3,h4⟩:=opStep_swap hne (hsw x hx) hst hst2
      simp only[runL,hy,h3,List.cons_append,hx,h4]
      exact this
     ·cases this
    ·cases h
   ·cases h
def cloAt (es:Array Edge) (clo:List Nat):Nat:=
 es.foldl (fun b e => if Region.binds .any e then b ||| (1 <<< e.on) ||| (clo.getD e.on 0) else b) 0
def clos:List Oper→List Nat→List Nat
 | [],clo => clo
 | o :: os,clo => clos os (clo ++ [cloAt o.after clo])
def edgesB:Nat→List Oper→Bool
 | _,[] => true
 | j,o :: os => o.after.all (fun e => !Region.binds .any e || decide (e.on < j)) && edgesB (j + 1) os
def pairsB (clo:Nat) (i:Nat) (y:AOper):Nat→List AOper→Bool
 | _,[] => true
 | k,x :: xs => (clo.testBit k || swapB k i x y) && pairsB clo i y (k + 1) xs
def drawB (aos:List AOper):Nat→List AOper→List Nat→Bool
 | _,[],_ => true
 | i,y :: ys,clo :: cs => pairsB clo i y 0 (aos.take i) && drawB aos (i + 1) ys cs
 | _,_ :: _,[] => false
end Go.Ab
end
section
set_option linter.unusedVariables false
set_option linter.unusedSimpArgs false
set_option linter.unnecessarySimpa false
namespace Go.Ab
open Go.RowKit
theorem testBit_fold (es:List Edge) (clo:List Nat) (k:Nat):∀ b:Nat,(es.foldl (fun b e => if Region.binds .any e then b ||| (1 <<< e.on) ||| (clo.getD e.on 0) else b) b).testBit k = true →
  b.testBit k = true∨∃ e∈es,Region.binds .any e = true∧(k = e.on∨(clo.getD e.on 0).testBit k = true):=by
 induction es with
 | nil => intro b h;exact .inl h
 | cons e es ih =>
   intro b h
   rw[List.foldl_cons] at h
   rcases ih _ h with h1 | ⟨e',he',h2⟩
   ·by_cases hb:Region.binds .any e = true
    ·rw[if_pos hb] at h1
     simp only[Nat.testBit_or,Bool.or_eq_true] at h1
     rcases h1 with (h1 | h1) | h1
     ·exact .inl h1
     ·refine .inr ⟨e,List.mem_cons_self ..,hb,.inl ?_⟩
      rw[Nat.testBit_shiftLeft] at h1
      simp only[Bool.and_eq_true,decide_eq_true_eq] at h1
      have h2:Nat.testBit 1 (k - e.on) = true:=h1.2
      have h3:k - e.on = 0:=by
       cases hz:k - e.on with
       | zero => rfl
       | succ z => rw[hz] at h2;simp[Nat.testBit_succ] at h2
      omega
     ·exact .inr ⟨e,List.mem_cons_self ..,hb,.inr h1⟩
    ·rw[if_neg hb] at h1
     exact .inl h1
   ·exact .inr ⟨e',List.mem_cons_of_mem _ he',h2⟩
def cloB (clo:List Nat):List Oper→List Nat→Bool
 | [],[] => true
 | o :: os,c :: cs => (cloAt o.after clo == c) && cloB clo os cs
 | _,_ => false
theorem cloB_get {clo:List Nat}:∀ {os:List Oper} {cs:List Nat},cloB clo os cs = true→os.length = cs.length∧∀ (i:Nat) o,os[i]? = some o→cs[i]? = some (cloAt o.after clo)
 | [],[],_ => ⟨rfl,fun _ _ h => by simp at h⟩
 | [],_ :: _,h => by simp[cloB] at h
 | _ :: _,[],h => by simp[cloB] at h
 | o :: os,c :: cs,h => by
   simp only[cloB,Bool.and_eq_true,beq_iff_eq] at h
   obtain ⟨h1,h2⟩:=cloB_get h.2
   refine ⟨by simp[h1],fun i o' hi => ?_⟩
   cases i with
   | zero => simp at hi;subst hi;simp[h.1]
   | succ i => simp at hi ⊢;exact h2 i o' hi
theorem edgesB_get:∀ {os:List Oper} {j:Nat},edgesB j os = true→∀ (i:Nat) o,os[i]? = some o→∀ e∈o.after,Region.binds .any e = true→e.on < j + i
 | [],_,_,_,_,h => by simp at h
 | o :: os,j,h,i,o',hi => by
   simp only[edgesB,Bool.and_eq_true] at h
   cases i with
   | zero =>
     simp at hi;subst hi
     intro e he hb
     have:=Array.all_eq_true_iff_forall_mem.1 h.1 e he
     rw[hb] at this
     simpa using this
   | succ i =>
     simp at hi
     intro e he hb
     have:=edgesB_get h.2 i o' hi e he hb
     omega
def Closed (ops:List Oper) (L:Nat→Bool):Prop:=∀ (i:Nat) o,ops[i]? = some o→L i = true→∀ e∈o.after,Region.binds .any e = true→L e.on = true
theorem clo_sound {ops:List Oper} {clo:List Nat} (hc:cloB clo ops clo = true) (he:edgesB 0 ops = true) {L:Nat→Bool} (hL:Closed ops L):∀ (i:Nat) (o:Oper),ops[i]? = some o→(∀ e∈o.after,Region.binds .any e = true→L e.on = true)→∀ k,(clo.getD i 0).testBit k = true→L k = true:=by
 intro i
 induction i using Nat.strongRecOn with
 | _ i ih =>
   intro o ho hp k hk
   obtain ⟨hl,hg⟩:=cloB_get hc
   have h1:clo.getD i 0 = cloAt o.after clo:=by rw[List.getD_eq_getElem?_getD,hg i o ho];rfl
   rw[h1] at hk
   unfold cloAt at hk
   rw[←Array.foldl_toList] at hk
   rcases testBit_fold _ _ _ _ hk with h2 | ⟨e,hm,hb,h2⟩
   ·simp at h2
   ·have hm':e∈o.after:=Array.mem_toList_iff.1 hm
    rcases h2 with rfl | h2
    ·exact hp e hm' hb
    ·have hlt:=edgesB_get he i o ho e hm' hb
     cases ho':ops[e.on]? with
     | none =>
       rw[List.getElem?_eq_none_iff] at ho'
       rw[List.getD_eq_getElem?_getD,List.getElem?_eq_none (by omega)] at h2
       simp at h2
     | some o' => exact ih e.on (by omega) o' ho' (fun e' he' hb' => hL e.on o' ho' (hp e hm' hb) e' he' hb') k h2
theorem pairsB_get {clo i:Nat} {y:AOper}:∀ {xs:List AOper} {j:Nat},pairsB clo i y j xs = true→∀ (k:Nat) x,xs[k]? = some x→clo.testBit (j + k) = true∨swapB (j + k) i x y = true
 | [],_,_,_,_,h => by simp at h
 | x :: xs,j,h,k,x',hk => by
   simp only[pairsB,Bool.and_eq_true,Bool.or_eq_true] at h
   cases k with
   | zero => simp at hk;subst hk;exact h.1
   | succ k =>
     simp at hk
     have:=pairsB_get h.2 k x' hk
     rwa [show j + 1 + k = j + (k + 1) by omega] at this
theorem drawB_get {aos:List AOper}:∀ {ys:List AOper} {cs:List Nat} {j:Nat},drawB aos j ys cs = true→∀ (i:Nat) y,ys[i]? = some y→pairsB (cs.getD i 0) (j + i) y 0 (aos.take (j + i)) = true
 | [],_,_,_,_,_,h => by simp at h
 | y :: ys,[],_,h,_,_,_ => by simp[drawB] at h
 | y :: ys,c :: cs,j,h,i,y',hi => by
   simp only[drawB,Bool.and_eq_true] at h
   cases i with
   | zero => simp at hi;subst hi;simpa using h.1
   | succ i =>
     simp at hi
     have:=drawB_get h.2 i y' hi
     rw[show j + 1 + i = j + (i + 1) by omega] at this
     simpa using this
theorem opersB_get {P:Program} {nm:Nat→Nat} {N:Nat} {ops:Array Oper}:∀ {os:List Oper} {aos:List AOper},opersB P nm N ops os aos = true→os.length = aos.length∧∀ (i:Nat) o,os[i]? = some o→∃ ao,aos[i]? = some ao∧operB P nm N ops o ao = true
 | [],[],_ => ⟨rfl,fun _ _ h => by simp at h⟩
 | [],_ :: _,h => by simp[opersB] at h
 | _ :: _,[],h => by simp[opersB] at h
 | o :: os,ao :: aos,h => by
   simp only[opersB,Bool.and_eq_true] at h
   obtain ⟨h1,h2⟩:=opersB_get h.2
   refine ⟨by simp[h1],fun i o' hi => ?_⟩
   cases i with
   | zero => simp at hi;subst hi;exact ⟨ao,rfl,h.1⟩
   | succ i => simp at hi ⊢;exact h2 i o' hi
def regB (P:Program) (nm:Nat→Nat) (N:Nat) (ops:Array Oper) (draw:Bool) (aos:List AOper):Bool:=
 opersB P nm N ops ops.toList aos && (!draw || (edgesB 0 ops.toList && (let clo:=clos ops.toList [];cloB clo ops.toList clo && drawB aos 0 aos clo)))
def pend (ops:Array Oper) (listed:Array Bool):List Nat:=(List.range ops.size).filter fun i => !listed.getD i true
theorem ready_some {ops:Array Oper} {listed:Array Bool} (he:edgesB 0 ops.toList = true) (hs:listed.size = ops.size):∀ i,i < ops.size→listed.getD i true = false→Region.ready .any ops listed≠[]:=by
 intro i
 induction i using Nat.strongRecOn with
 | _ i ih =>
   intro hi hl hr
   have ho:ops[i]? = some ops[i]:=Array.getElem?_eq_getElem hi
   by_cases hall:(ops[i].after.all fun e => !Region.binds .any e || listed.getD e.on false) = true
   ·have:i∈Region.ready .any ops listed:=by
     unfold Region.ready
     rw[List.mem_filter]
     exact ⟨List.mem_range.2 hi,by rw[hl,ho];simpa using hall⟩
    rw[hr] at this
    cases this
   ·rw[Array.all_eq_true_iff_forall_mem] at hall
    simp only[Bool.or_eq_true,Bool.not_eq_true'] at hall
    have:∃ e∈ops[i].after,Region.binds .any e = true∧listed.getD e.on false≠true:=by
     refine Classical.byContradiction fun hn => hall fun e hm => ?_
     by_cases hb:Region.binds .any e = true
     ·by_cases hl:listed.getD e.on false = true
      ·exact .inr hl
      ·exact absurd ⟨e,hm,hb,hl⟩ hn
     ·exact .inl (by simpa using hb)
    obtain ⟨e,hm,hb,hne⟩:=this
    have hlt:=edgesB_get he i ops[i] (by simpa using ho) e hm hb
    have hlt':e.on < ops.size:=by omega
    refine ih e.on (by omega) hlt' ?_ hr
    have h1:e.on < listed.size:=by omega
    simp only[Array.getD_eq_getD_getElem?,Array.getElem?_eq_getElem h1,Option.getD_some] at hne ⊢
    simpa using hne
section
variable {P:Program} {call:CS} {N:Nat}
theorem any_wp {num:Nat→Nat} (hcall:CallOk P num call) (hk:CallKeep call) {ops:Array Oper} {aos:List AOper} (hb:regB P num N ops true aos = true) {Q:Exit→Act→World→Prop} {base:Nat} {e':Env} {g':G}:
  ∀ (fuel:Nat) (listed:Array Bool) {c:Cx} {e:Env} {g:G} {a:Act},listed.size = ops.size→(pend ops listed).length = fuel→Closed ops.toList (fun i => listed.getD i false)→c.num = num→St N c e g a→base + ops.size≤g.nx →
  (∀ i∈pend ops listed,g.hp (base + i) = none)→runL call base aos (pend ops listed) e g = some (e',g')→(∀ c' a',Evo c c'→St N c' e' g' a'→Q .normal a' c'.w)→wpAny P .any ops Q fuel listed a c.w
 | 0,listed,c,e,g,a,hs,hl,hc,hn,S,hnx,hf,hr,hQ => by
   have hp:pend ops listed = []:=List.eq_nil_of_length_eq_zero hl
   refine ⟨?_,?_⟩
   ·refine List.eq_nil_iff_forall_not_mem.2 fun i hi => ?_
    have:i∈pend ops listed:=by
     unfold Region.ready at hi
     rw[List.mem_filter] at hi
     unfold pend
     rw[List.mem_filter]
     exact ⟨hi.1,by have:=hi.2;simp only[Bool.and_eq_true] at this;exact this.1⟩
    rw[hp] at this;cases this
   ·rw[hp] at hr
    simp only[runL] at hr
    cases hr
    exact hQ c a (Evo.refl c) S
 | fuel + 1,listed,c,e,g,a,hs,hl,hc,hn,S,hnx,hf,hr,hQ => by
   simp only[regB,Bool.and_eq_true,Bool.not_true,Bool.false_or] at hb
   obtain ⟨hb1,hb2,hb3,hb4⟩:=hb
   refine ⟨fun h0 => ?_,fun i hi => ?_⟩
   ·exfalso
    cases hp:pend ops listed with
    | nil => rw[hp] at hl;simp at hl
    | cons m ms =>
      have hm:m∈pend ops listed:=by rw[hp];exact List.mem_cons_self ..
      unfold pend at hm
      rw[List.mem_filter] at hm
      exact ready_some hb2 hs m (List.mem_range.1 hm.1) (by simpa using hm.2) h0
   ·have hi':=hi
    unfold Region.ready at hi'
    rw[List.mem_filter] at hi'
    obtain ⟨hir,hiu⟩:=hi'
    have hilt:i < ops.size:=List.mem_range.1 hir
    simp only[Bool.and_eq_true,Bool.not_eq_true'] at hiu
    obtain ⟨hul,hpre⟩:=hiu
    have ho:ops[i]? = some ops[i]:=Array.getElem?_eq_getElem hilt
    rw[ho] at hpre
    simp only[Option.map_some,Option.getD_some] at hpre
    have hpre':∀ ed∈ops[i].after,Region.binds .any ed = true→listed.getD ed.on false = true:=by
     intro ed hm hbd
     have:=Array.all_eq_true_iff_forall_mem.1 hpre ed hm
     rw[hbd] at this
     simpa using this
    have him:i∈pend ops listed:=by
     unfold pend;rw[List.mem_filter];exact ⟨hir,by rw[hul];rfl⟩
    obtain ⟨pre,post,hsplit⟩:=List.append_of_mem him
    have hsort:(pend ops listed).Pairwise (· < ·):=List.Pairwise.filter _ List.pairwise_lt_range
    rw[hsplit,List.pairwise_append] at hsort
    obtain ⟨s1,s2,s3⟩:=hsort
    rw[List.pairwise_cons] at s2
    obtain ⟨hlen,hget⟩:=opersB_get hb1
    obtain ⟨y,hy,hoy⟩:=hget i ops[i] (by simpa using ho)
    have hmem:∀ k,k∈pre∨k∈post→k∈pend ops listed:=by
     intro k hk;rw[hsplit]
     rcases hk with hk | hk
     ·exact List.mem_append_left _ hk
     ·exact List.mem_append_right _ (List.mem_cons_of_mem _ hk)
    have hfront:=runL_front hy pre post e e' g g' (fun k hk => by
     have hki:k < i:=s3 k hk i (List.mem_cons_self ..)
     refine ⟨by omega,fun x hx => ?_⟩
     have hpb:=drawB_get hb4 i y hy
     rw[Nat.zero_add] at hpb
     have:=pairsB_get hpb k x (by rw[List.getElem?_take_of_lt hki];exact hx)
     rw[Nat.zero_add] at this
     rcases this with h1 | h1
     ·exfalso
      have hL:=clo_sound hb3 hb2 hc i ops[i] (by simpa using ho) hpre' k h1
      have hkm:=hmem k (.inl hk)
      unfold pend at hkm
      rw[List.mem_filter] at hkm
      have hkl:k < listed.size:=by rw[hs];exact List.mem_range.1 hkm.1
      have h2:=hkm.2
      simp only[Array.getD_eq_getD_getElem?,Array.getElem?_eq_getElem hkl,Option.getD_some] at hL h2
      rw[hL] at h2;cases h2
     ·exact h1) (by rw[hsplit] at hr;exact hr)
    simp only[runL,hy] at hfront
    have hpend':pend ops (listed.setIfInBounds i true) = pre ++ post:=by
     have h1:pend ops (listed.setIfInBounds i true) = (pend ops listed).filter (fun k => k != i):=by
      unfold pend
      rw[List.filter_filter]
      refine List.filter_congr fun k hk => ?_
      have hkl:k < listed.size:=by rw[hs];exact List.mem_range.1 hk
      by_cases hki:k = i
      ·subst hki
       rw[Array.getD_eq_getD_getElem?,Array.getElem?_setIfInBounds_self_of_lt hkl]
       simp
      ·rw[Array.getD_eq_getD_getElem?,Array.getElem?_setIfInBounds_ne (fun h => hki h.symm),Array.getD_eq_getD_getElem?]
       simp[hki]
     rw[h1,hsplit,List.filter_append,List.filter_cons]
     have f1:pre.filter (fun k => k != i) = pre:=List.filter_eq_self.2 fun k hk => by
      have:=s3 k hk i (List.mem_cons_self ..)
      simp;omega
     have f2:post.filter (fun k => k != i) = post:=List.filter_eq_self.2 fun k hk => by
      have:=s2.1 k hk
      simp;omega
     rw[f1,f2]
     simp
    split at hfront
    ·rename_i e1 g1 hst
     have hkp:=opStep_keep hk hst
     refine opStep_wp (hn ▸ hcall) S ho (hn ▸ hoy) (hf i him) (by omega) hst (fun c1 a1 E1 S1 => ?_)
     have hb:regB P num N ops true aos = true:=by
      simp only[regB,Bool.and_eq_true,Bool.not_true,Bool.false_or]
      exact ⟨hb1,hb2,hb3,hb4⟩
     refine any_wp hcall hk hb fuel (listed.setIfInBounds i true) (by simpa using hs) (by
       rw[hpend']
       rw[hsplit] at hl
       simp at hl ⊢
       omega) ?_ (E1.num.trans hn) S1 (Nat.le_trans hnx hkp.1) ?_ (by rw[hpend'];exact hfront) (fun c' a' E' S' => hQ c' a' (E1.trans E') S')
     ·intro m o hm hlm ed hed hbd
      have hset:∀ k,listed.getD k false = true→(listed.setIfInBounds i true).getD k false = true:=by
       intro k hk
       by_cases hki:k = i
       ·subst hki
        have hkl:k < listed.size:=by omega
        rw[Array.getD_eq_getD_getElem?,Array.getElem?_setIfInBounds_self_of_lt hkl];rfl
       ·rw[Array.getD_eq_getD_getElem?,Array.getElem?_setIfInBounds_ne (fun h => hki h.symm),←Array.getD_eq_getD_getElem?];exact hk
      refine hset _ ?_
      by_cases hmi:m = i
      ·subst hmi
       have:o = ops[m]:=by
        have h2:ops[m]? = some o:=by simpa using hm
        rw[ho] at h2;cases h2;rfl
       subst this
       exact hpre' ed hed hbd
      ·have hlm':listed.getD m false = true:=by
        have h3:(listed.setIfInBounds i true).getD m false = true:=hlm
        rw[Array.getD_eq_getD_getElem?,Array.getElem?_setIfInBounds_ne (fun h => hmi h.symm),←Array.getD_eq_getD_getElem?] at h3
        exact h3
       exact hc m o hm hlm' ed hed hbd
     ·intro k hk
      rw[hpend'] at hk
      have hkm:=hmem k (List.mem_append.1 hk)
      have hki:k≠i:=by
       rcases List.mem_append.1 hk with hk | hk
       ·have:=s3 k hk i (List.mem_cons_self ..);omega
       ·have:=s2.1 k hk;omega
      have hklt:k < ops.size:=by
       unfold pend at hkm;rw[List.mem_filter] at hkm;exact List.mem_range.1 hkm.1
      exact hkp.2 _ (by omega) (by omega) (hf k hkm)
    ·cases hfront
theorem region_wp {num:Nat→Nat} (hcall:CallOk P num call) (hk:CallKeep call) (hm:P.follows .mixedOrders = true) {ops:Array Oper} {draw:Bool} {aos:List AOper} (hb:regB P num N ops draw aos = true) {Q:Exit→Act→World→Prop} {id:Nat}
  {c:Cx} {e e':Env} {g g':G} {a:Act} (hn:c.num = num) (S:St N c e g a) (h:regE call draw g.nx 0 aos e { g with nx:=g.nx + aos.length } = some (e',g')) (hQ:∀ c' a',Evo c c'→St N c' e' g' a'→Q .normal a' c'.w):(Code.region id ops draw).wp P Q a c.w:=by
 have hb':=hb
 simp only[regB,Bool.and_eq_true] at hb'
 obtain ⟨hlen,_⟩:=opersB_get hb'.1
 have hlen':ops.size = aos.length:=by simpa using hlen
 have S':St N c e { g with nx:=g.nx + aos.length } a:=⟨S.env,⟨S.ok.basele,S.ok.cells,S.ok.maps,S.ok.toks,S.ok.inj,fun id hid => S.ok.fresh id (by have:g.nx + aos.length≤id:=hid;omega)⟩,S.hp,S.size,S.defers⟩
 have hfree:∀ i,i < ops.size→g.hp (g.nx + i) = none:=fun i _ => by rw[←S.hp];exact S.ok.fresh _ (by omega)
 cases draw with
 | false =>
   refine wp_region ?_
   rw[List.range_eq_range']
   have:=reg_wp (Q:=Q) hcall hk (draw:=false) (base:=g.nx) (n:=ops.size) ops.toList aos 0 hn (fun i o hi => by simpa using hi) hb'.1 (by simp) S' (by simp[hlen']) (fun i _ hi => hfree i hi) h hQ
   simpa using this
 | true =>
   refine wp_region_any hm ?_
   have hpend:pend ops (Array.replicate ops.size false) = List.range ops.size:=by
    unfold pend
    refine List.filter_eq_self.2 fun i hi => ?_
    have hi:=List.mem_range.1 hi
    rw[Array.getD_eq_getD_getElem?,Array.getElem?_replicate,if_pos hi];rfl
   refine any_wp (c:=c.drew) (base:=g.nx) hcall hk hb ops.size (Array.replicate ops.size false) (by simp) (by rw[hpend];simp) ?_ hn ⟨S'.env.evo (Evo.drew c),S'.ok.drew,S'.hp,S'.size,S'.defers⟩ (by show g.nx + ops.size≤g.nx + aos.length;omega) (fun i hi => ?_) ?_ (fun c' a' E Sc => hQ c' a' ((Evo.drew c).trans E) Sc)
   ·intro i o _ hl
    have hl:(Array.replicate ops.size false).getD i false = true:=hl
    rw[Array.getD_eq_getD_getElem?,Array.getElem?_replicate] at hl
    split at hl<;>cases hl
   ·rw[hpend] at hi
    exact hfree i (List.mem_range.1 hi)
   ·rw[hpend,List.range_eq_range',hlen']
    rw[runL_text call g.nx aos aos 0 e _ (fun i o hi => by simpa using hi)]
    exact h
end
end Go.Ab
end
section
set_option linter.unusedVariables false
set_option linter.unusedSimpArgs false
set_option linter.unnecessarySimpa false
namespace Go.Ab
open Go.RowKit
def codeB (P:Program) (nm:Nat→Nat) (N:Nat):Code→ACode→Bool
 | .skip,.skip => true
 | .region _ ops d,.reg d' aos => (d == d') && regB P nm N ops d aos
 | .seq a b,.seq a' b' => codeB P nm N a a' && codeB P nm N b b'
 | .cond c t f,.cond c' t' f' => opdB nm c c' && codeB P nm N t t' && codeB P nm N f f'
 | .block i c,.blk i' c' => (i == i') && codeB P nm N c c'
 | cd,.lck _ c' => codeB P nm N cd c'
 | cd,.lckS _ c' => codeB P nm N cd c'
 | cd,.imm _ c' => codeB P nm N cd c'
 | cd,.tmp c' => codeB P nm N cd c'
 | .scope c,.scp c' => codeB P nm N c c'
 | .label _,.lab => true
 | .loop c,.loop c' => codeB P nm N c c'
 | .exit i,.ext i' => i == i'
 | .ret,.ret => true
 | _,_ => false
def Keeps (g g':G):Prop:=g.nx≤g'.nx∧∀ i,i < g.nx→g.hp i = none→g'.hp i = none
theorem Keeps.refl (g:G):Keeps g g:=⟨Nat.le_refl _,fun _ _ h => h⟩
theorem Keeps.trans {g g1 g2:G} (h:Keeps g g1) (k:Keeps g1 g2):Keeps g g2:=⟨Nat.le_trans h.1 k.1,fun i hi hn => k.2 i (Nat.lt_of_lt_of_le hi h.1) (h.2 i hi hn)⟩
theorem regE_keep {call:CS} (hk:CallKeep call) {draw:Bool} {base:Nat} {e':Env} {g':G}:∀ (aos:List AOper) (j:Nat) {e:Env} {g:G},regE call draw base j aos e g = some (e',g')→g.nx≤g'.nx∧∀ i,i < base→i < g.nx→g.hp i = none→g'.hp i = none
 | [],j,e,g,h => by simp only[regE] at h;cases h;exact ⟨Nat.le_refl _,fun _ _ _ h => h⟩
 | o :: os,j,e,g,h => by
   rw[regE_step] at h
   split at h
   ·rename_i e1 g1 hst
    have h1:=opStep_keep hk hst
    have h2:=regE_keep hk os (j + 1) h
    exact ⟨Nat.le_trans h1.1 h2.1,fun i hb hi hn => h2.2 i hb (Nat.lt_of_lt_of_le hi h1.1) (h1.2 i hi (by omega) hn)⟩
   ·cases h
theorem iter_keep {f:Env→G→Option (Out × Env × G)} (hf:∀ e g o e' g',f e g = some (o,e',g')→Keeps g g'):∀ (k:Nat) {e:Env} {g:G} {o:Out} {e':Env} {g':G},iter f k e g = some (o,e',g')→Keeps g g'
 | 0,_,_,_,_,_,h => by simp[iter] at h
 | k + 1,e,g,o,e',g',h => by
   simp only[iter] at h
   split at h
   ·rename_i e1 g1 h1
    exact (hf _ _ _ _ _ h1).trans (iter_keep hf k h)
   ·exact hf _ _ _ _ _ h
theorem codeE_keep {call:CS} (hk:CallKeep call) (k:Nat):∀ (c:ACode) {e:Env} {g:G} {o:Out} {e':Env} {g':G},codeE call k c e g = some (o,e',g')→Keeps g g'
 | .skip,_,_,_,_,_,h => by simp only[codeE] at h;cases h;exact Keeps.refl _
 | .reg draw ops,e,g,_,_,_,h => by
   simp only[codeE] at h
   split at h
   ·rename_i e1 g1 h1
    cases h
    have:=regE_keep hk ops 0 h1
    exact ⟨Nat.le_trans (Nat.le_add_right _ _) this.1,fun i hi hn => this.2 i hi (Nat.lt_of_lt_of_le hi (Nat.le_add_right _ _)) hn⟩
   ·cases h
 | .seq a b,_,_,_,_,_,h => by
   simp only[codeE] at h
   split at h
   ·rename_i e1 g1 h1
    exact (codeE_keep hk k a h1).trans (codeE_keep hk k b h)
   ·exact codeE_keep hk k a h
 | .cond c t f,e,g,_,_,_,h => by
   simp only[codeE] at h
   split at h
   ·split at h
    ·exact codeE_keep hk k t h
    ·exact codeE_keep hk k f h
   ·cases h
 | .blk id c,_,_,_,_,_,h => by
   simp only[codeE] at h
   split at h
   ·rename_i n e1 g1 h1
    cases h
    exact codeE_keep hk k c h1
   ·exact codeE_keep hk k c h
 | .scp c,_,_,_,_,_,h => by
   simp only[codeE] at h
   exact codeE_keep hk k c h
 | .lab,_,_,_,_,_,h => by simp only[codeE] at h;cases h;exact Keeps.refl _
 | .tmp c,e0,gg,_,_,_,h => by
   simp only[codeE] at h
   split at h
   ·rename_i o e2 g2 h1
    split at h
    ·cases h
     exact ⟨(codeE_keep hk k c h1).1,fun _ _ hn => hn⟩
    ·cases h
   ·cases h
 | .imm t c,e0,gg,_,_,_,h => by
   simp only[codeE] at h
   split at h
   ·rename_i v hv
    have h2:=codeE_keep hk k c h
    refine Keeps.trans (g1:=⟨Ab.lock gg.hp (vis gg.hp depth (e0 t)),gg.nx⟩) ⟨Nat.le_refl _,fun i hi hn => ?_⟩ h2
    show Ab.lock _ _ _ = none
    rcases lock_cases _ _ i with h' | ⟨_,cs,ro,h1,_⟩
    ·rw[h'];exact hn
    ·rw[hn] at h1;cases h1
   ·cases h
 | .lckS t c,e0,gg,_,_,_,h => by
   simp only[codeE] at h
   have h2:=codeE_keep hk k c h
   refine Keeps.trans (g1:=⟨Ab.lock gg.hp (ids1 (e0 t)),gg.nx⟩) ⟨Nat.le_refl _,fun i hi hn => ?_⟩ h2
   show Ab.lock _ _ _ = none
   rcases lock_cases _ _ i with h' | ⟨_,cs,ro,h1,_⟩
   ·rw[h'];exact hn
   ·rw[hn] at h1;cases h1
 | .lck t c,e0,gg,_,_,_,h => by
   simp only[codeE] at h
   have h2:=codeE_keep hk k c h
   refine Keeps.trans (g1:=⟨Ab.lock gg.hp (vis gg.hp depth (e0 t)),gg.nx⟩) ⟨Nat.le_refl _,fun i hi hn => ?_⟩ h2
   show Ab.lock _ _ _ = none
   rcases lock_cases _ _ i with h' | ⟨_,cs,ro,h1,_⟩
   ·rw[h'];exact hn
   ·rw[hn] at h1;cases h1
 | .loop c,_,_,_,_,_,h => by
   simp only[codeE] at h
   exact iter_keep (fun e g o e' g' h => codeE_keep hk k c h) k h
 | .ext _,_,_,_,_,_,h => by simp only[codeE] at h;cases h;exact Keeps.refl _
 | .ret,_,_,_,_,_,h => by simp only[codeE] at h;cases h;exact Keeps.refl _
theorem St.lock {N:Nat} {c:Cx} {e:Env} {g:G} {a:Act} (S:St N c e g a) (ids:List Nat):St N (c.lock ids) e ⟨Ab.lock g.hp ids,g.nx⟩ a:=
 ⟨S.env.evo (Evo.lock c ids),S.ok.lock ids,by show Ab.lock c.hp ids = _;rw[S.hp],S.size,S.defers⟩
theorem tmpOk_at {hp hp2:Nat→Option Blk} {n i:Nat} (h:tmpOk hp hp2 n = true) (hi:i < n):(∀ es,hp i≠some (.map es))∧(hp i = some (.tok true)→hp2 i = some (.tok true))∧(∀ cs ro,hp i = some (.cells cs ro)→∃ cs' ro',hp2 i = some (.cells cs' ro')):=by
 have:=List.all_eq_true.1 h i (List.mem_range.2 hi)
 refine ⟨fun es he => ?_,fun he => ?_,fun cs ro he => ?_⟩
 ·rw[he] at this;cases this
 ·rw[he] at this
  simp only at this
  split at this
  ·assumption
  ·cases this
 ·rw[he] at this
  simp only at this
  split at this
  ·exact ⟨_,_,by assumption⟩
  ·cases this
theorem lock_isSome {hp:Nat→Option Blk} {ids:List Nat} {i:Nat} (h:(hp i).isSome):(Ab.lock hp ids i).isSome:=by
 rcases lock_cases hp ids i with h1 | ⟨_,cs,ro,_,h1⟩
 ·rw[h1];exact h
 ·rw[h1];rfl
def Cx.unl (c1:Cx) (hp:Nat→Option Blk):Cx:={ c1 with hp:=hp }
section
variable {c c1:Cx} {nx nx2:Nat}
theorem id_lt (K:Ok c nx) {i:Nat} (h:(c.hp i).isSome):i < nx:=by
 by_cases hi:i < nx
 ·exact hi
 ·rw[K.fresh i (by omega)] at h;cases h
theorem Evo.unl (K:Ok c nx) (E1:Evo (c.lock (List.range nx)) c1) (hk:tmpOk c.hp c1.hp nx = true):Evo c (c1.unl c.hp) where
 num:=E1.num
 base:=E1.base
 J:=E1.J
 below:=E1.below
 imm:=fun ad hI => by
  have h1:=E1.imm ad ((Evo.lock c (List.range nx)).imm ad hI).1
  refine ⟨?_,fun v hv => h1.2 v hv⟩
  have hb:c1.base = c.base:=E1.base
  rcases hI with ⟨a1,a2⟩ | ⟨a1,a2,a3⟩
  ·refine .inl ⟨by show _ < c1.base;rw[hb];exact a1,?_⟩
   have:c1.J = c.J:=E1.J
   show c1.J ad
   rw[this];exact a2
  ·refine .inr ⟨by show c1.base≤_;rw[hb];exact a1,Nat.lt_of_lt_of_le a2 E1.below.size,fun hw => a3 ?_⟩
   rcases hw with ⟨i,cs,hi,hl⟩ | ⟨i,hi,hl,ho⟩
   ·have hi':c.hp i = some (.cells cs false):=hi
    have e:=(E1.ids i (lock_isSome (by show (c.hp i).isSome;rw[hi'];rfl))).2
    have hl':(c1.loc i).1 = ad.block:=hl
    rw[e] at hl'
    exact .inl ⟨i,cs,hi',hl'⟩
   ·have hi':c.hp i = some (.tok true):=hi
    have e:=(E1.ids i (lock_isSome (by show (c.hp i).isSome;rw[hi'];rfl))).2
    have hl':(c1.loc i).1 = ad.block:=hl
    have ho':(c1.loc i).2≤ad.off:=ho
    rw[e] at hl' ho'
    exact .inr ⟨i,hi',hl',ho'⟩
 ids:=fun i hi => ⟨hi,(E1.ids i (lock_isSome hi)).2⟩
 tok:=fun i hi ht => by
  have ht:c.hp i = some (.tok true):=ht
  refine ⟨ht,?_⟩
  exact (E1.tok i (lock_isSome hi) ((tmpOk_at hk (id_lt K hi)).2.1 ht)).2
 cel:=fun i cs ro hi hc => by
  have hc:c.hp i = some (.cells cs ro):=hc
  obtain ⟨cs',ro',h1⟩:=(tmpOk_at hk (id_lt K hi)).2.2 cs ro hc
  obtain ⟨_,_,_,_,h2⟩:=E1.cel i cs' ro' (lock_isSome hi) h1
  exact ⟨cs,ro,hc,rfl,h2⟩
theorem Ok.unl (K:Ok c nx) (E1:Evo (c.lock (List.range nx)) c1) (hk:tmpOk c.hp c1.hp nx = true) (K1:Ok c1 nx2) (hn:nx≤nx2):Ok (c1.unl c.hp) nx2:=by
 have E:=Evo.unl K E1 hk
 have hloc:∀ i,(c.hp i).isSome→c1.loc i = c.loc i:=fun i hi => (E.ids i hi).2
 refine ⟨K1.basele,?_,?_,?_,?_,?_⟩
 ·intro i cs ro hi
  have hi:c.hp i = some (.cells cs ro):=hi
  have hs:(c.hp i).isSome:=by rw[hi];rfl
  obtain ⟨cs1,ro1,h1⟩:=(tmpOk_at hk (id_lt K hs)).2.2 cs ro hi
  obtain ⟨k1,vs1,us1,ty1,k2,k3,_⟩:=K1.cells i cs1 ro1 h1
  obtain ⟨cs0,ro0,h0,hl0,_⟩:=E1.cel i cs1 ro1 (lock_isSome hs) h1
  obtain ⟨j1,vs,us,ty,j2,j3,j4⟩:=K.cells i cs ro hi
  have hcl:cs.length = cs1.length:=by
   rcases lock_cases c.hp (List.range nx) i with h | ⟨_,cs2,ro2,h3,h4⟩
   ·have h0':Ab.lock c.hp (List.range nx) i = some (.cells cs0 ro0):=h0
    rw[h,hi] at h0';cases h0';exact hl0
   ·have h0':Ab.lock c.hp (List.range nx) i = some (.cells cs0 ro0):=h0
    rw[h4] at h0'
    rw[hi] at h3
    cases h3;cases h0';exact hl0
  have hvl:vs.length = vs1.length:=by rw[←j3.1,hcl,k3.1]
  have hv:vs1 = vs:=by
   refine List.ext_getElem? fun j => ?_
   by_cases hj:j < vs.length
   ·have hc0:c.w.cell? ⟨(c.loc i).1,j,none⟩ = some vs[j]:=by
     rw[cell_of_heap j2]
     simp[List.getElem?_append_left hj]
    have hI:(c.lock (List.range nx)).I ⟨(c.loc i).1,j,none⟩:=by
     refine .inr ⟨j1,(Array.getElem?_eq_some_iff.1 j2).1,fun hw => ?_⟩
     rcases hw with ⟨i',cs',hi',hl'⟩ | ⟨i',hi',hl',ho'⟩
     ·have hi':Ab.lock c.hp (List.range nx) i' = some (.cells cs' false):=hi'
      rcases lock_cases c.hp (List.range nx) i' with h | ⟨_,cs2,ro2,h3,h4⟩
      ·rw[h] at hi'
       have hlt:=id_lt K (i:=i') (by rw[hi'];rfl)
       have:Ab.lock c.hp (List.range nx) i' = some (.cells cs' true):=by
        unfold Ab.lock
        rw[if_pos (by simpa using hlt),hi']
       rw[h,hi'] at this
       cases this
      ·rw[h4] at hi';cases hi'
     ·have hi':Ab.lock c.hp (List.range nx) i' = some (.tok true):=hi'
      have hi2:c.hp i' = some (.tok true):=by
       rcases lock_cases c.hp (List.range nx) i' with h | ⟨_,cs2,ro2,h3,h4⟩
       ·rw[←h];exact hi'
       ·rw[h4] at hi';cases hi'
      have hne:i'≠i:=fun h => by rw[h,hi] at hi2;cases hi2
      exact K.inj i' i hne ⟨_,hi2,by simp⟩ ⟨_,hi,by simp⟩ hl'
    have h2:=(E1.imm _ hI).2 _ hc0
    rw[←hloc i hs,cell_of_heap k2] at h2
    have hj1:j < vs1.length:=hvl ▸ hj
    have h3:(vs1 ++ us1)[j]? = some vs[j]:=by simpa using h2
    rw[List.getElem?_append_left hj1] at h3
    rw[h3,List.getElem?_eq_getElem hj]
   ·rw[List.getElem?_eq_none (by omega),List.getElem?_eq_none (by omega)]
  subst hv
  exact ⟨k1,vs1,us1,ty1,k2,j3.evo E,j4⟩
 ·intro i es hi
  have hi:c.hp i = some (.map es):=hi
  exact absurd hi ((tmpOk_at hk (id_lt K (by rw[hi];rfl))).1 es)
 ·intro i hi
  have hi:c.hp i = some (.tok true):=hi
  exact K1.toks i ((tmpOk_at hk (id_lt K (by rw[hi];rfl))).2.1 hi)
 ·intro i j hij hi hj
  have hi:c.live i:=hi
  have hj:c.live j:=hj
  have si:(c.hp i).isSome:=by obtain ⟨b,hb,_⟩:=hi;rw[hb];rfl
  have sj:(c.hp j).isSome:=by obtain ⟨b,hb,_⟩:=hj;rw[hb];rfl
  show (c1.loc i).1≠(c1.loc j).1
  rw[hloc i si,hloc j sj]
  exact K.inj i j hij hi hj
 ·intro i hi
  exact K.fresh i (by omega)
theorem rigid_rep {hp:Nat→Option Blk} {x:AV} {v:Value} (h:Rep c1 true x v):Rep (c1.unl hp) true (rigid hp x) v:=by
 unfold rigid
 by_cases hf:flat x = true
 ·rw[if_pos hf];exact rep_flat hf h
 ·rw[if_neg hf]
  cases h with
  | undef v hb => exact .undef v hb
  | b x => exact absurd rfl hf
  | i k n => exact absurd rfl hf
  | s x => exact absurd rfl hf
  | nilp => exact absurd rfl hf
  | nilf => exact absurd rfl hf
  | nili => exact absurd rfl hf
  | agg vs hl h => exact .undef _ (fun x h => by cases h)
  | tup vs hl h => exact .undef _ (fun x h => by cases h)
  | sl ad vs hc hm hr ho hz h1 hl ha hk h ht => exact .undef _ (fun x h => by cases h)
  | ptr ad vs h1 hl hk h => exact .undef _ (fun x h => by cases h)
  | mp id off h =>
    simp only
    by_cases hs:(hp id).isSome = true
    ·rw[if_pos hs];exact Rep.mp (c:=c1.unl hp) id off hs
    ·rw[if_neg hs];exact .undef _ (fun x h => by cases h)
  | ms id off n cap h hc hm hp => exact .undef _ (fun x h => by cases h)
  | mc id k e n cap h hk hc hm hp => exact .undef _ (fun x h => by cases h)
  | fn vs us hl hl' h h' => exact .undef _ (fun x h => by cases h)
  | mm id h => exact .undef _ (fun x h => by cases h)
end
theorem St.unl {N:Nat} {c c1:Cx} {e2:Env} {g g2:G} {a1:Act} (K:Ok c g.nx) (hg:c.hp = g.hp) (E1:Evo (c.lock (List.range g.nx)) c1) (S1:St N c1 e2 g2 a1) (hk:tmpOk g.hp g2.hp g.nx = true) (hn:g.nx≤g2.nx):St N (c1.unl g.hp) (tmpEnv g.hp e2) ⟨g.hp,g2.nx⟩ a1:=by
 rw[←hg] at hk ⊢
 rw[←S1.hp] at hk
 exact ⟨fun t => rigid_rep (S1.env t),Ok.unl K E1 hk S1.ok hn,rfl,S1.size,S1.defers⟩
def exOf:Out→Exit
 | .nrm => .normal
 | .ext n => .exit n
 | .ret => .ret
section
variable {P:Program} {call:CS} {N:Nat}
theorem rounds_wp {num:Nat→Nat} {cd:Code} {f:Env→G→Option (Out × Env × G)} {Q:Exit→Act→World→Prop}
  (hf:∀ {Q:Exit→Act→World→Prop} {c:Cx} {e e':Env} {g g':G} {a:Act} {o:Out},c.num = num→St N c e g a→f e g = some (o,e',g')→(∀ c' a',Evo c c'→St N c' e' g' a'→Q (exOf o) a' c'.w)→cd.wp P Q a c.w):
  ∀ (k:Nat) {c:Cx} {e e':Env} {g g':G} {a:Act} {o:Out},c.num = num→St N c e g a→iter f k e g = some (o,e',g')→(∀ c' a',Evo c c'→St N c' e' g' a'→Q (exOf o) a' c'.w)→(o = .nrm→False)→Code.rounds P cd Q k a c.w
 | 0,_,_,_,_,_,_,_,_,_,h,_,_ => by simp[iter] at h
 | k + 1,c,e,e',g,g',a,o,hn,S,h,hQ,hno => by
   simp only[iter] at h
   rw[rounds_succ]
   split at h
   ·rename_i e1 g1 h1
    exact hf hn S h1 fun c1 a1 E1 S1 => rounds_wp hf k (E1.num.trans hn) S1 h (fun c' a' E' S' => hQ c' a' (E1.trans E') S') hno
   ·refine hf hn S h fun c1 a1 E1 S1 => ?_
    have:=hQ c1 a1 E1 S1
    cases o with
    | nrm => exact (hno rfl).elim
    | ext n => exact this
    | ret => exact this
theorem iter_out {f:Env→G→Option (Out × Env × G)}:∀ (k:Nat) {e e':Env} {g g':G} {o:Out},iter f k e g = some (o,e',g')→o = .nrm→False
 | 0,_,_,_,_,_,h,_ => by simp[iter] at h
 | k + 1,e,e',g,g',o,h,ho => by
   simp only[iter] at h
   split at h
   ·exact iter_out k h ho
   ·rename_i hne
    subst ho
    exact hne _ _ h
theorem code_wp {num:Nat→Nat} (hcall:CallOk P num call) (hk:CallKeep call) (hm:P.follows .mixedOrders = true) (k:Nat):∀ (ac:ACode) {cd:Code} {Q:Exit→Act→World→Prop} {c:Cx} {e e':Env} {g g':G} {a:Act} {o:Out},
  codeB P num N cd ac = true→c.num = num→St N c e g a→codeE call k ac e g = some (o,e',g')→(∀ c' a',Evo c c'→St N c' e' g' a'→Q (exOf o) a' c'.w)→cd.wp P Q a c.w
 | .skip,cd,Q,c,e,e',g,g',a,o,hb,hn,S,h,hQ => by
   cases cd<;>simp only[codeB,Bool.false_eq_true] at hb
   simp only[codeE] at h;cases h
   exact wp_skip (hQ c a (Evo.refl c) S)
 | .reg d aos,cd,Q,c,e,e',g,g',a,o,hb,hn,S,h,hQ => by
   cases cd<;>simp only[codeB,Bool.false_eq_true] at hb
   simp only[Bool.and_eq_true,beq_iff_eq] at hb
   obtain ⟨rfl,hb⟩:=hb
   simp only[codeE] at h
   split at h
   ·rename_i e1 g1 h1
    cases h
    exact region_wp hcall hk hm hb hn S h1 hQ
   ·cases h
 | .seq x y,cd,Q,c,e,e',g,g',a,o,hb,hn,S,h,hQ => by
   cases cd<;>simp only[codeB,Bool.false_eq_true] at hb
   simp only[Bool.and_eq_true] at hb
   simp only[codeE] at h
   refine wp_seq ?_
   split at h
   ·rename_i e1 g1 h1
    exact code_wp hcall hk hm k x hb.1 hn S h1 fun c1 a1 E1 S1 => code_wp hcall hk hm k y hb.2 (E1.num.trans hn) S1 h fun c' a' E' S' => hQ c' a' (E1.trans E') S'
   ·rename_i hne
    refine code_wp hcall hk hm k x hb.1 hn S h fun c1 a1 E1 S1 => ?_
    have:=hQ c1 a1 E1 S1
    cases o with
    | nrm => exact (hne _ _ h).elim
    | ext n => exact this
    | ret => exact this
 | .cond x t f,cd,Q,c,e,e',g,g',a,o,hb,hn,S,h,hQ => by
   cases cd<;>simp only[codeB,Bool.false_eq_true] at hb
   simp only[Bool.and_eq_true] at hb
   obtain ⟨⟨h1,h2⟩,h3⟩:=hb
   have hr:=opdB_rep S.env (hn ▸ h1)
   simp only[codeE] at h
   split at h
   ·rename_i b hx
    rw[hx] at hr
    refine wp_cond (t:=b) (by
     generalize a.eval _ = u at hr
     cases hr;rfl) ?_
    cases b with
    | true =>
      simp only[if_true] at h ⊢
      exact code_wp hcall hk hm k t h2 hn S h hQ
    | false =>
      simp only[Bool.false_eq_true,if_false] at h ⊢
      exact code_wp hcall hk hm k f h3 hn S h hQ
   ·cases h
 | .blk i x,cd,Q,c,e,e',g,g',a,o,hb,hn,S,h,hQ => by
   cases cd<;>simp only[codeB,Bool.false_eq_true] at hb
   simp only[Bool.and_eq_true,beq_iff_eq] at hb
   obtain ⟨rfl,hb⟩:=hb
   simp only[codeE] at h
   refine wp_block ?_
   split at h
   ·rename_i n e1 g1 h1
    cases h
    refine code_wp hcall hk hm k x hb hn S h1 fun c1 a1 E1 S1 => ?_
    have:=hQ c1 a1 E1 S1
    show if _ then _ else _
    split
    ·rename_i hni;rw[if_pos hni] at this;exact this
    ·rename_i hni;rw[if_neg hni] at this;exact this
   ·rename_i hne
    refine code_wp hcall hk hm k x hb hn S h fun c1 a1 E1 S1 => ?_
    have:=hQ c1 a1 E1 S1
    cases o with
    | nrm => exact this
    | ext n => exact (hne _ _ _ h).elim
    | ret => exact this
 | .scp x,cd,Q,c,e,e',g,g',a,o,hb,hn,S,h,hQ => by
   cases cd<;>simp only[codeB,Bool.false_eq_true] at hb
   simp only[codeE] at h
   refine wp_scope_straight (code_wp hcall hk hm k x hb hn S h fun c1 a1 E1 S1 => ?_)
   have:=hQ c1 a1 E1 S1
   cases o<;>exact this
 | .lab,cd,Q,c,e,e',g,g',a,o,hb,hn,S,h,hQ => by
   cases cd<;>simp only[codeB,Bool.false_eq_true] at hb
   simp only[codeE] at h;cases h
   exact wp_label (hQ c a (Evo.refl c) S)
 | .tmp x,cd,Q,c,e,e',g,g',a,o,hb,hn,S,h,hQ => by
   have hb:codeB P num N cd x = true:=by cases cd<;>simpa only[codeB] using hb
   simp only[codeE] at h
   split at h
   ·rename_i o2 e2 g2 h1
    split at h
    ·rename_i hk2
     cases h
     have E:=Evo.lock c (List.range g.nx)
     refine code_wp hcall hk hm k x (c:=c.lock (List.range g.nx)) hb (E.num.trans hn) (S.lock _) h1 fun c1 a1 E1 S1 => ?_
     have hk3:tmpOk c.hp c1.hp g.nx = true:=by rw[S.hp,S1.hp];exact hk2
     have hQ1:=hQ (c1.unl g.hp) a1 (by have:=Evo.unl S.ok E1 hk3;rwa [S.hp] at this) (St.unl S.ok S.hp E1 S1 hk2 (codeE_keep hk k x h1).1)
     exact hQ1
    ·cases h
   ·cases h
 | .imm t x,cd,Q,c,e,e',g,g',a,o,hb,hn,S,h,hQ => by
   have hb:codeB P num N cd x = true:=by cases cd<;>simpa only[codeB] using hb
   simp only[codeE] at h
   split at h
   ·rename_i v hv
    have E:=Evo.lock c (vis g.hp depth (e t))
    have S1:=S.lock (vis g.hp depth (e t))
    have hr:=frz_rep S.ok (hp:=g.hp) (ids:=vis g.hp depth (e t)) (fun i b hib => by rw[S.hp];exact hib) depth hv (fun _ h => h) (S.env t)
    have S2:St N (c.lock (vis g.hp depth (e t))) (upd e t v) ⟨Ab.lock g.hp (vis g.hp depth (e t)),g.nx⟩ a:=by
     refine ⟨fun t' => ?_,S1.ok,S1.hp,S1.size,S1.defers⟩
     unfold upd
     split
     ·rename_i ht;subst ht;exact hr.up
     ·exact S1.env t'
    exact code_wp hcall hk hm k x (c:=c.lock (vis g.hp depth (e t))) hb (E.num.trans hn) S2 h fun c1 a1 E1 S1 => hQ c1 a1 (E.trans E1) S1
   ·cases h
 | .lckS t x,cd,Q,c,e,e',g,g',a,o,hb,hn,S,h,hQ => by
   have hb:codeB P num N cd x = true:=by cases cd<;>simpa only[codeB] using hb
   simp only[codeE] at h
   have E:=Evo.lock c (ids1 (e t))
   exact code_wp hcall hk hm k x (c:=c.lock (ids1 (e t))) hb (E.num.trans hn) (S.lock _) h fun c1 a1 E1 S1 => hQ c1 a1 (E.trans E1) S1
 | .lck t x,cd,Q,c,e,e',g,g',a,o,hb,hn,S,h,hQ => by
   have hb:codeB P num N cd x = true:=by cases cd<;>simpa only[codeB] using hb
   simp only[codeE] at h
   have E:=Evo.lock c (vis g.hp depth (e t))
   exact code_wp hcall hk hm k x (c:=c.lock (vis g.hp depth (e t))) hb (E.num.trans hn) (S.lock _) h fun c1 a1 E1 S1 => hQ c1 a1 (E.trans E1) S1
 | .loop x,cd,Q,c,e,e',g,g',a,o,hb,hn,S,h,hQ => by
   cases cd<;>simp only[codeB,Bool.false_eq_true] at hb
   simp only[codeE] at h
   exact wp_loop_rounds k (rounds_wp (fun hn S h hQ => code_wp hcall hk hm k x hb hn S h hQ) k hn S h hQ (iter_out k h))
 | .ext i,cd,Q,c,e,e',g,g',a,o,hb,hn,S,h,hQ => by
   cases cd<;>simp only[codeB,Bool.false_eq_true] at hb
   simp only[beq_iff_eq] at hb
   subst hb
   simp only[codeE] at h;cases h
   exact wp_exit (hQ c a (Evo.refl c) S)
 | .ret,cd,Q,c,e,e',g,g',a,o,hb,hn,S,h,hQ => by
   cases cd<;>simp only[codeB,Bool.false_eq_true] at hb
   simp only[codeE] at h;cases h
   exact wp_ret (hQ c a (Evo.refl c) S)
end
def resB (P:Program):List ResultVar→List ARes→Bool
 | [],[] => true
 | .tmp t :: rs,.t t' :: rs' => (t == t') && resB P rs rs'
 | .cell a t :: rs,.cell a' agg :: rs' => (a == a') && aggB P t agg && resB P rs rs'
 | _,_ => false
def funB (P:Program) (nm:Nat→Nat) (fn:Func) (A:AFun):Bool:=
 (match fn.body with
  | some cd => codeB P nm fn.ntmps cd A.body
  | none => false) && resB P fn.results.toList A.res && !(fn.name == "runtime.NumGoroutine")
def resVar (tmps:Array Value):ResultVar→Sem Value
 | .tmp t => pure (tmps.getD t undef)
 | .cell a t => do loadVar t (← asAddr (tmps.getD a undef))
theorem results_eq (fn:Func) (tmps:Array Value):results fn tmps = (fn.results.mapM (resVar tmps) >>= fun vs => pure (if h:vs.size = 1 then vs[0] else .tuple vs)):=by
 unfold results
 congr 1
theorem resB_ok {P:Program} {c:Cx} {e:Env} {a:Act} {g:G} (he:EnvOk c e a) (K:Ok c g.nx) (hg:c.hp = g.hp):∀ {rs:List ResultVar} {asx:List ARes} {vs:List AV},resB P rs asx = true→resAll e g asx = some vs→∃ us:List Value,(rs.mapM (resVar a.tmps)).run P c.w = .ok us c.w∧Reps c true vs us
 | [],[],vs,_,h => by
   simp only[resAll] at h;cases h
   exact ⟨[],rfl,Reps.nil⟩
 | .tmp t :: rs,.t t' :: asx,vs,hb,h => by
   simp only[resB,Bool.and_eq_true,beq_iff_eq] at hb
   obtain ⟨rfl,hb⟩:=hb
   simp only[resAll,resOne] at h
   split at h
   ·rename_i v vs' h1 h2
    cases h1;cases h
    obtain ⟨us,hu,hr⟩:=resB_ok he K hg hb h2
    refine ⟨a.tmps.getD t undef :: us,?_,Reps.cons (he t) hr⟩
    rw[List.mapM_cons,Sem.run_bind]
    show Result.andThen (.ok (a.tmps.getD t undef) c.w) _ = _
    rw[Result.andThen_ok,Sem.run_bind,hu]
    rfl
   ·cases h
 | .cell q t :: rs,.cell q' agg :: asx,vs,hb,h => by
   simp only[resB,Bool.and_eq_true,beq_iff_eq] at hb
   obtain ⟨⟨rfl,hagg⟩,hb⟩:=hb
   simp only[resAll] at h
   split at h
   ·rename_i v vs' h1 h2
    cases h
    obtain ⟨us,hu,hr⟩:=resB_ok he K hg hb h2
    simp only[resOne] at h1
    split at h1
    ·rename_i b off hq
     split at h1
     ·rename_i cs ro hbk
      have hrq:=he q
      rw[hq] at hrq
      have hv:=rep_mp hrq
      have hbk':c.hp b = some (.cells cs ro):=by rw[hg];exact hbk
      obtain ⟨_,ws,rs,ty,g2,g3,_⟩:=K.cells b cs ro hbk'
      obtain ⟨val,hrun,hval⟩:=run_loadVar_ab (P:=P) (w:=c.w) hagg g3 h1 (ad:=⟨(c.loc b).1,off,none⟩) (fun j u hu => by rw[add_mk,cell_of_heap g2,List.getElem?_toArray,List.getElem?_append_left (List.getElem?_eq_some_iff.1 hu).1];exact hu)
      refine ⟨val :: us,?_,Reps.cons hval hr⟩
      have hone:(resVar a.tmps (.cell q t)).run P c.w = .ok val c.w:=by
       simp only[resVar,hv]
       exact hrun
      rw[List.mapM_cons,Sem.run_bind,hone,Result.andThen_ok,Sem.run_bind,hu]
      rfl
     ·cases h1
    ·cases h1
   ·cases h
 | [],_ :: _,_,h,_ => by simp[resB] at h
 | .tmp _ :: _,[],_,h,_ => by simp[resB] at h
 | .tmp _ :: _,.cell _ _ :: _,_,h,_ => by simp[resB] at h
 | .cell _ _ :: _,[],_,h,_ => by simp[resB] at h
 | .cell _ _ :: _,.t _ :: _,_,h,_ => by simp[resB] at h
theorem res_ok {P:Program} {c:Cx} {e:Env} {a:Act} {g:G} (he:EnvOk c e a) (K:Ok c g.nx) (hg:c.hp = g.hp) {fn:Func} {asx:List ARes} {v:AV} (hb:resB P fn.results.toList asx = true) (h:resE asx e g = some v):∃ u,(results fn a.tmps).run P c.w = .ok u c.w∧Rep c true v u:=by
 unfold resE at h
 have key:∀ vs,resAll e g asx = some vs→∃ us:List Value,(results fn a.tmps).run P c.w = .ok (if h:us.toArray.size = 1 then us.toArray[0] else .tuple us.toArray) c.w∧Reps c true vs us:=by
  intro vs hv
  obtain ⟨us,hu,hr⟩:=resB_ok (P:=P) he K hg hb hv
  refine ⟨us,?_,hr⟩
  rw[results_eq,Array.mapM_eq_mapM_toList,Sem.run_bind,Sem.run_map,hu]
  rfl
 split at h
 ·rename_i v' hv
  cases h
  obtain ⟨us,hu,hr⟩:=key _ hv
  obtain ⟨u,us',rfl,h1,h2⟩:=Reps.cons_inv hr
  have:=Reps.nil_inv h2
  subst this
  exact ⟨u,by simpa using hu,h1⟩
 ·rename_i vs hne hv
  cases h
  obtain ⟨us,hu,hr⟩:=key _ hv
  refine ⟨_,hu,?_⟩
  rw[dif_neg]
  ·exact .tup us hr.1 hr.2
  ·intro hs
   have hl:vs.length = 1:=by rw[hr.1];simpa using hs
   match vs,hl,hne with
   | [v],_,hne => exact hne v rfl
 ·cases h
theorem argEnv_ok {c:Cx} {asx:List AV} {vs:List Value} (h:Reps c true asx vs) (n:Nat):EnvOk c (argEnv asx) { tmps:=vs.toArray ++ Array.replicate n undef,defers:=[] }:=by
 intro t
 unfold argEnv
 rw[List.getD_eq_getElem?_getD]
 show Rep c true _ ((vs.toArray ++ Array.replicate n undef).getD t undef)
 rw[Array.getD_eq_getD_getElem?,Array.getElem?_append]
 by_cases ht:t < vs.length
 ·rw[if_pos (by simpa using ht)]
  have ht':t < asx.length:=by rw[h.1];exact ht
  rw[List.getElem?_eq_getElem ht',List.getElem?_toArray,List.getElem?_eq_getElem ht]
  exact h.2 t _ _ (List.getElem?_eq_getElem ht') (List.getElem?_eq_getElem ht)
 ·rw[if_neg (by simpa using ht),List.getElem?_eq_none (by have:=h.1;omega)]
  rw[Array.getElem?_replicate]
  split<;>exact Rep.undef0
def Table (P:Program) (num:Nat→Nat) (F:Funs):Prop:=∀ f A,F f = some A→∃ fn,P.funcs[num f]? = some fn∧funB P num fn A = true
theorem callE_ok {P:Program} {num:Nat→Nat} {F:Funs} (hT:Table P num F) (hm:P.follows .mixedOrders = true):∀ k,CallKeep (callE F k)∧CallOk P num (callE F k)
 | 0 => ⟨fun f asx g v g' h => by simp[callE] at h,fun f asx g v g' h => by simp[callE] at h⟩
 | k + 1 => by
   obtain ⟨hk,hcall⟩:=callE_ok hT hm k
   have keep:CallKeep (callE F (k + 1)):=by
    intro f asx g v g' h
    simp only[callE] at h
    split at h
    ·cases h
    ·rename_i fn hF
     split at h
     ·rename_i e1 g1 h1
      have:=codeE_keep hk k _ h1
      cases hr:resE fn.res e1 g1 with
      | none => rw[hr] at h;cases h
      | some x => rw[hr] at h;cases h;exact this
     ·rename_i e1 g1 h1
      have:=codeE_keep hk k _ h1
      cases hr:resE fn.res e1 g1 with
      | none => rw[hr] at h;cases h
      | some x => rw[hr] at h;cases h;exact this
     ·cases h
   refine ⟨keep,fun f asx g v g' h => ⟨keep f asx g v g' h,fun c vargs hn hg K hr => ?_⟩⟩
   simp only[callE] at h
   split at h
   ·cases h
   ·rename_i A hF
    obtain ⟨fn,hfn,hb⟩:=hT f A hF
    simp only[funB,Bool.and_eq_true,Bool.not_eq_true'] at hb
    obtain ⟨⟨hb1,hb2⟩,hb3⟩:=hb
    split at hb1
    ·rename_i cd hbody
     refine ⟨?_,fn,hfn,by rw[hbody];rfl,hb3⟩
     have S:St fn.ntmps c (argEnv asx) g { tmps:=vargs.toArray ++ Array.replicate (fn.ntmps - vargs.toArray.size) undef,defers:=[] }:=
      ⟨argEnv_ok hr _,K,hg,by simp;omega,rfl⟩
     have fin:∀ o e1 g1,(o = .nrm∨o = .ret)→codeE (callE F k) k A.body (argEnv asx) g = some (o,e1,g1)→(resE A.res e1 g1).map (·,g1) = some (v,g')→Calls P (num f) vargs.toArray c.w (fun en w' => ∃ val c',en = .returned val∧c'.w = w'∧Evo c c'∧Ok c' g'.nx∧c'.hp = g'.hp∧Rep c' true v val):=by
      intro o e1 g1 ho h1 h2
      cases hre:resE A.res e1 g1 with
      | none => rw[hre] at h2;cases h2
      | some x =>
        rw[hre] at h2;cases h2
        refine calls_of_wp hfn hbody (code_wp hcall hk hm k A.body hb1 hn S h1 fun c' a' E S' => ?_)
        obtain ⟨u,hu,hru⟩:=res_ok (P:=P) S'.env S'.ok S'.hp hb2 hre
        have:a'.defers = []∧∃ v',(results fn a'.tmps).run P c'.w = .ok v' c'.w∧(fun (en:Ending) (w':World) => ∃ val c'',en = .returned val∧c''.w = w'∧Evo c c''∧Ok c'' g'.nx∧c''.hp = g'.hp∧Rep c'' true v val) (.returned v') c'.w:=
         ⟨S'.defers,u,hu,u,c',rfl,rfl,E,S'.ok,S'.hp,hru⟩
        rcases ho with rfl | rfl
        ·exact this
        ·exact this
     split at h
     ·rename_i e1 g1 h1;exact fin .nrm e1 g1 (.inl rfl) h1 h
     ·rename_i e1 g1 h1;exact fin .ret e1 g1 (.inr rfl) h1 h
     ·cases h
    ·cases hb1
end Go.Ab
end
section
namespace Go.Ab
def A_eco_Inner:AFun:={ res:=[.t 4],body:=(.seq (.reg false [qo 2 (.box (.t 0)),qo 4 (.mv (.c (.nilp)))])
 (.seq (.reg false [qo 5 (.ld (some 8) (.t 2)),qm 6 1,qo 7 (.call .pure (.c (.fn 57 [] [])) [.t 5,.t 6,.c (.fn 58 [] [])]),qm 4 7])
 .ret)) }
def A_eco_Outer:AFun:={ res:=[.t 4],body:=(.seq (.reg false [qo 2 (.box (.t 0)),qo 4 (.mv (.c (.nilp)))])
 (.seq (.reg false [qo 5 (.ld (some 8) (.t 2)),qm 6 1,qo 7 (.call .pure (.c (.fn 57 [] [])) [.t 5,.t 6,.c (.fn 59 [] [])]),qm 4 7])
 .ret)) }
def A_eco_Loc:AFun:={ res:=[.t 2],body:=(.seq (.reg false [qo 1 (.box (.t 0)),qo 2 (.mv (.c (.nilp)))])
 (.seq (.reg true [qo 3 (.ld (some 8) (.t 1)),qo 4 (.ld (some 8) (.t 1)),qo 5 (.call .pure (.c (.fn 60 [] [])) [.t 4]),qo 6 (.call .pure (.c (.fn 57 [] [])) [.t 3,.t 5,.c (.fn 61 [] [])]),qm 2 6])
 .ret)) }
def A_eco_Eco:AFun:={ res:=[.t 2],body:=(.seq (.reg false [qo 1 (.box (.t 0)),qo 2 (.mv (.c (.nilp)))])
 (.seq (.reg true [qo 3 (.ld (some 8) (.t 1)),qo 4 (.call .pure (.c (.fn 48 [] [])) [.t 3]),qo 5 (.ld (some 8) (.t 1)),qo 6 (.call .pure (.c (.fn 49 [] [])) [.t 5]),qo 7 (.call .pure (.c (.fn 24 [] [])) [.t 4,.t 6]),qo 8 (.ld (some 8) (.t 1)),qo 9 (.call .pure (.c (.fn 50 [] [])) [.t 8]),qo 10 (.call .pure (.c (.fn 24 [] [])) [.t 7,.t 9]),qo 11 (.call .pure (.c (.fn 12 [] [])) [.t 10]),qm 2 11])
 .ret)) }
def A_eco_Rf:AFun:={ res:=[.t 2],body:=(.seq (.reg false [qo 1 (.box (.t 0)),qo 2 (.mv (.c (.nilp)))])
 (.seq (.reg false [qo 3 (.ld (some 8) (.t 1)),qo 4 (.call .pure (.c (.fn 80 [] [])) [.t 3,.c (.s ⟨#[114,102]⟩)]),qm 2 4])
 .ret)) }
def A_eco_Co:AFun:={ res:=[.t 2],body:=(.seq (.reg false [qo 1 (.box (.t 0)),qo 2 (.mv (.c (.nilp)))])
 (.seq (.reg false [qo 3 (.ld (some 8) (.t 1)),qo 4 (.call .pure (.c (.fn 80 [] [])) [.t 3,.c (.s ⟨#[99,111]⟩)]),qm 2 4])
 .ret)) }
def A_eco_Fr:AFun:={ res:=[.t 2],body:=(.seq (.reg false [qo 1 (.box (.t 0)),qo 2 (.mv (.c (.nilp)))])
 (.seq (.reg false [qo 3 (.ld (some 8) (.t 1)),qo 4 (.call .pure (.c (.fn 80 [] [])) [.t 3,.c (.s ⟨#[102,114]⟩)]),qm 2 4])
 .ret)) }
def A_eco_some:AFun:={ res:=[.t 6],body:=(.seq (.reg false [qo 3 (.box (.t 0)),qo 6 (.mv (.c (.nilp)))])
 (.seq (.reg false [qo 7 (.mv (.c (.sl [] 0 .rig)))])
 (.seq (.seq (.reg false [qm 10 1,qo 11 (.call .pure (.c (.fn 15 [] [])) [.t 10]),qo 12 (.len (.t 11)),qo 13 (.mv (.c (.i .i64 0)))])
 (.blk 0 (.loop (.seq (.reg false [qo 14 (.bin .lss (.t 13) (.t 12))])
 (.seq (.cond (.t 14) .skip
 (.ext 0))
 (.seq (.blk 1 (.seq (.reg false [qo 15 (.ia 2 (.t 11) (.t 13)),qo 16 (.ld (some 2) (.t 15)),qo 9 (.new ([.i .i64 0,.i .i64 0])),qn (.st 2 (.t 9) (.t 16))])
 (.seq (.reg true [qo 17 (.fa 0 (.t 9)),qo 18 (.ld none (.t 17)),qo 19 (.fa 1 (.t 3)),qo 20 (.ld none (.t 19)),qo 21 (.len (.t 20)),qo 22 (.bin .lss (.t 18) (.t 21)),qm 23 22,qg 24 (.fa 1 (.t 9)) 23 true,qg 25 (.ld none (.t 24)) 23 true,qg 26 (.fa 1 (.t 3)) 23 true,qg 27 (.ld none (.t 26)) 23 true,qg 28 (.len (.t 27)) 23 true,qg 29 (.bin .lss (.t 25) (.t 28)) 23 true,qo 30 (.pick (.t 23) (.t 29) (.c (.b false))),qm 31 30,qg 32 (.mv (.t 2)) 31 true,qg 33 (.fa 1 (.t 3)) 31 true,qg 34 (.ld none (.t 33)) 31 true,qg 35 (.fa 0 (.t 9)) 31 true,qg 36 (.ld none (.t 35)) 31 true,qg 37 (.ia 6 (.t 34) (.t 36)) 31 true,qg 38 (.ld (some 6) (.t 37)) 31 true,qg 39 (.fa 1 (.t 3)) 31 true,qg 40 (.ld none (.t 39)) 31 true,qg 41 (.fa 1 (.t 9)) 31 true,qg 42 (.ld none (.t 41)) 31 true,qg 43 (.ia 6 (.t 40) (.t 42)) 31 true,qg 44 (.ld (some 6) (.t 43)) 31 true,qg 45 (.call .pure (.t 32) [.t 38,.t 44]) 31 true,qo 46 (.pick (.t 31) (.t 45) (.c (.b false)))])
 (.cond (.t 46) (.reg false [qm 47 7,qo 48 (.ld (some 2) (.t 9)),qo 49 (.bsl true 1 ([.i .i64 0,.i .i64 0]) [(0,2,.t 48)]),qo 50 (.app 2 16 (.t 47) (.t 49)),qm 7 50])
 .skip))))
 (.reg false [qo 51 (.bin .add (.t 13) (.c (.i .i64 1))),qm 13 51])))))))
 (.seq (.reg false [qo 52 (.ld (some 8) (.t 3)),qm 53 7,qo 54 (.call .pure (.c (.fn 81 [] [])) [.t 52,.t 53]),qm 6 54])
 .ret)))) }
def A_eco_Inner_1:AFun:={ res:=[.t 4],body:=(.seq (.reg false [qo 2 (.box (.t 0)),qo 3 (.box (.t 1)),qo 4 (.mv (.c (.b false)))])
 (.seq (.reg false [qo 5 (.fa 0 (.t 2)),qo 6 (.ld none (.t 5)),qo 7 (.fa 0 (.t 3)),qo 8 (.ld none (.t 7)),qo 9 (.bin .eql (.t 6) (.t 8)),qm 4 9])
 .ret)) }
def A_eco_Outer_1:AFun:={ res:=[.t 4],body:=(.seq (.reg false [qo 2 (.box (.t 0)),qo 3 (.box (.t 1)),qo 4 (.mv (.c (.b false)))])
 (.seq (.reg false [qo 5 (.fa 0 (.t 2)),qo 6 (.ld none (.t 5)),qo 7 (.fa 0 (.t 3)),qo 8 (.ld none (.t 7)),qo 9 (.bin .neq (.t 6) (.t 8)),qm 4 9])
 .ret)) }
def A_eco_Loc_1:AFun:={ res:=[.t 4],body:=(.seq (.reg false [qo 2 (.box (.t 0)),qo 3 (.box (.t 1)),qo 4 (.mv (.c (.b false)))])
 (.seq (.reg false [qo 5 (.fa 1 (.t 2)),qo 6 (.ld none (.t 5)),qo 7 (.bin .neq (.t 6) (.c (.i .i64 3))),qm 8 7,qg 9 (.fa 1 (.t 3)) 8 true,qg 10 (.ld none (.t 9)) 8 true,qg 11 (.bin .neq (.t 10) (.c (.i .i64 3))) 8 true,qo 12 (.pick (.t 8) (.t 11) (.c (.b false))),qm 13 12,qg 14 (.fa 3 (.t 2)) 13 true,qg 15 (.ld none (.t 14)) 13 true,qg 16 (.fa 3 (.t 3)) 13 true,qg 17 (.ld none (.t 16)) 13 true,qg 18 (.bin .eql (.t 15) (.t 17)) 13 true,qo 19 (.pick (.t 13) (.t 18) (.c (.b false))),qm 4 19])
 .ret)) }
def A_eco_pairs:AFun:={ res:=[.t 4],body:=(.seq (.reg false [qo 2 (.box (.t 0)),qo 4 (.mv (.c (.nilp)))])
 (.seq (.reg false [qo 5 (.new ([.sl [] 0 .rig]))])
 (.seq (.reg false [qo 12 (.mkfn 92 [] [.t 5]),qo 6 (.new ([.nilf])),qn (.st 1 (.t 6) (.t 12))])
 (.seq (.reg false [qo 13 (.mkfn 93 [] [.t 2,.t 6]),qo 7 (.new ([.nilf])),qn (.st 1 (.t 7) (.t 13))])
 (.seq (.reg false [qo 14 (.mkmap),qo 15 (.mkfn 94 [] [.t 6]),qn (.mput (.t 14) (.c (.s ⟨#[114,102]⟩)) (.t 15)),qo 16 (.mkfn 95 [] [.t 7]),qn (.mput (.t 14) (.c (.s ⟨#[99,111]⟩)) (.t 16)),qo 17 (.mkfn 96 [] [.t 7]),qn (.mput (.t 14) (.c (.s ⟨#[102,114]⟩)) (.t 17)),qm 18 14,qm 8 18])
 (.seq (.seq (.reg false [qo 19 (.fa 1 (.t 2)),qo 20 (.ld none (.t 19)),qo 21 (.len (.t 20)),qo 22 (.mv (.c (.i .i64 0)))])
 (.blk 0 (.loop (.seq (.reg false [qo 23 (.bin .lss (.t 22) (.t 21))])
 (.seq (.cond (.t 23) .skip
 (.ext 0))
 (.seq (.blk 1 (.seq (.reg false [qm 24 22,qo 25 (.ia 6 (.t 20) (.t 22)),qo 26 (.ld (some 6) (.t 25)),qo 10 (.new (List.replicate 5 (.i .i64 0) ++ [.b false])),qm 9 24,qn (.st 6 (.t 10) (.t 26))])
 (.seq (.reg false [qo 11 (.mv (.c (.i .i64 (-1))))])
 (.seq (.seq (.reg false [qm 27 9,qo 28 (.fa 2 (.t 2)),qo 29 (.ld none (.t 28)),qo 30 (.len (.t 29)),qo 31 (.bin .lss (.t 27) (.t 30))])
 (.cond (.t 31) (.reg false [qo 32 (.fa 2 (.t 2)),qo 33 (.ld none (.t 32)),qm 34 9,qo 35 (.ia 1 (.t 33) (.t 34)),qo 36 (.ld none (.t 35)),qm 11 36])
 .skip))
 (.reg false [qm 37 8,qm 38 1,qo 39 (.mget (.t 37) (.t 38)),qm 40 9,qm 41 11,qo 42 (.ld (some 6) (.t 10)),qo 43 (.call .raw (.t 39) [.t 40,.t 41,.t 42])])))))
 (.reg false [qo 44 (.bin .add (.t 22) (.c (.i .i64 1))),qm 22 44])))))))
 (.seq (.reg false [qo 45 (.ld (some 8) (.t 2)),qo 46 (.ld none (.t 5)),qo 47 (.call .pure (.c (.fn 81 [] [])) [.t 45,.t 46]),qm 4 47])
 .ret))))))) }
def A_eco_pairs_1:AFun:={ res:=[],body:=(.reg false [qo 5 (.ld none (.t 2)),qm 6 0,qm 7 1,qo 8 (.build ([.i .i64 0,.i .i64 0]) [(0,1,.t 6),(1,1,.t 7)]),qo 9 (.bsl true 1 ([.i .i64 0,.i .i64 0]) [(0,2,.t 8)]),qo 10 (.app 2 16 (.t 5) (.t 9)),qn (.st 1 (.t 2) (.t 10))]) }
def A_eco_pairs_2:AFun:={ res:=[],body:=(.seq (.reg false [qo 11 (.fa 3 (.t 2)),qo 12 (.ld none (.t 11)),qo 13 (.len (.t 12)),qo 14 (.mv (.c (.i .i64 0)))])
 (.blk 0 (.loop (.seq (.reg false [qo 15 (.bin .lss (.t 14) (.t 13))])
 (.seq (.cond (.t 15) .skip
 (.ext 0))
 (.seq (.blk 1 (.seq (.reg false [qo 16 (.ia 1 (.t 12) (.t 14)),qo 17 (.ld none (.t 16)),qm 7 17])
 (.seq (.reg false [qo 8 (.mv (.c (.b false)))])
 (.seq (.reg false [qm 18 7,qo 19 (.len (.t 18)),qo 20 (.mv (.c (.i .i64 0)))])
 (.blk 2 (.loop (.seq (.reg false [qo 21 (.bin .lss (.t 20) (.t 19))])
 (.seq (.cond (.t 21) .skip
 (.ext 2))
 (.seq (.blk 3 (.seq (.reg false [qo 22 (.ia 1 (.t 18) (.t 20)),qo 23 (.ld none (.t 22)),qm 10 23])
 (.seq (.seq (.reg false [qm 24 8])
 (.cond (.t 24) (.reg false [qo 25 (.ld none (.t 3)),qm 26 0,qm 27 10,qo 28 (.call .raw (.t 25) [.t 26,.t 27])])
 .skip))
 (.reg false [qm 29 8,qm 30 29,qg 31 (.mv (.t 10)) 30 false,qg 32 (.mv (.t 1)) 30 false,qg 33 (.bin .eql (.t 31) (.t 32)) 30 false,qo 34 (.pick (.t 30) (.c (.b true)) (.t 33)),qm 8 34]))))
 (.reg false [qo 35 (.bin .add (.t 20) (.c (.i .i64 1))),qm 20 35]))))))))))
 (.reg false [qo 36 (.bin .add (.t 14) (.c (.i .i64 1))),qm 14 36]))))))) }
def A_eco_pairs_3:AFun:={ res:=[],body:=(.seq (.reg false [qo 6 (.box (.t 2))])
 (.seq (.reg false [qo 7 (.fa 1 (.t 6)),qo 8 (.ld none (.t 7)),qo 9 (.bin .eql (.t 8) (.c (.i .i64 1)))])
 (.cond (.t 9) (.reg false [qo 10 (.ld none (.t 3)),qm 11 1,qm 12 0,qo 13 (.call .raw (.t 10) [.t 11,.t 12])])
 .skip))) }
def A_eco_pairs_4:AFun:={ res:=[],body:=(.seq (.reg false [qo 6 (.box (.t 2))])
 (.seq (.reg false [qo 7 (.fa 1 (.t 6)),qo 8 (.ld none (.t 7)),qo 9 (.bin .eql (.t 8) (.c (.i .i64 2)))])
 (.cond (.t 9) (.reg false [qo 10 (.ld none (.t 3)),qm 11 0,qm 12 0,qo 13 (.call .raw (.t 10) [.t 11,.t 12])])
 .skip))) }
def A_eco_pairs_5:AFun:={ res:=[],body:=(.seq (.reg false [qo 6 (.box (.t 2))])
 (.seq (.reg false [qo 7 (.fa 1 (.t 6)),qo 8 (.ld none (.t 7)),qo 9 (.bin .eql (.t 8) (.c (.i .i64 1)))])
 (.cond (.t 9) (.reg false [qo 10 (.ld none (.t 3)),qm 11 0,qm 12 1,qo 13 (.call .raw (.t 10) [.t 11,.t 12])])
 .skip))) }
structure Pk_eco (F:Funs):Prop where
 eco_Inner:F 39 = some A_eco_Inner
 eco_Outer:F 40 = some A_eco_Outer
 eco_Loc:F 41 = some A_eco_Loc
 eco_Eco:F 42 = some A_eco_Eco
 eco_Rf:F 48 = some A_eco_Rf
 eco_Co:F 49 = some A_eco_Co
 eco_Fr:F 50 = some A_eco_Fr
 eco_some:F 57 = some A_eco_some
 eco_Inner_1:F 58 = some A_eco_Inner_1
 eco_Outer_1:F 59 = some A_eco_Outer_1
 eco_Loc_1:F 61 = some A_eco_Loc_1
 eco_pairs:F 80 = some A_eco_pairs
 eco_pairs_1:F 92 = some A_eco_pairs_1
 eco_pairs_2:F 93 = some A_eco_pairs_2
 eco_pairs_3:F 94 = some A_eco_pairs_3
 eco_pairs_4:F 95 = some A_eco_pairs_4
 eco_pairs_5:F 96 = some A_eco_pairs_5
end Go.Ab
end
section
namespace Go.Ab
def A_xlaw00_Place:AFun:={ res:=[.t 4],body:=(.seq (.reg false [qo 4 (.mv (.c (.i .i64 0)))])
 (.seq (.reg false [qm 6 0,qm 7 1,qo 8 (.bin .rem (.t 6) (.t 7)),qm 5 8])
 (.seq (.seq (.reg false [qm 9 5,qo 10 (.bin .lss (.t 9) (.c (.i .i64 0)))])
 (.cond (.t 10) (.reg false [qm 11 5,qm 12 1,qo 13 (.bin .add (.t 11) (.t 12)),qm 5 13])
 .skip))
 (.seq (.reg false [qm 14 5,qm 4 14])
 .ret)))) }
def A_xlaw00_Small:AFun:={ res:=[.cell 2 (some 2)],body:=(.seq (.reg false [qo 2 (.new ([.i .i64 0,.sl [] 0 .rig]))])
 (.seq (.seq (.reg false [qm 3 0,qo 4 (.len (.t 3)),qo 5 (.bin .gtr (.t 4) (.c (.i .i64 0))),qm 6 5,qg 7 (.mv (.t 0)) 6 true,qg 8 (.ia 1 (.t 7) (.c (.i .i64 0))) 6 true,qg 9 (.ld none (.t 8)) 6 true,qg 10 (.call .pure (.c (.fn 10 [] [])) [.t 9,.c (.i .i64 4)]) 6 true,qg 11 (.bin .eql (.t 10) (.c (.i .i64 0))) 6 true,qo 12 (.pick (.t 6) (.t 11) (.c (.b false)))])
 (.cond (.t 12) (.seq (.reg false [qm 13 0,qo 14 (.call .pure (.c (.fn 86 [] [])) [.t 13,.c (.i .i64 3),.c (.i .i64 2)]),qn (.st 2 (.t 2) (.t 14))])
 .ret)
 .skip))
 (.seq (.reg false [qm 15 0,qo 16 (.call .pure (.c (.fn 86 [] [])) [.t 15,.c (.i .i64 2),.c (.i .i64 3)]),qn (.st 2 (.t 2) (.t 16))])
 .ret))) }
def A_xlaw00_Loads:AFun:={ res:=[.t 2],body:=(.seq (.reg false [qo 1 (.box (.t 0)),qo 2 (.mv (.c (.i .i64 0)))])
 (.seq (.reg false [qo 3 (.mv (.c (.i .i64 0)))])
 (.seq (.seq (.reg false [qo 4 (.mv (.c (.i .i64 0)))])
 (.blk 0 (.loop (.seq (.seq (.reg false [qm 7 4,qo 8 (.fa 1 (.t 1)),qo 9 (.ld none (.t 8)),qo 10 (.len (.t 9)),qo 11 (.bin .lss (.t 7) (.t 10))])
 (.cond (.t 11) .skip
 (.ext 0)))
 (.seq (.blk 1 (.seq (.reg false [qo 5 (.mv (.c (.i .i64 0)))])
 (.blk 2 (.loop (.seq (.seq (.reg false [qm 14 5,qo 15 (.fa 1 (.t 1)),qo 16 (.ld none (.t 15)),qm 17 4,qo 18 (.ia 1 (.t 16) (.t 17)),qo 19 (.ld none (.t 18)),qo 20 (.len (.t 19)),qo 21 (.bin .lss (.t 14) (.t 20))])
 (.cond (.t 21) .skip
 (.ext 2)))
 (.seq (.blk 3 (.seq (.reg false [qo 24 (.fa 1 (.t 1)),qo 25 (.ld none (.t 24)),qm 26 4,qo 27 (.ia 1 (.t 25) (.t 26)),qo 28 (.ld none (.t 27)),qm 29 5,qo 30 (.ia 7 (.t 28) (.t 29)),qo 31 (.ld (some 7) (.t 30)),qo 6 (.new (List.replicate 5 (.i .i64 0) ++ [.sl [] 0 .rig,.i .i64 0])),qn (.st 7 (.t 6) (.t 31))])
 (.seq (.reg false [qo 32 (.fa 0 (.t 6)),qo 33 (.ld none (.t 32)),qo 34 (.bin .eql (.t 33) (.c (.i .i64 1))),qm 35 34,qg 36 (.fa 0 (.t 6)) 35 false,qg 37 (.ld none (.t 36)) 35 false,qg 38 (.bin .eql (.t 37) (.c (.i .i64 4))) 35 false,qo 39 (.pick (.t 35) (.c (.b true)) (.t 38))])
 (.cond (.t 39) (.reg false [qm 40 3,qo 41 (.bin .add (.t 40) (.c (.i .i64 1))),qm 3 41])
 .skip))))
 (.reg false [qm 22 5,qo 23 (.bin .add (.t 22) (.c (.i .i64 1))),qm 5 23])))))))
 (.reg false [qm 12 4,qo 13 (.bin .add (.t 12) (.c (.i .i64 1))),qm 4 13]))))))
 (.seq (.reg false [qm 42 3,qm 2 42])
 .ret)))) }
def A_xlaw00_Domain:AFun:={ res:=[.t 0],body:=(.seq (.reg false [qo 0 (.mv (.c (.sl [] 0 .rig)))])
 (.seq (.reg false [qo 1 (.bsl true 3 ([.i .i64 0,.i .i64 0,.i .i64 0]) [(0,1,.c (.i .i64 0)),(1,1,.c (.i .i64 1)),(2,1,.c (.i .i64 2))]),qm 0 1])
 .ret)) }
def A_xlaw00_Prog:AFun:={ res:=[.cell 6 (some 2)],body:=(.seq (.reg false [qo 6 (.new ([.i .i64 0,.sl [] 0 .rig]))])
 (.seq (.reg false [qm 14 1,qo 15 (.mksl ([.sl [] 0 .rig]) 1 24 (.t 14) (.t 14)),qo 16 (.build ([.i .i64 0,.sl [] 0 .rig]) [(0,1,.c (.i .i64 2)),(1,1,.t 15)]),qo 7 (.new ([.i .i64 0,.sl [] 0 .rig])),qn (.st 2 (.t 7) (.t 16))])
 (.seq (.seq (.reg false [qo 8 (.mv (.c (.i .i64 0)))])
 (.blk 0 (.loop (.seq (.seq (.reg false [qm 17 8,qm 18 1,qo 19 (.bin .lss (.t 17) (.t 18))])
 (.cond (.t 19) .skip
 (.ext 0)))
 (.seq (.blk 1 (.seq (.reg false [qo 9 (.mv (.c (.i .i64 0))),qo 10 (.mv (.c (.i .i64 0)))])
 (.seq (.seq (.reg false [qm 22 8,qm 11 22])
 (.blk 2 (.loop (.seq (.seq (.reg false [qm 23 11,qm 24 0,qo 25 (.len (.t 24)),qo 26 (.bin .lss (.t 23) (.t 25)),qm 27 26,qg 28 (.mv (.t 9)) 27 true,qg 29 (.mv (.t 2)) 27 true,qg 30 (.bin .lss (.t 28) (.t 29)) 27 true,qo 31 (.pick (.t 27) (.t 30) (.c (.b false)))])
 (.cond (.t 31) .skip
 (.ext 2)))
 (.seq (.blk 3 (.reg false [qm 35 9,qo 36 (.bin .add (.t 35) (.c (.i .i64 1))),qm 9 36]))
 (.reg false [qm 32 11,qm 33 1,qo 34 (.bin .add (.t 32) (.t 33)),qm 11 34]))))))
 (.seq (.reg false [qo 12 (.mv (.c (.i .i64 0)))])
 (.blk 4 (.loop (.seq (.seq (.reg false [qm 37 12,qm 38 9,qo 39 (.bin .lss (.t 37) (.t 38))])
 (.cond (.t 39) .skip
 (.ext 4)))
 (.seq (.blk 5 (.seq (.reg true [qm 42 0,qm 43 8,qm 44 12,qm 45 1,qo 46 (.bin .mul (.t 44) (.t 45)),qo 47 (.bin .add (.t 43) (.t 46)),qo 48 (.ia 1 (.t 42) (.t 47)),qo 49 (.ld none (.t 48)),qo 50 (.fa 0 (.t 7)),qo 51 (.ld none (.t 50)),qm 52 9,qo 53 (.bin .sub (.t 52) (.c (.i .i64 1))),qm 54 12,qo 55 (.bin .sub (.t 53) (.t 54)),qo 56 (.call .pure (.c (.fn 97 [] [])) [.t 49,.t 51,.t 55]),qo 13 (.new (List.replicate 5 (.i .i64 0) ++ [.sl [] 0 .rig,.i .i64 0])),qnp (.stL 7 (.t 13) (.t 56)) [15]])
 (.seq (.seq (.reg false [qo 57 (.fa 0 (.t 13)),qo 58 (.ld none (.t 57)),qo 59 (.bin .eql (.t 58) (.c (.i .i64 6)))])
 (.cond (.t 59) (.seq (.reg false [qm 60 10,qo 61 (.bin .add (.t 60) (.c (.i .i64 1))),qm 10 61])
 (.seq (.reg false [qm 62 10,qo 63 (.bin .gtr (.t 62) (.c (.i .i64 2)))])
 (.cond (.t 63) (.reg false [qo 64 (.build (List.replicate 5 (.i .i64 0) ++ [.sl [] 0 .rig,.i .i64 0]) [(0,1,.c (.i .i64 3)),(1,1,.c (.i .i64 4))]),qn (.st 7 (.t 13) (.t 64))])
 .skip)))
 .skip))
 (.reg true [qo 65 (.fa 1 (.t 7)),qo 66 (.ld none (.t 65)),qm 67 8,qo 68 (.fa 1 (.t 7)),qo 69 (.ld none (.t 68)),qm 70 8,qo 71 (.ia 1 (.t 69) (.t 70)),qo 72 (.ld none (.t 71)),qo 73 (.ld (some 7) (.t 13)),qo 74 (.bsl true 1 (List.replicate 5 (.i .i64 0) ++ [.sl [] 0 .rig,.i .i64 0]) [(0,7,.t 73)]),qo 75 (.app 7 72 (.t 72) (.t 74)),qo 76 (.ia 1 (.t 66) (.t 67)),qnp (.st 1 (.t 76) (.t 75)) [10]]))))
 (.reg false [qm 40 12,qo 41 (.bin .add (.t 40) (.c (.i .i64 1))),qm 12 41])))))))))
 (.reg false [qm 20 8,qo 21 (.bin .add (.t 20) (.c (.i .i64 1))),qm 8 21]))))))
 (.seq (.reg false [qo 77 (.ld (some 2) (.t 7)),qn (.st 2 (.t 6) (.t 77))])
 .ret)))) }
def A_xlaw00_Instr:AFun:={ res:=[.cell 6 (some 7)],body:=(.seq (.reg false [qo 6 (.new (List.replicate 5 (.i .i64 0) ++ [.sl [] 0 .rig,.i .i64 0]))])
 (.seq (.reg false [qm 15 0,qo 16 (.call .pure (.c (.fn 10 [] [])) [.t 15,.c (.i .i64 1099511627776)]),qm 7 16])
 (.seq (.reg false [qm 17 7,qo 18 (.bin .quo (.t 17) (.c (.i .i64 20))),qm 8 18])
 (.seq (.reg true [qm 19 8,qo 20 (.bin .rem (.t 19) (.c (.i .i64 3))),qm 21 8,qo 22 (.bin .quo (.t 21) (.c (.i .i64 3))),qm 23 1,qo 24 (.bin .rem (.t 22) (.t 23)),qm 25 8,qo 26 (.bin .quo (.t 25) (.c (.i .i64 12))),qo 27 (.call .pure (.c (.fn 107 [] [])) [.t 26]),qm 9 20,qm 10 24,qm 11 27])
 (.seq (.reg true [qo 28 (.build ([.i .i64 0,.i .i64 0,.i .i64 0]) [(0,1,.c (.i .i64 0)),(1,1,.c (.i .i64 0)),(2,1,.c (.i .i64 1))]),qm 29 8,qo 30 (.bin .quo (.t 29) (.c (.i .i64 7))),qo 31 (.bin .rem (.t 30) (.c (.i .i64 3))),qo 32 (.idx 3 1 none (.t 28) (.t 31)),qo 33 (.build ([.i .i64 0,.i .i64 0,.i .i64 0]) [(0,1,.c (.i .i64 0)),(1,1,.c (.i .i64 0)),(2,1,.c (.i .i64 2))]),qm 34 8,qo 35 (.bin .quo (.t 34) (.c (.i .i64 11))),qo 36 (.bin .rem (.t 35) (.c (.i .i64 3))),qo 37 (.idx 3 1 none (.t 33) (.t 36)),qm 12 32,qm 13 37])
 (.seq (.seq (.reg false [qm 38 7,qo 39 (.bin .rem (.t 38) (.c (.i .i64 20))),qm 14 39])
 (.blk 0 (.seq (.reg false [qm 41 14,qo 42 (.bin .lss (.t 41) (.c (.i .i64 6))),qm 40 42])
 (.cond (.t 40) (.seq (.reg false [qm 43 9,qm 44 10,qm 45 12,qo 46 (.build (List.replicate 5 (.i .i64 0) ++ [.sl [] 0 .rig,.i .i64 0]) [(0,1,.c (.i .i64 1)),(3,1,.t 43),(4,1,.t 44),(1,1,.t 45)]),qn (.st 7 (.t 6) (.t 46))])
 .ret)
 (.seq (.reg false [qm 48 14,qo 49 (.bin .lss (.t 48) (.c (.i .i64 12))),qm 47 49])
 (.cond (.t 47) (.seq (.reg false [qm 50 10,qm 51 13,qm 52 11,qo 53 (.build (List.replicate 5 (.i .i64 0) ++ [.sl [] 0 .rig,.i .i64 0]) [(0,1,.c (.i .i64 2)),(4,1,.t 50),(1,1,.t 51),(5,1,.t 52)]),qn (.st 7 (.t 6) (.t 53))])
 .ret)
 (.seq (.reg false [qm 55 14,qo 56 (.bin .lss (.t 55) (.c (.i .i64 15))),qm 54 56])
 (.cond (.t 54) (.seq (.reg false [qm 57 8,qo 58 (.bin .quo (.t 57) (.c (.i .i64 5))),qo 59 (.bin .rem (.t 58) (.c (.i .i64 4))),qo 60 (.bin .add (.c (.i .i64 1)) (.t 59)),qo 61 (.build (List.replicate 5 (.i .i64 0) ++ [.sl [] 0 .rig,.i .i64 0]) [(0,1,.c (.i .i64 3)),(1,1,.t 60)]),qn (.st 7 (.t 6) (.t 61))])
 .ret)
 (.seq (.reg false [qm 63 14,qo 64 (.bin .lss (.t 63) (.c (.i .i64 16))),qm 62 64])
 (.cond (.t 62) (.seq (.reg false [qm 65 9,qm 66 10,qm 67 12,qm 68 13,qm 69 8,qo 70 (.bin .quo (.t 69) (.c (.i .i64 17))),qo 71 (.bin .rem (.t 70) (.c (.i .i64 2))),qo 72 (.call .pure (.c (.fn 108 [] [])) [.t 71]),qo 73 (.bsl true 1 ([.i .i64 0,.i .i64 0]) [(0,2,.t 72)]),qo 74 (.build (List.replicate 5 (.i .i64 0) ++ [.sl [] 0 .rig,.i .i64 0]) [(0,1,.c (.i .i64 4)),(3,1,.t 65),(4,1,.t 66),(1,1,.t 67),(2,1,.t 68),(5,1,.t 73)]),qn (.st 7 (.t 6) (.t 74))])
 .ret)
 (.seq (.reg false [qm 76 14,qo 77 (.bin .lss (.t 76) (.c (.i .i64 18))),qm 75 77])
 (.cond (.t 75) (.seq (.reg false [qm 78 9,qm 79 11,qo 80 (.build (List.replicate 5 (.i .i64 0) ++ [.sl [] 0 .rig,.i .i64 0]) [(0,1,.c (.i .i64 5)),(3,1,.t 78),(5,1,.t 79)]),qn (.st 7 (.t 6) (.t 80))])
 .ret)
 .skip))))))))))))
 (.seq (.reg false [qm 81 8,qo 82 (.bin .quo (.t 81) (.c (.i .i64 19))),qm 83 2,qo 84 (.bin .add (.t 83) (.c (.i .i64 1))),qo 85 (.bin .rem (.t 82) (.t 84)),qm 86 11,qo 87 (.build (List.replicate 5 (.i .i64 0) ++ [.sl [] 0 .rig,.i .i64 0]) [(0,1,.c (.i .i64 6)),(6,1,.t 85),(5,1,.t 86)]),qn (.st 7 (.t 6) (.t 87))])
 .ret))))))) }
def A_xlaw00_Expr:AFun:={ res:=[.t 2],body:=(.seq (.reg false [qo 2 (.mv (.c (.sl [] 0 .rig)))])
 (.seq (.reg false [qm 6 0,qo 7 (.call .pure (.c (.fn 10 [] [])) [.t 6,.c (.i .i64 1073741824)]),qm 3 7])
 (.seq (.reg false [qm 8 3,qo 9 (.bin .quo (.t 8) (.c (.i .i64 10))),qo 10 (.bin .rem (.t 9) (.c (.i .i64 3))),qo 11 (.call .pure (.c (.fn 123 [] [])) [.t 10]),qm 12 3,qo 13 (.bin .quo (.t 12) (.c (.i .i64 30))),qo 14 (.bin .rem (.t 13) (.c (.i .i64 3))),qo 15 (.call .pure (.c (.fn 108 [] [])) [.t 14]),qo 4 (.new ([.i .i64 0,.i .i64 0])),qo 5 (.new ([.i .i64 0,.i .i64 0])),qn (.st 2 (.t 4) (.t 11)),qn (.st 2 (.t 5) (.t 15))])
 (.seq (.seq (.reg false [qm 16 3,qo 17 (.bin .rem (.t 16) (.c (.i .i64 10)))])
 (.blk 0 (.seq (.seq (.reg false [qo 19 (.bin .eql (.t 17) (.c (.i .i64 0))),qm 18 19])
 (.cond (.t 18) .skip
 (.seq (.reg false [qo 20 (.bin .eql (.t 17) (.c (.i .i64 1))),qm 18 20])
 (.cond (.t 18) .skip
 (.reg false [qo 21 (.bin .eql (.t 17) (.c (.i .i64 2))),qm 18 21])))))
 (.cond (.t 18) (.seq (.reg false [qo 22 (.ld (some 2) (.t 5)),qo 23 (.bsl true 1 ([.i .i64 0,.i .i64 0]) [(0,2,.t 22)]),qm 2 23])
 .ret)
 (.seq (.seq (.reg false [qo 25 (.bin .eql (.t 17) (.c (.i .i64 3))),qm 24 25])
 (.cond (.t 24) .skip
 (.seq (.reg false [qo 26 (.bin .eql (.t 17) (.c (.i .i64 4))),qm 24 26])
 (.cond (.t 24) .skip
 (.reg false [qo 27 (.bin .eql (.t 17) (.c (.i .i64 5))),qm 24 27])))))
 (.cond (.t 24) (.seq (.reg false [qo 28 (.ld (some 2) (.t 4)),qo 29 (.bsl true 1 ([.i .i64 0,.i .i64 0]) [(0,2,.t 28)]),qm 2 29])
 .ret)
 (.seq (.reg false [qo 31 (.bin .eql (.t 17) (.c (.i .i64 6))),qm 30 31])
 (.cond (.t 30) (.seq (.reg true [qo 32 (.ld (some 2) (.t 4)),qo 33 (.ld (some 2) (.t 4)),qo 34 (.call .pure (.c (.fn 124 [] [])) [.c (.i .i64 4)]),qo 35 (.bsl true 3 (List.replicate 6 (.i .i64 0)) [(0,2,.t 32),(2,2,.t 33),(4,2,.t 34)]),qm 2 35])
 .ret)
 (.seq (.reg false [qo 37 (.bin .eql (.t 17) (.c (.i .i64 7))),qm 36 37])
 (.cond (.t 36) (.seq (.reg true [qo 38 (.ld (some 2) (.t 4)),qo 39 (.ld (some 2) (.t 5)),qo 40 (.call .pure (.c (.fn 124 [] [])) [.c (.i .i64 5)]),qo 41 (.bsl true 3 (List.replicate 6 (.i .i64 0)) [(0,2,.t 38),(2,2,.t 39),(4,2,.t 40)]),qm 2 41])
 .ret)
 (.seq (.reg false [qo 43 (.bin .eql (.t 17) (.c (.i .i64 8))),qm 42 43])
 (.cond (.t 42) (.seq (.reg true [qo 44 (.ld (some 2) (.t 4)),qo 45 (.ld (some 2) (.t 5)),qo 46 (.call .pure (.c (.fn 124 [] [])) [.c (.i .i64 6)]),qo 47 (.bsl true 3 (List.replicate 6 (.i .i64 0)) [(0,2,.t 44),(2,2,.t 45),(4,2,.t 46)]),qm 2 47])
 .ret)
 .skip))))))))))))
 (.seq (.reg true [qo 48 (.ld (some 2) (.t 5)),qo 49 (.call .pure (.c (.fn 108 [] [])) [.c (.i .i64 1)]),qo 50 (.call .pure (.c (.fn 124 [] [])) [.c (.i .i64 3)]),qo 51 (.bsl true 3 (List.replicate 6 (.i .i64 0)) [(0,2,.t 48),(2,2,.t 49),(4,2,.t 50)]),qm 2 51])
 .ret))))) }
def A_xlaw00_num:AFun:={ res:=[.cell 2 (some 2)],body:=(.seq (.reg false [qo 2 (.new ([.i .i64 0,.i .i64 0]))])
 (.seq (.reg false [qm 3 0,qo 4 (.build ([.i .i64 0,.i .i64 0]) [(0,1,.c (.i .i64 1)),(1,1,.t 3)]),qn (.st 2 (.t 2) (.t 4))])
 .ret)) }
def A_xlaw00_reg:AFun:={ res:=[.cell 2 (some 2)],body:=(.seq (.reg false [qo 2 (.new ([.i .i64 0,.i .i64 0]))])
 (.seq (.reg false [qm 3 0,qo 4 (.build ([.i .i64 0,.i .i64 0]) [(0,1,.c (.i .i64 2)),(1,1,.t 3)]),qn (.st 2 (.t 2) (.t 4))])
 .ret)) }
def A_xlaw00_op:AFun:={ res:=[.cell 2 (some 2)],body:=(.seq (.reg false [qo 2 (.new ([.i .i64 0,.i .i64 0]))])
 (.seq (.reg false [qm 3 0,qo 4 (.build ([.i .i64 0,.i .i64 0]) [(0,1,.c (.i .i64 3)),(1,1,.t 3)]),qn (.st 2 (.t 2) (.t 4))])
 .ret)) }
end Go.Ab
end
section
namespace Go.Ab
def A_xlaw11_awake:AFun:={ res:=[.t 0],body:=(.seq (.reg false [qo 0 (.mv (.c (.b false)))])
 (.seq (.reg false [qo 1 (.call .pure (.c (.fn 212 [] [])) [.c (.b true)]),qo 2 (.call .pure (.c (.fn 207 [] [])) [.t 1]),qo 3 (.call .pure (.c (.fn 13 [] [])) [.t 2,.c (.i .i64 2),.c (.i .i64 3)]),qm 4 3,qg 5 (.call .pure (.c (.fn 212 [] [])) [.c (.b true)]) 4 true,qg 6 (.call .pure (.c (.fn 156 [] [])) [.t 5]) 4 true,qg 7 (.call .pure (.c (.fn 13 [] [])) [.t 6,.c (.i .i64 2),.c (.i .i64 3)]) 4 true,qo 8 (.pick (.t 4) (.t 7) (.c (.b false))),qm 9 8,qg 10 (.call .pure (.c (.fn 212 [] [])) [.c (.b false)]) 9 true,qg 11 (.call .pure (.c (.fn 156 [] [])) [.t 10]) 9 true,qg 12 (.call .pure (.c (.fn 13 [] [])) [.t 11,.c (.i .i64 2),.c (.i .i64 3)]) 9 true,qg 13 (.un .not (.t 12)) 9 true,qo 14 (.pick (.t 9) (.t 13) (.c (.b false))),qm 15 14,qg 16 (.call .pure (.c (.fn 212 [] [])) [.c (.b true)]) 15 true,qg 17 (.call .pure (.c (.fn 213 [] [])) [.t 16]) 15 true,qg 18 (.call .pure (.c (.fn 13 [] [])) [.t 17,.c (.i .i64 2),.c (.i .i64 3)]) 15 true,qo 19 (.pick (.t 15) (.t 18) (.c (.b false))),qm 0 19])
 .ret)) }
def A_xlaw11_after:AFun:={ res:=[.cell 2 (some 8)],body:=(.seq (.reg false [qo 2 (.new ([.i .i64 0] ++ List.replicate 7 (.sl [] 0 .rig)))])
 (.seq (.reg false [qo 4 (.build (List.replicate 5 (.i .i64 0) ++ [.b false]) [(1,1,.c (.i .i64 2))]),qo 5 (.build (List.replicate 5 (.i .i64 0) ++ [.b false]) [(1,1,.c (.i .i64 2)),(3,1,.c (.i .i64 1))]),qo 6 (.build (List.replicate 5 (.i .i64 0) ++ [.b false]) [(0,1,.c (.i .i64 1)),(1,1,.c (.i .i64 1))]),qo 7 (.build (List.replicate 5 (.i .i64 0) ++ [.b false]) [(0,1,.c (.i .i64 1)),(1,1,.c (.i .i64 2)),(3,1,.c (.i .i64 1))]),qo 8 (.bsl true 4 (List.replicate 5 (.i .i64 0) ++ [.b false] ++ List.replicate 5 (.i .i64 0) ++ [.b false] ++ List.replicate 5 (.i .i64 0) ++ [.b false] ++ List.replicate 5 (.i .i64 0) ++ [.b false]) [(0,6,.t 4),(6,6,.t 5),(12,6,.t 6),(18,6,.t 7)]),qo 9 (.bsl true 4 (List.replicate 4 (.i .i64 0)) [(0,1,.c (.i .i64 (-1))),(1,1,.c (.i .i64 (-1))),(2,1,.c (.i .i64 0)),(3,1,.c (.i .i64 (-1)))]),qo 10 (.bsl true 1 ([.i .i64 0]) [(0,1,.c (.i .i64 0))]),qo 11 (.bsl true 2 ([.i .i64 0,.i .i64 0]) [(0,1,.c (.i .i64 1)),(1,1,.c (.i .i64 3))]),qo 12 (.bsl true 2 ([.sl [] 0 .rig,.sl [] 0 .rig]) [(0,1,.t 10),(1,1,.t 11)]),qo 13 (.build ([.i .i64 0] ++ List.replicate 7 (.sl [] 0 .rig)) [(0,1,.c (.i .i64 2)),(1,1,.t 8),(2,1,.t 9),(3,1,.t 12)]),qo 3 (.new ([.i .i64 0] ++ List.replicate 7 (.sl [] 0 .rig))),qn (.st 8 (.t 3) (.t 13))])
 (.seq (.seq (.reg false [qm 14 0])
 (.cond (.t 14) (.reg false [qo 15 (.build ([.i .i64 0,.i .i64 0]) [(0,1,.c (.i .i64 2)),(1,1,.c (.i .i64 3))]),qo 16 (.bsl true 1 ([.i .i64 0,.i .i64 0]) [(0,2,.t 15)]),qo 17 (.fa 5 (.t 3)),qn (.st 1 (.t 17) (.t 16))])
 .skip))
 (.seq (.reg false [qo 18 (.ld (some 8) (.t 3)),qn (.st 8 (.t 2) (.t 18))])
 .ret)))) }
def A_xlaw11_OrderMore:AFun:={ res:=[.t 6],body:=(.seq (.reg false [qo 6 (.mv (.c (.b false)))])
 (.seq (.reg false [qm 15 0,qm 16 1,qo 17 (.call .pure (.c (.fn 477 [] [])) [.t 15,.t 16]),qm 14 17,qo 18 (.ext 0 (.t 14)),qo 19 (.ext 1 (.t 14)),qo 7 (.new ([.i .i64 0] ++ List.replicate 7 (.sl [] 0 .rig))),qn (.st 8 (.t 7) (.t 18)),qm 8 19])
 (.seq (.seq (.reg false [qm 20 8,qo 21 (.un .not (.t 20))])
 (.cond (.t 21) (.seq (.reg false [qo 22 (.call .pure (.c (.fn 157 [] [])) []),qm 6 22])
 .ret)
 .skip))
 (.seq (.reg false [qo 23 (.ld (some 8) (.t 7)),qo 24 (.call .pure (.c (.fn 156 [] [])) [.t 23]),qm 9 24])
 (.seq (.reg false [qo 25 (.ld (some 8) (.t 7)),qo 10 (.new ([.i .i64 0] ++ List.replicate 7 (.sl [] 0 .rig))),qn (.st 8 (.t 10) (.t 25))])
 (.seq (.reg false [qo 26 (.fa 1 (.t 7)),qo 27 (.ld none (.t 26)),qo 28 (.appM 6 48 (.c (.sl [] 0 .rig)) (.t 27)),qo 29 (.fa 1 (.t 10)),qn (.st 1 (.t 29) (.t 28))])
 (.seq (.seq (.reg false [qo 30 (.fa 5 (.t 7)),qo 31 (.ld none (.t 30)),qo 32 (.len (.t 31)),qm 11 32])
 (.seq (.reg false [qm 33 11,qo 34 (.bin .gtr (.t 33) (.c (.i .i64 0)))])
 (.cond (.t 34) (.seq (.reg false [qm 35 2,qm 36 11,qo 37 (.call .pure (.c (.fn 10 [] [])) [.t 35,.t 36]),qm 12 37])
 (.reg true [qo 38 (.fa 5 (.t 7)),qo 39 (.ld none (.t 38)),qm 40 12,qo 41 (.slice 2 (.t 39) none (some (.t 40)) none),qo 42 (.app 2 16 (.c (.sl [] 0 .rig)) (.t 41)),qo 43 (.fa 5 (.t 7)),qo 44 (.ld none (.t 43)),qm 45 12,qo 46 (.bin .add (.t 45) (.c (.i .i64 1))),qo 47 (.slice 2 (.t 44) (some (.t 46)) none none),qp 48 (.app 2 16 (.t 42) (.t 47)) [4],qo 49 (.fa 5 (.t 10)),qnp (.st 1 (.t 49) (.t 48)) [4,10]]))
 .skip)))
 (.seq (.reg false [qm 50 2,qo 51 (.fa 1 (.t 10)),qo 52 (.ld none (.t 51)),qo 53 (.len (.t 52)),qo 54 (.call .pure (.c (.fn 10 [] [])) [.t 50,.t 53]),qm 13 54])
 (.seq (.seq (.reg false [qo 55 (.fa 1 (.t 10)),qo 56 (.ld none (.t 55)),qm 57 13,qo 58 (.ia 6 (.t 56) (.t 57)),qo 59 (.fa 1 (.t 58)),qo 60 (.ld none (.t 59)),qo 61 (.bin .neq (.t 60) (.c (.i .i64 3)))])
 (.cond (.t 61) (.reg false [qo 62 (.fa 1 (.t 10)),qo 63 (.ld none (.t 62)),qm 64 13,qo 65 (.ia 6 (.t 63) (.t 64)),qo 66 (.fa 2 (.t 65)),qn (.st 1 (.t 66) (.c (.i .i64 0)))])
 (.seq (.reg false [qo 67 (.fa 1 (.t 10)),qo 68 (.ld none (.t 67)),qm 69 13,qo 70 (.ia 6 (.t 68) (.t 69)),qo 71 (.fa 2 (.t 70)),qo 72 (.ld none (.t 71)),qo 73 (.bin .gtr (.t 72) (.c (.i .i64 2)))])
 (.cond (.t 73) (.reg false [qo 74 (.fa 1 (.t 10)),qo 75 (.ld none (.t 74)),qm 76 13,qo 77 (.ia 6 (.t 75) (.t 76)),qo 78 (.fa 2 (.t 77)),qn (.st 1 (.t 78) (.c (.i .i64 2)))])
 .skip))))
 (.seq (.lck 10 (.reg false [qo 79 (.ld (some 8) (.t 10)),qo 80 (.call .pure (.c (.fn 156 [] [])) [.t 79]),qm 81 9,qo 82 (.call .pure (.c (.fn 22 [] [])) [.t 80,.t 81]),qm 83 82,qg 84 (.call .pure (.c (.fn 157 [] [])) []) 83 true,qo 85 (.pick (.t 83) (.t 84) (.c (.b false))),qm 6 85]))
 .ret)))))))))) }
def A_xlaw11_one:AFun:={ res:=[.cell 4 (some 8),.t 5],body:=(.seq (.reg false [qo 4 (.new ([.i .i64 0] ++ List.replicate 7 (.sl [] 0 .rig))),qo 5 (.mv (.c (.b false)))])
 (.seq (.reg false [qm 9 0,qo 10 (.call .pure (.c (.fn 76 [] [])) [.t 9]),qo 6 (.new ([.i .i64 0,.sl [] 0 .rig])),qn (.st 2 (.t 6) (.t 10))])
 (.seq (.seq (.reg false [qo 11 (.ld (some 2) (.t 6)),qo 12 (.call .pure (.c (.fn 77 [] [])) [.t 11]),qo 13 (.bin .gtr (.t 12) (.c (.i .i64 4)))])
 (.cond (.t 13) (.seq (.reg false [qo 14 (.build ([.i .i64 0] ++ List.replicate 7 (.sl [] 0 .rig)) []),qn (.st 8 (.t 4) (.t 14)),qo 5 (.mv (.c (.b false)))])
 .ret)
 .skip))
 (.seq (.reg true [qo 16 (.ld (some 2) (.t 6)),qo 17 (.call .pure (.c (.fn 79 [] [])) []),qo 18 (.call .pure (.c (.fn 78 [] [])) [.t 16,.t 17]),qm 15 18,qo 19 (.ext 0 (.t 15)),qo 20 (.ext 1 (.t 15)),qm 7 19,qm 8 20])
 (.seq (.seq (.reg false [qm 21 7,qo 22 (.len (.t 21)),qo 23 (.bin .eql (.t 22) (.c (.i .i64 0)))])
 (.cond (.t 23) (.seq (.reg false [qo 24 (.build ([.i .i64 0] ++ List.replicate 7 (.sl [] 0 .rig)) []),qn (.st 8 (.t 4) (.t 24)),qo 5 (.mv (.c (.b false)))])
 .ret)
 .skip))
 (.seq (.reg false [qm 25 7,qm 26 1,qm 27 7,qo 28 (.len (.t 27)),qo 29 (.call .pure (.c (.fn 10 [] [])) [.t 26,.t 28]),qo 30 (.ia 8 (.t 25) (.t 29)),qo 31 (.ld (some 8) (.t 30)),qn (.st 8 (.t 4) (.t 31)),qo 5 (.mv (.c (.b true)))])
 .ret)))))) }
end Go.Ab
end
section
namespace Go.Ab
def A_xref02_Check:AFun:={ res:=[.t 2],body:=(.seq (.reg false [qo 2 (.mv (.c (.b false)))])
 (.seq (.reg false [qo 3 (.mv (.c (.i .i64 0)))])
 (.seq (.seq (.reg false [qo 4 (.mv (.c (.i .i64 0)))])
 (.blk 0 (.loop (.seq (.seq (.reg false [qm 5 4,qm 6 0,qo 7 (.len (.t 6)),qo 8 (.bin .lss (.t 5) (.t 7))])
 (.cond (.t 8) .skip
 (.ext 0)))
 (.seq (.blk 1 (.seq (.seq (.reg false [qm 11 0,qm 12 4,qo 13 (.ia 2 (.t 11) (.t 12)),qo 14 (.ld (some 2) (.t 13)),qo 15 (.call .pure (.c (.fn 125 [] [])) [.t 14]),qo 16 (.un .not (.t 15))])
 (.cond (.t 16) (.seq (.reg false [qo 2 (.mv (.c (.b false)))])
 .ret)
 .skip))
 (.seq (.seq (.reg false [qm 17 0,qm 18 4,qo 19 (.ia 2 (.t 17) (.t 18)),qo 20 (.fa 0 (.t 19)),qo 21 (.ld none (.t 20)),qo 22 (.bin .neq (.t 21) (.c (.i .i64 3)))])
 (.cond (.t 22) (.seq (.reg false [qm 23 3,qo 24 (.bin .add (.t 23) (.c (.i .i64 1))),qm 3 24])
 (.ext 1))
 .skip))
 (.seq (.seq (.reg false [qm 25 3,qo 26 (.bin .lss (.t 25) (.c (.i .i64 2)))])
 (.cond (.t 26) (.seq (.reg false [qo 2 (.mv (.c (.b false)))])
 .ret)
 .skip))
 (.reg false [qm 27 3,qo 28 (.bin .sub (.t 27) (.c (.i .i64 1))),qm 3 28])))))
 (.reg false [qm 9 4,qo 10 (.bin .add (.t 9) (.c (.i .i64 1))),qm 4 10]))))))
 (.seq (.reg false [qm 29 3,qo 30 (.bin .eql (.t 29) (.c (.i .i64 1))),qm 31 30,qg 32 (.mv (.t 0)) 31 true,qg 33 (.len (.t 32)) 31 true,qg 34 (.bin .leq (.t 33) (.c (.i .i64 9))) 31 true,qo 35 (.pick (.t 31) (.t 34) (.c (.b false))),qm 2 35])
 .ret)))) }
def A_xref02_Eval:AFun:={ res:=[.t 4],body:=(.seq (.reg false [qo 4 (.mv (.c (.i .i64 0)))])
 (.seq (.seq (.reg false [qm 8 0,qo 9 (.call .pure (.c (.fn 109 [] [])) [.t 8]),qo 10 (.un .not (.t 9))])
 (.cond (.t 10) (.seq (.reg false [qo 4 (.mv (.c (.i .i64 0)))])
 .ret)
 .skip))
 (.seq (.reg false [qo 5 (.mv (.c (.sl [] 0 .rig)))])
 (.seq (.seq (.reg false [qo 6 (.mv (.c (.i .i64 0)))])
 (.blk 0 (.loop (.seq (.seq (.reg false [qm 11 6,qm 12 0,qo 13 (.len (.t 12)),qo 14 (.bin .lss (.t 11) (.t 13))])
 (.cond (.t 14) .skip
 (.ext 0)))
 (.seq (.blk 1 (.seq (.reg false [qm 17 5,qo 18 (.len (.t 17)),qm 7 18])
 (.blk 2 (.seq (.reg false [qm 23 0,qm 24 6,qo 25 (.ia 2 (.t 23) (.t 24)),qo 26 (.fa 0 (.t 25)),qo 27 (.ld none (.t 26)),qo 28 (.bin .eql (.t 27) (.c (.i .i64 1))),qm 22 28])
 (.cond (.t 22) (.reg false [qm 29 5,qm 30 0,qm 31 6,qo 32 (.ia 2 (.t 30) (.t 31)),qo 33 (.fa 1 (.t 32)),qo 34 (.ld none (.t 33)),qo 35 (.bsl true 1 ([.i .i64 0]) [(0,1,.t 34)]),qo 36 (.appM 1 8 (.t 29) (.t 35)),qm 5 36])
 (.seq (.reg false [qm 38 0,qm 39 6,qo 40 (.ia 2 (.t 38) (.t 39)),qo 41 (.fa 0 (.t 40)),qo 42 (.ld none (.t 41)),qo 43 (.bin .eql (.t 42) (.c (.i .i64 3))),qm 37 43])
 (.cond (.t 37) (.reg true [qm 44 5,qm 45 7,qo 46 (.bin .sub (.t 45) (.c (.i .i64 2))),qo 47 (.slice 1 (.t 44) none (some (.t 46)) none),qm 48 0,qm 49 6,qo 50 (.ia 2 (.t 48) (.t 49)),qo 51 (.fa 1 (.t 50)),qo 52 (.ld none (.t 51)),qm 53 5,qm 54 7,qo 55 (.bin .sub (.t 54) (.c (.i .i64 2))),qo 56 (.ia 1 (.t 53) (.t 55)),qo 57 (.ld none (.t 56)),qm 58 5,qm 59 7,qo 60 (.bin .sub (.t 59) (.c (.i .i64 1))),qo 61 (.ia 1 (.t 58) (.t 60)),qo 62 (.ld none (.t 61)),qo 63 (.call .pure (.c (.fn 128 [] [])) [.t 52,.t 57,.t 62]),qo 64 (.bsl true 1 ([.i .i64 0]) [(0,1,.t 63)]),qo 65 (.appM 1 8 (.t 47) (.t 64)),qm 5 65])
 (.seq (.reg false [qm 67 0,qm 68 6,qo 69 (.ia 2 (.t 67) (.t 68)),qo 70 (.fa 1 (.t 69)),qo 71 (.ld none (.t 70)),qm 72 1,qo 73 (.len (.t 72)),qo 74 (.bin .lss (.t 71) (.t 73)),qm 66 74])
 (.cond (.t 66) (.reg false [qm 75 5,qm 76 1,qm 77 0,qm 78 6,qo 79 (.ia 2 (.t 77) (.t 78)),qo 80 (.fa 1 (.t 79)),qo 81 (.ld none (.t 80)),qo 82 (.ia 1 (.t 76) (.t 81)),qo 83 (.ld none (.t 82)),qo 84 (.bsl true 1 ([.i .i64 0]) [(0,1,.t 83)]),qo 85 (.appM 1 8 (.t 75) (.t 84)),qm 5 85])
 (.reg false [qm 19 5,qo 20 (.bsl true 1 ([.i .i64 0]) [(0,1,.c (.i .i64 0))]),qo 21 (.appM 1 8 (.t 19) (.t 20)),qm 5 21]))))))))))
 (.reg false [qm 15 6,qo 16 (.bin .add (.t 15) (.c (.i .i64 1))),qm 6 16]))))))
 (.seq (.reg false [qm 86 5,qo 87 (.ia 1 (.t 86) (.c (.i .i64 0))),qo 88 (.ld none (.t 87)),qm 4 88])
 .ret))))) }
def A_xref02_word:AFun:={ res:=[.t 2],body:=(.seq (.reg false [qo 1 (.box (.t 0)),qo 2 (.mv (.c (.b false)))])
 (.seq (.seq (.reg false [qo 3 (.fa 0 (.t 1)),qo 4 (.ld none (.t 3))])
 (.blk 0 (.seq (.reg false [qo 6 (.bin .eql (.t 4) (.c (.i .i64 1))),qm 5 6])
 (.cond (.t 5) (.seq (.reg false [qo 7 (.fa 1 (.t 1)),qo 8 (.ld none (.t 7)),qo 9 (.bin .geq (.t 8) (.c (.i .i64 (-2147483648)))),qm 10 9,qg 11 (.fa 1 (.t 1)) 10 true,qg 12 (.ld none (.t 11)) 10 true,qg 13 (.bin .leq (.t 12) (.c (.i .i64 2147483647))) 10 true,qo 14 (.pick (.t 10) (.t 13) (.c (.b false))),qm 2 14])
 .ret)
 (.seq (.reg false [qo 16 (.bin .eql (.t 4) (.c (.i .i64 2))),qm 15 16])
 (.cond (.t 15) (.seq (.reg false [qo 17 (.fa 1 (.t 1)),qo 18 (.ld none (.t 17)),qo 19 (.bin .geq (.t 18) (.c (.i .i64 0))),qm 20 19,qg 21 (.fa 1 (.t 1)) 20 true,qg 22 (.ld none (.t 21)) 20 true,qg 23 (.bin .lss (.t 22) (.c (.i .i64 8))) 20 true,qo 24 (.pick (.t 20) (.t 23) (.c (.b false))),qm 2 24])
 .ret)
 (.seq (.reg false [qo 26 (.bin .eql (.t 4) (.c (.i .i64 3))),qm 25 26])
 (.cond (.t 25) (.seq (.reg false [qo 27 (.fa 1 (.t 1)),qo 28 (.ld none (.t 27)),qo 29 (.bin .geq (.t 28) (.c (.i .i64 1))),qm 30 29,qg 31 (.fa 1 (.t 1)) 30 true,qg 32 (.ld none (.t 31)) 30 true,qg 33 (.bin .leq (.t 32) (.c (.i .i64 6))) 30 true,qo 34 (.pick (.t 30) (.t 33) (.c (.b false))),qm 2 34])
 .ret)
 .skip))))))))
 (.seq (.reg false [qo 2 (.mv (.c (.b false)))])
 .ret))) }
def A_xref02_Regs:AFun:={ res:=[.t 2],body:=(.seq (.reg false [qo 2 (.mv (.c (.sl [] 0 .rig)))])
 (.seq (.reg false [qo 3 (.mv (.c (.sl [] 0 .rig)))])
 (.seq (.seq (.reg false [qo 4 (.mv (.c (.i .i64 0)))])
 (.blk 0 (.loop (.seq (.seq (.reg false [qm 6 4,qm 7 0,qo 8 (.len (.t 7)),qo 9 (.bin .lss (.t 6) (.t 8))])
 (.cond (.t 9) .skip
 (.ext 0)))
 (.seq (.blk 1 (.seq (.seq (.reg false [qm 12 0,qm 13 4,qo 14 (.ia 2 (.t 12) (.t 13)),qo 15 (.fa 0 (.t 14)),qo 16 (.ld none (.t 15)),qo 17 (.bin .neq (.t 16) (.c (.i .i64 2)))])
 (.cond (.t 17) (.ext 1)
 .skip))
 (.seq (.reg false [qo 5 (.mv (.c (.i .i64 0)))])
 (.seq (.blk 2 (.loop (.seq (.seq (.reg true [qm 18 5,qm 19 3,qo 20 (.len (.t 19)),qo 21 (.bin .lss (.t 18) (.t 20)),qm 22 21,qg 23 (.mv (.t 3)) 22 true,qg 24 (.mv (.t 5)) 22 true,qg 25 (.ia 1 (.t 23) (.t 24)) 22 true,qg 26 (.ld none (.t 25)) 22 true,qg 27 (.mv (.t 0)) 22 true,qg 28 (.mv (.t 4)) 22 true,qg 29 (.ia 2 (.t 27) (.t 28)) 22 true,qg 30 (.fa 1 (.t 29)) 22 true,qg 31 (.ld none (.t 30)) 22 true,qg 32 (.bin .lss (.t 26) (.t 31)) 22 true,qo 33 (.pick (.t 22) (.t 32) (.c (.b false)))])
 (.cond (.t 33) .skip
 (.ext 2)))
 (.blk 3 (.reg false [qm 34 5,qo 35 (.bin .add (.t 34) (.c (.i .i64 1))),qm 5 35])))))
 (.seq (.seq (.reg true [qm 36 5,qm 37 3,qo 38 (.len (.t 37)),qo 39 (.bin .lss (.t 36) (.t 38)),qm 40 39,qg 41 (.mv (.t 3)) 40 true,qg 42 (.mv (.t 5)) 40 true,qg 43 (.ia 1 (.t 41) (.t 42)) 40 true,qg 44 (.ld none (.t 43)) 40 true,qg 45 (.mv (.t 0)) 40 true,qg 46 (.mv (.t 4)) 40 true,qg 47 (.ia 2 (.t 45) (.t 46)) 40 true,qg 48 (.fa 1 (.t 47)) 40 true,qg 49 (.ld none (.t 48)) 40 true,qg 50 (.bin .eql (.t 44) (.t 49)) 40 true,qo 51 (.pick (.t 40) (.t 50) (.c (.b false)))])
 (.cond (.t 51) (.ext 1)
 .skip))
 (.reg true [qm 52 3,qm 53 5,qo 54 (.slice 1 (.t 52) none (some (.t 53)) none),qo 55 (.app 1 8 (.c (.sl [] 0 .rig)) (.t 54)),qm 56 0,qm 57 4,qo 58 (.ia 2 (.t 56) (.t 57)),qo 59 (.fa 1 (.t 58)),qo 60 (.ld none (.t 59)),qo 61 (.bsl true 1 ([.i .i64 0]) [(0,1,.t 60)]),qp 62 (.app 1 8 (.t 55) (.t 61)) [3],qm 63 3,qm 64 5,qo 65 (.slice 1 (.t 63) (some (.t 64)) none none),qp 66 (.app 1 8 (.t 62) (.t 65)) [3,10],qm 3 66]))))))
 (.reg false [qm 10 4,qo 11 (.bin .add (.t 10) (.c (.i .i64 1))),qm 4 11]))))))
 (.seq (.reg false [qm 67 3,qm 2 67])
 .ret)))) }
def A_xref02_Same:AFun:={ res:=[.t 4],body:=(.seq (.reg false [qo 4 (.mv (.c (.b false)))])
 (.seq (.seq (.reg false [qm 6 0,qo 7 (.len (.t 6)),qm 8 1,qo 9 (.len (.t 8)),qo 10 (.bin .neq (.t 7) (.t 9))])
 (.cond (.t 10) (.seq (.reg false [qo 4 (.mv (.c (.b false)))])
 .ret)
 .skip))
 (.seq (.seq (.reg false [qo 5 (.mv (.c (.i .i64 0)))])
 (.blk 0 (.loop (.seq (.seq (.reg false [qm 11 5,qm 12 0,qo 13 (.len (.t 12)),qo 14 (.bin .lss (.t 11) (.t 13))])
 (.cond (.t 14) .skip
 (.ext 0)))
 (.seq (.blk 1 (.seq (.reg true [qm 17 0,qm 18 5,qo 19 (.ia 2 (.t 17) (.t 18)),qo 20 (.fa 0 (.t 19)),qo 21 (.ld none (.t 20)),qm 22 1,qm 23 5,qo 24 (.ia 2 (.t 22) (.t 23)),qo 25 (.fa 0 (.t 24)),qo 26 (.ld none (.t 25)),qo 27 (.bin .neq (.t 21) (.t 26)),qm 28 27,qg 29 (.mv (.t 0)) 28 false,qg 30 (.mv (.t 5)) 28 false,qg 31 (.ia 2 (.t 29) (.t 30)) 28 false,qg 32 (.fa 1 (.t 31)) 28 false,qg 33 (.ld none (.t 32)) 28 false,qg 34 (.mv (.t 1)) 28 false,qg 35 (.mv (.t 5)) 28 false,qg 36 (.ia 2 (.t 34) (.t 35)) 28 false,qg 37 (.fa 1 (.t 36)) 28 false,qg 38 (.ld none (.t 37)) 28 false,qg 39 (.bin .neq (.t 33) (.t 38)) 28 false,qo 40 (.pick (.t 28) (.c (.b true)) (.t 39))])
 (.cond (.t 40) (.seq (.reg false [qo 4 (.mv (.c (.b false)))])
 .ret)
 .skip)))
 (.reg false [qm 15 5,qo 16 (.bin .add (.t 15) (.c (.i .i64 1))),qm 5 16]))))))
 (.seq (.reg false [qo 4 (.mv (.c (.b true)))])
 .ret)))) }
def A_xref02_Do:AFun:={ res:=[.t 6],body:=(.seq (.reg false [qo 6 (.mv (.c (.i .i64 0)))])
 (.seq (.seq (.reg false [qm 7 0])
 (.blk 0 (.seq (.reg false [qo 9 (.bin .eql (.t 7) (.c (.i .i64 1))),qm 8 9])
 (.cond (.t 8) (.seq (.reg false [qm 10 1,qm 11 2,qo 12 (.bin .add (.t 10) (.t 11)),qm 6 12])
 .ret)
 (.seq (.reg false [qo 14 (.bin .eql (.t 7) (.c (.i .i64 2))),qm 13 14])
 (.cond (.t 13) (.seq (.reg false [qm 15 1,qm 16 2,qo 17 (.bin .sub (.t 15) (.t 16)),qm 6 17])
 .ret)
 (.seq (.reg false [qo 19 (.bin .eql (.t 7) (.c (.i .i64 3))),qm 18 19])
 (.cond (.t 18) (.seq (.reg false [qm 20 1,qm 21 2,qo 22 (.bin .mul (.t 20) (.t 21)),qm 6 22])
 .ret)
 (.seq (.reg false [qo 24 (.bin .eql (.t 7) (.c (.i .i64 4))),qm 23 24])
 (.cond (.t 23) (.seq (.reg false [qm 25 1,qm 26 2,qo 27 (.bin .xor (.t 25) (.t 26)),qm 6 27])
 .ret)
 (.seq (.reg false [qo 29 (.bin .eql (.t 7) (.c (.i .i64 5))),qm 28 29])
 (.cond (.t 28) (.seq (.reg false [qm 30 1,qm 31 2,qo 32 (.bin .eql (.t 30) (.t 31))])
 (.cond (.t 32) (.seq (.reg false [qo 6 (.mv (.c (.i .i64 1)))])
 .ret)
 .skip))
 (.seq (.reg false [qo 34 (.bin .eql (.t 7) (.c (.i .i64 6))),qm 33 34])
 (.cond (.t 33) (.seq (.reg false [qm 35 1,qm 36 2,qo 37 (.bin .lss (.t 35) (.t 36))])
 (.cond (.t 37) (.seq (.reg false [qo 6 (.mv (.c (.i .i64 1)))])
 .ret)
 .skip))
 .skip))))))))))))))
 (.seq (.reg false [qo 6 (.mv (.c (.i .i64 0)))])
 .ret))) }
end Go.Ab
end
section
namespace Go.Ab
def A_xref03_SameInstr:AFun:={ res:=[.t 4],body:=(.seq (.reg false [qo 2 (.box (.t 0)),qo 3 (.box (.t 1)),qo 4 (.mv (.c (.b false)))])
 (.seq (.reg false [qo 5 (.fa 0 (.t 2)),qo 6 (.ld none (.t 5)),qo 7 (.fa 0 (.t 3)),qo 8 (.ld none (.t 7)),qo 9 (.bin .eql (.t 6) (.t 8)),qm 10 9,qg 11 (.fa 1 (.t 2)) 10 true,qg 12 (.ld none (.t 11)) 10 true,qg 13 (.fa 1 (.t 3)) 10 true,qg 14 (.ld none (.t 13)) 10 true,qg 15 (.bin .eql (.t 12) (.t 14)) 10 true,qo 16 (.pick (.t 10) (.t 15) (.c (.b false))),qm 17 16,qg 18 (.fa 2 (.t 2)) 17 true,qg 19 (.ld none (.t 18)) 17 true,qg 20 (.fa 2 (.t 3)) 17 true,qg 21 (.ld none (.t 20)) 17 true,qg 22 (.bin .eql (.t 19) (.t 21)) 17 true,qo 23 (.pick (.t 17) (.t 22) (.c (.b false))),qm 24 23,qg 25 (.fa 3 (.t 2)) 24 true,qg 26 (.ld none (.t 25)) 24 true,qg 27 (.fa 3 (.t 3)) 24 true,qg 28 (.ld none (.t 27)) 24 true,qg 29 (.bin .eql (.t 26) (.t 28)) 24 true,qo 30 (.pick (.t 24) (.t 29) (.c (.b false))),qm 31 30,qg 32 (.fa 4 (.t 2)) 31 true,qg 33 (.ld none (.t 32)) 31 true,qg 34 (.fa 4 (.t 3)) 31 true,qg 35 (.ld none (.t 34)) 31 true,qg 36 (.bin .eql (.t 33) (.t 35)) 31 true,qo 37 (.pick (.t 31) (.t 36) (.c (.b false))),qm 38 37,qg 39 (.fa 6 (.t 2)) 38 true,qg 40 (.ld none (.t 39)) 38 true,qg 41 (.fa 6 (.t 3)) 38 true,qg 42 (.ld none (.t 41)) 38 true,qg 43 (.bin .eql (.t 40) (.t 42)) 38 true,qo 44 (.pick (.t 38) (.t 43) (.c (.b false))),qm 45 44,qg 46 (.fa 5 (.t 2)) 45 true,qg 47 (.ld none (.t 46)) 45 true,qg 48 (.fa 5 (.t 3)) 45 true,qg 49 (.ld none (.t 48)) 45 true,qg 50 (.call .pure (.c (.fn 127 [] [])) [.t 47,.t 49]) 45 true,qo 51 (.pick (.t 45) (.t 50) (.c (.b false))),qm 4 51])
 .ret)) }
end Go.Ab
end
section
namespace Go.Ab
def A_xref04_Check:AFun:={ res:=[.t 2],body:=(.seq (.reg false [qo 1 (.box (.t 0)),qo 2 (.mv (.c (.i .i64 0)))])
 (.seq (.seq (.reg false [qo 8 (.fa 0 (.t 1)),qo 9 (.ld none (.t 8)),qo 10 (.bin .lss (.t 9) (.c (.i .i64 1))),qm 11 10,qg 12 (.fa 0 (.t 1)) 11 false,qg 13 (.ld none (.t 12)) 11 false,qg 14 (.bin .gtr (.t 13) (.c (.i .i64 4))) 11 false,qo 15 (.pick (.t 11) (.c (.b true)) (.t 14)),qm 16 15,qg 17 (.fa 1 (.t 1)) 16 false,qg 18 (.ld none (.t 17)) 16 false,qg 19 (.len (.t 18)) 16 false,qg 20 (.bin .eql (.t 19) (.c (.i .i64 0))) 16 false,qo 21 (.pick (.t 16) (.c (.b true)) (.t 20))])
 (.cond (.t 21) (.seq (.reg false [qo 2 (.mv (.c (.i .i64 3)))])
 .ret)
 .skip))
 (.seq (.reg true [qo 22 (.fa 0 (.t 1)),qo 23 (.ld none (.t 22)),qo 24 (.fa 1 (.t 1)),qo 25 (.ld none (.t 24)),qo 26 (.len (.t 25)),qo 27 (.bin .gtr (.t 26) (.c (.i .i64 4))),qm 3 23,qm 4 27])
 (.seq (.seq (.reg false [qo 5 (.mv (.c (.i .i64 0)))])
 (.blk 0 (.loop (.seq (.seq (.reg false [qm 28 5,qo 29 (.fa 1 (.t 1)),qo 30 (.ld none (.t 29)),qo 31 (.len (.t 30)),qo 32 (.bin .lss (.t 28) (.t 31))])
 (.cond (.t 32) .skip
 (.ext 0)))
 (.seq (.blk 1 (.seq (.reg false [qo 35 (.fa 1 (.t 1)),qo 36 (.ld none (.t 35)),qm 37 5,qo 38 (.ia 1 (.t 36) (.t 37)),qo 39 (.ld none (.t 38)),qm 6 39])
 (.seq (.seq (.reg false [qo 7 (.mv (.c (.i .i64 0)))])
 (.blk 2 (.loop (.seq (.seq (.reg false [qm 40 7,qm 41 6,qo 42 (.len (.t 41)),qo 43 (.bin .lss (.t 40) (.t 42))])
 (.cond (.t 43) .skip
 (.ext 2)))
 (.seq (.blk 3 (.seq (.reg true [qm 46 6,qm 47 7,qo 48 (.ia 7 (.t 46) (.t 47)),qo 49 (.ld (some 7) (.t 48)),qo 50 (.fa 0 (.t 1)),qo 51 (.ld none (.t 50)),qm 52 6,qo 53 (.len (.t 52)),qo 54 (.bin .sub (.t 53) (.c (.i .i64 1))),qm 55 7,qo 56 (.bin .sub (.t 54) (.t 55)),qo 57 (.call .pure (.c (.fn 98 [] [])) [.t 49,.t 51,.t 56]),qo 58 (.un .not (.t 57))])
 (.cond (.t 58) (.seq (.reg false [qo 2 (.mv (.c (.i .i64 3)))])
 .ret)
 .skip)))
 (.reg false [qm 44 7,qo 45 (.bin .add (.t 44) (.c (.i .i64 1))),qm 7 45]))))))
 (.seq (.reg false [qm 59 3,qm 60 6,qo 61 (.call .pure (.c (.fn 99 [] [])) [.t 60]),qo 62 (.bin .add (.t 59) (.t 61)),qm 3 62])
 (.reg false [qm 63 4,qm 64 63,qg 65 (.mv (.t 6)) 64 false,qg 66 (.len (.t 65)) 64 false,qg 67 (.bin .gtr (.t 66) (.c (.i .i64 12))) 64 false,qo 68 (.pick (.t 64) (.c (.b true)) (.t 67)),qm 69 68,qg 70 (.mv (.t 6)) 69 false,qg 71 (.call .pure (.c (.fn 100 [] [])) [.t 70]) 69 false,qg 72 (.bin .gtr (.t 71) (.c (.i .i64 64))) 69 false,qo 73 (.pick (.t 69) (.c (.b true)) (.t 72)),qm 4 73])))))
 (.reg false [qm 33 5,qo 34 (.bin .add (.t 33) (.c (.i .i64 1))),qm 5 34]))))))
 (.seq (.seq (.reg false [qm 74 4,qm 75 74,qg 76 (.mv (.t 3)) 75 false,qg 77 (.bin .gtr (.t 76) (.c (.i .i64 40))) 75 false,qo 78 (.pick (.t 75) (.c (.b true)) (.t 77))])
 (.cond (.t 78) (.seq (.reg false [qo 2 (.mv (.c (.i .i64 4)))])
 .ret)
 .skip))
 (.seq (.reg false [qo 2 (.mv (.c (.i .i64 0)))])
 .ret)))))) }
def A_xref04_Instr:AFun:={ res:=[.t 6],body:=(.seq (.reg false [qo 3 (.box (.t 0)),qo 6 (.mv (.c (.b false)))])
 (.seq (.reg false [qo 12 (.fa 3 (.t 3)),qo 13 (.ld none (.t 12)),qo 14 (.bin .geq (.t 13) (.c (.i .i64 0))),qm 15 14,qg 16 (.fa 3 (.t 3)) 15 true,qg 17 (.ld none (.t 16)) 15 true,qg 18 (.bin .lss (.t 17) (.c (.i .i64 8))) 15 true,qo 19 (.pick (.t 15) (.t 18) (.c (.b false))),qm 7 19])
 (.seq (.reg false [qo 20 (.fa 4 (.t 3)),qo 21 (.ld none (.t 20)),qo 22 (.bin .geq (.t 21) (.c (.i .i64 0))),qm 23 22,qg 24 (.fa 4 (.t 3)) 23 true,qg 25 (.ld none (.t 24)) 23 true,qg 26 (.mv (.t 1)) 23 true,qg 27 (.bin .lss (.t 25) (.t 26)) 23 true,qo 28 (.pick (.t 23) (.t 27) (.c (.b false))),qm 8 28])
 (.seq (.reg false [qo 29 (.fa 5 (.t 3)),qo 30 (.ld none (.t 29)),qo 31 (.call .pure (.c (.fn 109 [] [])) [.t 30]),qm 9 31])
 (.seq (.reg false [qo 32 (.fa 0 (.t 3)),qo 33 (.ld none (.t 32)),qo 34 (.build (List.replicate 5 (.i .i64 0) ++ [.sl [] 0 .rig,.i .i64 0]) [(0,1,.t 33)]),qo 10 (.new (List.replicate 5 (.i .i64 0) ++ [.sl [] 0 .rig,.i .i64 0])),qn (.st 7 (.t 10) (.t 34))])
 (.seq (.reg false [qo 11 (.mv (.c (.b false)))])
 (.seq (.seq (.reg false [qo 35 (.fa 0 (.t 3)),qo 36 (.ld none (.t 35))])
 (.blk 0 (.seq (.reg false [qo 38 (.bin .eql (.t 36) (.c (.i .i64 1))),qm 37 38])
 (.cond (.t 37) (.seq (.reg false [qm 39 7,qm 40 39,qg 41 (.mv (.t 8)) 40 true,qo 42 (.pick (.t 40) (.t 41) (.c (.b false))),qm 43 42,qg 44 (.fa 1 (.t 3)) 43 true,qg 45 (.ld none (.t 44)) 43 true,qg 46 (.bin .eql (.t 45) (.c (.i .i64 0))) 43 true,qg 47 (.mv (.t 46)) 43 true,qg 48 (.fa 1 (.t 3)) 47 false,qg 49 (.ld none (.t 48)) 47 false,qg 50 (.bin .eql (.t 49) (.c (.i .i64 1))) 47 false,qg 51 (.pick (.t 47) (.c (.b true)) (.t 50)) 43 true,qo 52 (.pick (.t 43) (.t 51) (.c (.b false))),qm 11 52])
 (.reg true [qo 53 (.fa 3 (.t 3)),qo 54 (.ldQ none (.t 53) 3),qo 55 (.fa 4 (.t 3)),qo 56 (.ldQ none (.t 55) 3),qo 57 (.fa 1 (.t 3)),qo 58 (.ldQ none (.t 57) 3),qo 59 (.fa 3 (.t 10)),qn (.stN 1 (.t 59) (.t 54) [3]),qo 60 (.fa 4 (.t 10)),qn (.stN 1 (.t 60) (.t 56) [3]),qo 61 (.fa 1 (.t 10)),qn (.stN 1 (.t 61) (.t 58) [3])]))
 (.seq (.reg false [qo 63 (.bin .eql (.t 36) (.c (.i .i64 2))),qm 62 63])
 (.cond (.t 62) (.seq (.reg false [qm 64 8,qm 65 64,qg 66 (.mv (.t 9)) 65 true,qo 67 (.pick (.t 65) (.t 66) (.c (.b false))),qm 68 67,qg 69 (.fa 1 (.t 3)) 68 true,qg 70 (.ld none (.t 69)) 68 true,qg 71 (.bin .eql (.t 70) (.c (.i .i64 0))) 68 true,qg 72 (.mv (.t 71)) 68 true,qg 73 (.fa 1 (.t 3)) 72 false,qg 74 (.ld none (.t 73)) 72 false,qg 75 (.bin .eql (.t 74) (.c (.i .i64 2))) 72 false,qg 76 (.pick (.t 72) (.c (.b true)) (.t 75)) 68 true,qo 77 (.pick (.t 68) (.t 76) (.c (.b false))),qm 11 77])
 (.reg true [qo 78 (.fa 4 (.t 3)),qo 79 (.ldQ none (.t 78) 3),qo 80 (.fa 1 (.t 3)),qo 81 (.ldQ none (.t 80) 3),qo 82 (.fa 5 (.t 3)),qo 83 (.ldQ none (.t 82) 3),qo 84 (.fa 4 (.t 10)),qn (.stN 1 (.t 84) (.t 79) [3]),qo 85 (.fa 1 (.t 10)),qn (.stN 1 (.t 85) (.t 81) [3]),qo 86 (.fa 5 (.t 10)),qn (.stN 1 (.t 86) (.t 83) [3])]))
 (.seq (.reg false [qo 88 (.bin .eql (.t 36) (.c (.i .i64 3))),qm 87 88])
 (.cond (.t 87) (.seq (.reg false [qo 89 (.fa 1 (.t 3)),qo 90 (.ld none (.t 89)),qo 91 (.bin .geq (.t 90) (.c (.i .i64 1))),qm 92 91,qg 93 (.fa 1 (.t 3)) 92 true,qg 94 (.ld none (.t 93)) 92 true,qg 95 (.bin .leq (.t 94) (.c (.i .i64 4))) 92 true,qo 96 (.pick (.t 92) (.t 95) (.c (.b false))),qm 11 96])
 (.reg false [qo 97 (.fa 1 (.t 3)),qo 98 (.ld none (.t 97)),qo 99 (.fa 1 (.t 10)),qn (.st 1 (.t 99) (.t 98))]))
 (.seq (.reg false [qo 101 (.bin .eql (.t 36) (.c (.i .i64 4))),qm 100 101])
 (.cond (.t 100) (.seq (.reg false [qm 102 7,qm 103 102,qg 104 (.mv (.t 8)) 103 true,qo 105 (.pick (.t 103) (.t 104) (.c (.b false))),qm 106 105,qg 107 (.mv (.t 9)) 106 true,qo 108 (.pick (.t 106) (.t 107) (.c (.b false))),qm 109 108,qg 110 (.fa 5 (.t 3)) 109 true,qg 111 (.ld none (.t 110)) 109 true,qg 112 (.len (.t 111)) 109 true,qg 113 (.bin .leq (.t 112) (.c (.i .i64 7))) 109 true,qo 114 (.pick (.t 109) (.t 113) (.c (.b false))),qm 115 114,qg 116 (.fa 5 (.t 3)) 115 true,qg 117 (.ld none (.t 116)) 115 true,qg 118 (.fa 3 (.t 3)) 115 true,qg 119 (.ld none (.t 118)) 115 true,qg 120 (.call .pure (.c (.fn 110 [] [])) [.t 117,.t 119]) 115 true,qg 121 (.un .not (.t 120)) 115 true,qo 122 (.pick (.t 115) (.t 121) (.c (.b false))),qm 123 122,qg 124 (.fa 1 (.t 3)) 123 true,qg 125 (.ld none (.t 124)) 123 true,qg 126 (.bin .eql (.t 125) (.c (.i .i64 0))) 123 true,qg 127 (.mv (.t 126)) 123 true,qg 128 (.fa 1 (.t 3)) 127 false,qg 129 (.ld none (.t 128)) 127 false,qg 130 (.bin .eql (.t 129) (.c (.i .i64 1))) 127 false,qg 131 (.pick (.t 127) (.c (.b true)) (.t 130)) 123 true,qo 132 (.pick (.t 123) (.t 131) (.c (.b false))),qm 133 132,qg 134 (.fa 2 (.t 3)) 133 true,qg 135 (.ld none (.t 134)) 133 true,qg 136 (.bin .eql (.t 135) (.c (.i .i64 0))) 133 true,qg 137 (.mv (.t 136)) 133 true,qg 138 (.fa 2 (.t 3)) 137 false,qg 139 (.ld none (.t 138)) 137 false,qg 140 (.bin .eql (.t 139) (.c (.i .i64 2))) 137 false,qg 141 (.pick (.t 137) (.c (.b true)) (.t 140)) 133 true,qo 142 (.pick (.t 133) (.t 141) (.c (.b false))),qm 11 142])
 (.reg true [qo 143 (.fa 3 (.t 3)),qo 144 (.ldQ none (.t 143) 3),qo 145 (.fa 4 (.t 3)),qo 146 (.ldQ none (.t 145) 3),qo 147 (.fa 1 (.t 3)),qo 148 (.ldQ none (.t 147) 3),qo 149 (.fa 2 (.t 3)),qo 150 (.ldQ none (.t 149) 3),qo 151 (.fa 5 (.t 3)),qo 152 (.ldQ none (.t 151) 3),qo 153 (.fa 3 (.t 10)),qn (.stN 1 (.t 153) (.t 144) [3]),qo 154 (.fa 4 (.t 10)),qn (.stN 1 (.t 154) (.t 146) [3]),qo 155 (.fa 1 (.t 10)),qn (.stN 1 (.t 155) (.t 148) [3]),qo 156 (.fa 2 (.t 10)),qn (.stN 1 (.t 156) (.t 150) [3]),qo 157 (.fa 5 (.t 10)),qn (.stN 1 (.t 157) (.t 152) [3])]))
 (.seq (.reg false [qo 159 (.bin .eql (.t 36) (.c (.i .i64 5))),qm 158 159])
 (.cond (.t 158) (.seq (.reg false [qm 160 7,qm 161 160,qg 162 (.mv (.t 9)) 161 true,qo 163 (.pick (.t 161) (.t 162) (.c (.b false))),qm 11 163])
 (.reg true [qo 164 (.fa 3 (.t 3)),qo 165 (.ldQ none (.t 164) 3),qo 166 (.fa 5 (.t 3)),qo 167 (.ldQ none (.t 166) 3),qo 168 (.fa 3 (.t 10)),qn (.stN 1 (.t 168) (.t 165) [3]),qo 169 (.fa 5 (.t 10)),qn (.stN 1 (.t 169) (.t 167) [3])]))
 (.seq (.reg false [qo 171 (.bin .eql (.t 36) (.c (.i .i64 6))),qm 170 171])
 (.cond (.t 170) (.seq (.reg false [qm 172 9,qm 173 172,qg 174 (.fa 6 (.t 3)) 173 true,qg 175 (.ld none (.t 174)) 173 true,qg 176 (.bin .geq (.t 175) (.c (.i .i64 0))) 173 true,qo 177 (.pick (.t 173) (.t 176) (.c (.b false))),qm 178 177,qg 179 (.fa 6 (.t 3)) 178 true,qg 180 (.ld none (.t 179)) 178 true,qg 181 (.mv (.t 2)) 178 true,qg 182 (.bin .leq (.t 180) (.t 181)) 178 true,qo 183 (.pick (.t 178) (.t 182) (.c (.b false))),qm 11 183])
 (.reg true [qo 184 (.fa 6 (.t 3)),qo 185 (.ldQ none (.t 184) 3),qo 186 (.fa 5 (.t 3)),qo 187 (.ldQ none (.t 186) 3),qo 188 (.fa 6 (.t 10)),qn (.stN 1 (.t 188) (.t 185) [3]),qo 189 (.fa 5 (.t 10)),qn (.stN 1 (.t 189) (.t 187) [3])]))
 .skip))))))))))))))
 (.seq (.reg false [qm 190 11,qm 191 190,qg 192 (.ld (some 7) (.t 3)) 191 true,qg 193 (.ld (some 7) (.t 10)) 191 true,qg 194 (.call .pure (.c (.fn 111 [] [])) [.t 192,.t 193]) 191 true,qo 195 (.pick (.t 191) (.t 194) (.c (.b false))),qm 6 195])
 .ret)))))))) }
def A_xref04_Events:AFun:={ res:=[.t 2],body:=(.seq (.reg false [qo 2 (.mv (.c (.i .i64 0)))])
 (.seq (.reg false [qo 3 (.mv (.c (.i .i64 0)))])
 (.seq (.seq (.reg false [qo 4 (.mv (.c (.i .i64 0)))])
 (.blk 0 (.loop (.seq (.seq (.reg false [qm 5 4,qm 6 0,qo 7 (.len (.t 6)),qo 8 (.bin .lss (.t 5) (.t 7))])
 (.cond (.t 8) .skip
 (.ext 0)))
 (.seq (.blk 1 (.seq (.reg false [qm 11 0,qm 12 4,qo 13 (.ia 7 (.t 11) (.t 12)),qo 14 (.fa 0 (.t 13)),qo 15 (.ld none (.t 14))])
 (.blk 2 (.seq (.seq (.reg false [qo 17 (.bin .eql (.t 15) (.c (.i .i64 1))),qm 16 17])
 (.cond (.t 16) .skip
 (.seq (.reg false [qo 18 (.bin .eql (.t 15) (.c (.i .i64 2))),qm 16 18])
 (.cond (.t 16) .skip
 (.reg false [qo 19 (.bin .eql (.t 15) (.c (.i .i64 3))),qm 16 19])))))
 (.cond (.t 16) (.reg false [qm 20 3,qo 21 (.bin .add (.t 20) (.c (.i .i64 1))),qm 3 21])
 (.seq (.reg false [qo 23 (.bin .eql (.t 15) (.c (.i .i64 4))),qm 22 23])
 (.cond (.t 22) (.reg false [qm 24 3,qo 25 (.bin .add (.t 24) (.c (.i .i64 2))),qm 3 25])
 .skip)))))))
 (.reg false [qm 9 4,qo 10 (.bin .add (.t 9) (.c (.i .i64 1))),qm 4 10]))))))
 (.seq (.reg false [qm 26 3,qm 2 26])
 .ret)))) }
def A_xref04_Paths:AFun:={ res:=[.t 2],body:=(.seq (.reg false [qo 2 (.mv (.c (.i .i64 0)))])
 (.seq (.reg false [qo 3 (.mv (.c (.i .i64 1)))])
 (.seq (.seq (.reg false [qo 4 (.mv (.c (.i .i64 0)))])
 (.blk 0 (.loop (.seq (.seq (.reg false [qm 5 4,qm 6 0,qo 7 (.len (.t 6)),qo 8 (.bin .lss (.t 5) (.t 7))])
 (.cond (.t 8) .skip
 (.ext 0)))
 (.seq (.blk 1 (.seq (.reg false [qm 11 0,qm 12 4,qo 13 (.ia 7 (.t 11) (.t 12)),qo 14 (.fa 0 (.t 13)),qo 15 (.ld none (.t 14)),qo 16 (.bin .eql (.t 15) (.c (.i .i64 6)))])
 (.cond (.t 16) (.reg false [qm 17 3,qo 18 (.bin .mul (.c (.i .i64 2)) (.t 17)),qo 19 (.mn (.t 18) (.c (.i .i64 1000000))),qm 3 19])
 .skip)))
 (.reg false [qm 9 4,qo 10 (.bin .add (.t 9) (.c (.i .i64 1))),qm 4 10]))))))
 (.seq (.reg false [qm 20 3,qm 2 20])
 .ret)))) }
def A_xref04_Uses:AFun:={ res:=[.t 4],body:=(.seq (.reg false [qo 4 (.mv (.c (.b false)))])
 (.seq (.reg false [qm 7 0,qo 8 (.call .pure (.c (.fn 126 [] [])) [.t 7]),qm 5 8])
 (.seq (.seq (.reg false [qo 6 (.mv (.c (.i .i64 0)))])
 (.blk 0 (.loop (.seq (.seq (.reg false [qm 9 6,qm 10 5,qo 11 (.len (.t 10)),qo 12 (.bin .lss (.t 9) (.t 11))])
 (.cond (.t 12) .skip
 (.ext 0)))
 (.seq (.blk 1 (.seq (.reg false [qm 15 5,qm 16 6,qo 17 (.ia 1 (.t 15) (.t 16)),qo 18 (.ld none (.t 17)),qm 19 1,qo 20 (.bin .eql (.t 18) (.t 19))])
 (.cond (.t 20) (.seq (.reg false [qo 4 (.mv (.c (.b true)))])
 .ret)
 .skip)))
 (.reg false [qm 13 6,qo 14 (.bin .add (.t 13) (.c (.i .i64 1))),qm 6 14]))))))
 (.seq (.reg false [qo 4 (.mv (.c (.b false)))])
 .ret)))) }
end Go.Ab
end
section
namespace Go.Ab
def A_xref05_Do:AFun:={ res:=[.cell 4 (some 7),.t 5],body:=(.seq (.reg false [qo 4 (.new (List.replicate 5 (.sl [] 0 .rig) ++ [.i .i64 0,.sl [] 0 .rig])),qo 5 (.mv (.c (.b false)))])
 (.seq (.reg false [qm 9 1,qo 10 (.call .raw (.c (.fn 112 [] [])) [.t 9]),qm 6 10])
 (.seq (.seq (.reg false [qo 7 (.mv (.c (.i .i64 0)))])
 (.blk 0 (.loop (.seq (.seq (.reg false [qm 11 7,qm 12 0,qo 13 (.len (.t 12)),qo 14 (.bin .lss (.t 11) (.t 13)),qm 15 14,qg 16 (.mv (.t 6)) 15 true,qg 17 (.nilck (.t 16)) 15 true,qg 18 (.fa 18 (.t 17)) 15 true,qg 19 (.ld none (.t 18)) 15 true,qg 20 (.un .not (.t 19)) 15 true,qo 21 (.pick (.t 15) (.t 20) (.c (.b false)))])
 (.cond (.t 21) .skip
 (.ext 0)))
 (.seq (.blk 1 (.seq (.reg false [qm 24 0,qm 25 7,qo 26 (.ia 7 (.t 24) (.t 25)),qo 27 (.ld (some 7) (.t 26)),qo 8 (.new (List.replicate 5 (.i .i64 0) ++ [.sl [] 0 .rig,.i .i64 0])),qn (.st 7 (.t 8) (.t 27))])
 (.seq (.reg false [qo 28 (.fa 0 (.t 8)),qo 29 (.ld none (.t 28))])
 (.blk 2 (.seq (.reg false [qo 31 (.bin .eql (.t 29) (.c (.i .i64 1))),qm 30 31])
 (.cond (.t 30) (.reg false [qm 32 6,qo 33 (.fa 4 (.t 8)),qo 34 (.ld none (.t 33)),qo 35 (.fa 1 (.t 8)),qo 36 (.ld none (.t 35)),qo 37 (.fa 3 (.t 8)),qo 38 (.ld none (.t 37)),qo 39 (.call .raw (.c (.fn 113 [] [])) [.t 32,.t 34,.t 36,.c (.b false),.t 38])])
 (.seq (.reg false [qo 41 (.bin .eql (.t 29) (.c (.i .i64 2))),qm 40 41])
 (.cond (.t 40) (.reg true [qm 42 6,qo 43 (.fa 4 (.t 8)),qo 44 (.ld none (.t 43)),qo 45 (.fa 1 (.t 8)),qo 46 (.ld none (.t 45)),qo 47 (.fa 5 (.t 8)),qo 48 (.ld none (.t 47)),qm 49 6,qo 50 (.nilck (.t 49)),qo 51 (.fa 0 (.t 50)),qo 52 (.fa 6 (.t 51)),qo 53 (.ld none (.t 52)),qo 54 (.call .pure (.c (.fn 115 [] [])) [.t 48,.t 53]),qm 55 6,qo 56 (.fa 5 (.t 8)),qo 57 (.ld none (.t 56)),qo 58 (.call .see (.c (.fn 116 [] [])) [.t 55,.t 57]),qo 59 (.call .raw (.c (.fn 114 [] [])) [.t 42,.t 44,.t 46,.c (.b false),.t 54,.t 58])])
 (.seq (.reg false [qo 61 (.bin .eql (.t 29) (.c (.i .i64 3))),qm 60 61])
 (.cond (.t 60) (.reg false [qm 62 6,qo 63 (.fa 1 (.t 8)),qo 64 (.ld none (.t 63)),qo 65 (.build (List.replicate 5 (.i .i64 0) ++ [.b false]) [(1,1,.c (.i .i64 3)),(2,1,.t 64)]),qo 66 (.call .raw (.c (.fn 117 [] [])) [.t 62,.t 65,.c (.sl [] 0 .rig)])])
 (.seq (.reg false [qo 68 (.bin .eql (.t 29) (.c (.i .i64 4))),qm 67 68])
 (.cond (.t 67) (.reg false [qm 69 6,qo 70 (.ld (some 7) (.t 8)),qo 71 (.call .raw (.c (.fn 118 [] [])) [.t 69,.t 70])])
 (.seq (.reg false [qo 73 (.bin .eql (.t 29) (.c (.i .i64 5))),qm 72 73])
 (.cond (.t 72) (.reg false [qm 74 6,qo 75 (.fa 3 (.t 8)),qo 76 (.ld none (.t 75)),qo 77 (.fa 5 (.t 8)),qo 78 (.ld none (.t 77)),qo 79 (.call .raw (.c (.fn 119 [] [])) [.t 74,.t 76,.t 78])])
 (.seq (.reg false [qo 81 (.bin .eql (.t 29) (.c (.i .i64 6))),qm 80 81])
 (.cond (.t 80) (.reg false [qm 82 7,qm 83 6,qo 84 (.fa 6 (.t 8)),qo 85 (.ld none (.t 84)),qo 86 (.fa 5 (.t 8)),qo 87 (.ld none (.t 86)),qo 88 (.call .raw (.c (.fn 120 [] [])) [.t 83,.t 85,.t 87]),qo 89 (.bin .add (.t 82) (.t 88)),qm 7 89])
 .skip))))))))))))))))
 (.reg false [qm 22 7,qo 23 (.bin .add (.t 22) (.c (.i .i64 1))),qm 7 23]))))))
 (.seq (.seq (.reg false [qm 90 6,qo 91 (.nilck (.t 90)),qo 92 (.fa 18 (.t 91)),qo 93 (.ld none (.t 92))])
 (.cond (.t 93) (.seq (.reg false [qo 94 (.build (List.replicate 5 (.sl [] 0 .rig) ++ [.i .i64 0,.sl [] 0 .rig]) []),qn (.st 7 (.t 4) (.t 94)),qo 5 (.mv (.c (.b false)))])
 .ret)
 .skip))
 (.seq (.reg false [qm 95 6,qo 96 (.nilck (.t 95)),qo 97 (.fa 0 (.t 96)),qo 98 (.ld (some 7) (.t 97)),qn (.st 7 (.t 4) (.t 98)),qo 5 (.mv (.c (.b true)))])
 .ret))))) }
def A_xref05_Start:AFun:={ res:=[.t 2],body:=(.seq (.reg false [qo 2 (.mv (.c (.nilp)))])
 (.seq (.reg false [qm 4 0,qo 5 (.build (List.replicate 5 (.sl [] 0 .rig) ++ [.i .i64 0] ++ List.replicate 12 (.sl [] 0 .rig) ++ [.b false]) [(7,1,.t 4)]),qo 6 (.box (.t 5)),qm 3 6])
 (.seq (.reg false [qm 7 3,qo 8 (.mksl ([.i .i64 0]) 1 8 (.c (.i .i64 8)) (.c (.i .i64 8))),qo 9 (.nilck (.t 7)),qo 10 (.fa 0 (.t 9)),qo 11 (.fa 6 (.t 10)),qn (.st 1 (.t 11) (.t 8))])
 (.seq (.reg false [qm 12 3,qm 2 12])
 .ret)))) }
def A_xref05_S_Read:AFun:={ res:=[.t 10],body:=(.seq (.reg false [qo 10 (.mv (.c (.b false)))])
 (.seq (.seq (.reg true [qm 13 0,qo 14 (.nilck (.t 13)),qo 15 (.fa 0 (.t 14)),qo 16 (.fa 5 (.t 15)),qo 17 (.ld none (.t 16)),qm 18 0,qo 19 (.nilck (.t 18)),qo 20 (.fa 7 (.t 19)),qo 21 (.ld none (.t 20)),qo 22 (.len (.t 21)),qo 23 (.bin .geq (.t 17) (.t 22))])
 (.cond (.t 23) (.seq (.reg false [qm 24 0,qo 25 (.nilck (.t 24)),qo 26 (.fa 18 (.t 25)),qn (.st 1 (.t 26) (.c (.b true)))])
 (.seq (.reg false [qo 10 (.mv (.c (.b false)))])
 .ret))
 .skip))
 (.seq (.reg true [qm 27 0,qo 28 (.nilck (.t 27)),qo 29 (.fa 7 (.t 28)),qo 30 (.ld none (.t 29)),qm 31 0,qo 32 (.nilck (.t 31)),qo 33 (.fa 0 (.t 32)),qo 34 (.fa 5 (.t 33)),qo 35 (.ld none (.t 34)),qo 36 (.ia 1 (.t 30) (.t 35)),qo 37 (.ld none (.t 36)),qm 11 37])
 (.seq (.reg false [qm 38 0,qo 39 (.nilck (.t 38)),qo 40 (.fa 0 (.t 39)),qo 41 (.fa 5 (.t 40)),qo 42 (.ld none (.t 41)),qo 43 (.bin .add (.t 42) (.c (.i .i64 1))),qo 44 (.nilck (.t 38)),qo 45 (.fa 0 (.t 44)),qo 46 (.fa 5 (.t 45)),qn (.st 1 (.t 46) (.t 43))])
 (.seq (.reg false [qm 47 0,qm 48 2,qm 49 1,qm 50 11,qm 51 3,qo 52 (.build (List.replicate 5 (.i .i64 0) ++ [.b false]) [(1,1,.c (.i .i64 1)),(2,1,.t 48),(3,1,.t 49),(4,1,.t 50),(5,1,.t 51)]),qo 53 (.call .raw (.c (.fn 117 [] [])) [.t 47,.t 52,.c (.sl [] 0 .rig)]),qm 12 53])
 (.seq (.reg true [qm 54 0,qo 55 (.nilck (.t 54)),qo 56 (.fa 0 (.t 55)),qo 57 (.fa 6 (.t 56)),qo 58 (.ld none (.t 57)),qm 59 4,qm 60 0,qm 61 4,qm 62 11,qm 63 12,qo 64 (.bsl true 1 ([.i .i64 0]) [(0,1,.t 63)]),qo 65 (.ia 1 (.t 58) (.t 59)),qn (.st 1 (.t 65) (.t 62)),qo 66 (.nilck (.t 60)),qo 67 (.fa 8 (.t 66)),qo 68 (.iaa 8 1 (.t 67) (.t 61)),qn (.st 1 (.t 68) (.t 64))])
 (.seq (.reg false [qo 10 (.mv (.c (.b true)))])
 .ret))))))) }
def A_xref05_S_Write:AFun:={ res:=[],body:=(.seq (.reg false [qm 13 0,qm 14 2,qm 15 1,qm 16 4,qm 17 3,qo 18 (.build (List.replicate 5 (.i .i64 0) ++ [.b false]) [(1,1,.c (.i .i64 2)),(2,1,.t 14),(3,1,.t 15),(4,1,.t 16),(5,1,.t 17)]),qm 19 5,qo 20 (.call .raw (.c (.fn 117 [] [])) [.t 13,.t 18,.t 19]),qm 12 20])
 (.seq (.reg false [qm 21 3])
 (.cond (.t 21) (.reg false [qm 22 0,qm 23 0,qo 24 (.nilck (.t 23)),qo 25 (.fa 0 (.t 24)),qo 26 (.fa 1 (.t 25)),qo 27 (.ld none (.t 26)),qm 28 12,qo 29 (.bin .sub (.t 28) (.c (.i .i64 1))),qm 30 12,qo 31 (.build ([.i .i64 0,.i .i64 0]) [(0,1,.t 29),(1,1,.t 30)]),qo 32 (.bsl true 1 ([.i .i64 0,.i .i64 0]) [(0,2,.t 31)]),qo 33 (.app 2 16 (.t 27) (.t 32)),qo 34 (.nilck (.t 22)),qo 35 (.fa 0 (.t 34)),qo 36 (.fa 1 (.t 35)),qn (.st 1 (.t 36) (.t 33))])
 .skip))) }
def A_xref05_S_Of:AFun:={ res:=[.t 4],body:=(.seq (.reg false [qo 4 (.mv (.c (.sl [] 0 .rig)))])
 (.seq (.reg false [qo 5 (.mv (.c (.sl [] 0 .rig)))])
 (.seq (.reg false [qm 8 1,qo 9 (.call .pure (.c (.fn 126 [] [])) [.t 8]),qm 6 9])
 (.seq (.seq (.reg false [qo 7 (.mv (.c (.i .i64 0)))])
 (.blk 0 (.loop (.seq (.seq (.reg false [qm 10 7,qm 11 6,qo 12 (.len (.t 11)),qo 13 (.bin .lss (.t 10) (.t 12))])
 (.cond (.t 13) .skip
 (.ext 0)))
 (.seq (.blk 1 (.reg true [qm 16 5,qm 17 0,qm 18 6,qm 19 7,qo 20 (.ia 1 (.t 18) (.t 19)),qo 21 (.ld none (.t 20)),qo 22 (.nilck (.t 17)),qo 23 (.fa 8 (.t 22)),qo 24 (.iaa 8 1 (.t 23) (.t 21)),qo 25 (.ld none (.t 24)),qo 26 (.call .pure (.c (.fn 129 [] [])) [.t 16,.t 25]),qm 5 26]))
 (.reg false [qm 14 7,qo 15 (.bin .add (.t 14) (.c (.i .i64 1))),qm 7 15]))))))
 (.seq (.reg false [qm 27 5,qm 4 27])
 .ret))))) }
def A_xref05_S_Event:AFun:={ res:=[.t 6],body:=(.seq (.reg false [qo 4 (.box (.t 1)),qo 6 (.mv (.c (.i .i64 0)))])
 (.seq (.reg false [qm 8 0,qo 9 (.nilck (.t 8)),qo 10 (.fa 0 (.t 9)),qo 11 (.fa 0 (.t 10)),qo 12 (.ld none (.t 11)),qo 13 (.len (.t 12)),qm 7 13])
 (.seq (.reg true [qm 14 0,qm 15 0,qo 16 (.nilck (.t 15)),qo 17 (.fa 0 (.t 16)),qo 18 (.fa 0 (.t 17)),qo 19 (.ld none (.t 18)),qo 20 (.ld (some 6) (.t 4)),qo 21 (.bsl true 1 (List.replicate 5 (.i .i64 0) ++ [.b false]) [(0,6,.t 20)]),qo 22 (.app 6 48 (.t 19) (.t 21)),qo 23 (.nilck (.t 14)),qo 24 (.fa 0 (.t 23)),qo 25 (.fa 0 (.t 24)),qnp (.st 1 (.t 25) (.t 22)) [8]])
 (.seq (.reg false [qm 26 0,qm 27 0,qo 28 (.nilck (.t 27)),qo 29 (.fa 0 (.t 28)),qo 30 (.fa 2 (.t 29)),qo 31 (.ld none (.t 30)),qm 32 2,qm 33 7,qo 34 (.call .pure (.c (.fn 130 [] [])) [.t 31,.t 32,.t 33]),qo 35 (.nilck (.t 26)),qo 36 (.fa 0 (.t 35)),qo 37 (.fa 2 (.t 36)),qn (.st 1 (.t 37) (.t 34))])
 (.seq (.reg true [qm 38 0,qm 39 0,qo 40 (.nilck (.t 39)),qo 41 (.fa 0 (.t 40)),qo 42 (.fa 3 (.t 41)),qo 43 (.ld none (.t 42)),qm 44 0,qo 45 (.nilck (.t 44)),qo 46 (.fa 16 (.t 45)),qo 47 (.ld none (.t 46)),qm 48 7,qo 49 (.call .pure (.c (.fn 130 [] [])) [.t 43,.t 47,.t 48]),qo 50 (.nilck (.t 38)),qo 51 (.fa 0 (.t 50)),qo 52 (.fa 3 (.t 51)),qn (.st 1 (.t 52) (.t 49))])
 (.seq (.reg true [qm 53 0,qm 54 0,qo 55 (.nilck (.t 54)),qo 56 (.fa 0 (.t 55)),qo 57 (.fa 4 (.t 56)),qo 58 (.ld none (.t 57)),qm 59 0,qo 60 (.nilck (.t 59)),qo 61 (.fa 17 (.t 60)),qo 62 (.ld none (.t 61)),qm 63 7,qo 64 (.call .pure (.c (.fn 130 [] [])) [.t 58,.t 62,.t 63]),qo 65 (.nilck (.t 53)),qo 66 (.fa 0 (.t 65)),qo 67 (.fa 4 (.t 66)),qn (.st 1 (.t 67) (.t 64))])
 (.seq (.reg false [qm 68 7,qm 6 68])
 .ret))))))) }
def A_xref05_S_faa:AFun:={ res:=[],body:=(.seq (.reg false [qo 3 (.box (.t 1))])
 (.seq (.reg false [qm 6 0,qo 7 (.fa 5 (.t 3)),qo 8 (.ld none (.t 7)),qo 9 (.call .see (.c (.fn 116 [] [])) [.t 6,.t 8]),qm 4 9])
 (.seq (.reg true [qo 10 (.fa 5 (.t 3)),qo 11 (.ld none (.t 10)),qm 12 0,qo 13 (.nilck (.t 12)),qo 14 (.fa 0 (.t 13)),qo 15 (.fa 6 (.t 14)),qo 16 (.ld none (.t 15)),qo 17 (.call .pure (.c (.fn 115 [] [])) [.t 11,.t 16]),qm 5 17])
 (.seq (.reg false [qm 18 0,qo 19 (.fa 4 (.t 3)),qo 20 (.ld none (.t 19)),qo 21 (.fa 1 (.t 3)),qo 22 (.ld none (.t 21)),qo 23 (.fa 3 (.t 3)),qo 24 (.ld none (.t 23)),qo 25 (.call .raw (.c (.fn 113 [] [])) [.t 18,.t 20,.t 22,.c (.b true),.t 24])])
 (.cond (.t 25) (.reg true [qm 26 0,qo 27 (.fa 4 (.t 3)),qo 28 (.ld none (.t 27)),qo 29 (.fa 2 (.t 3)),qo 30 (.ld none (.t 29)),qm 31 0,qo 32 (.nilck (.t 31)),qo 33 (.fa 0 (.t 32)),qo 34 (.fa 6 (.t 33)),qo 35 (.ld none (.t 34)),qo 36 (.fa 3 (.t 3)),qo 37 (.ld none (.t 36)),qo 38 (.ia 1 (.t 35) (.t 37)),qo 39 (.ld none (.t 38)),qm 40 5,qo 41 (.bin .add (.t 39) (.t 40)),qm 42 4,qm 43 0,qo 44 (.fa 3 (.t 3)),qo 45 (.ld none (.t 44)),qo 46 (.nilck (.t 43)),qo 47 (.fa 8 (.t 46)),qo 48 (.iaa 8 1 (.t 47) (.t 45)),qo 49 (.ld none (.t 48)),qo 50 (.call .pure (.c (.fn 129 [] [])) [.t 42,.t 49]),qo 51 (.call .raw (.c (.fn 114 [] [])) [.t 26,.t 28,.t 30,.c (.b true),.t 41,.t 50])])
 .skip))))) }
def A_xref05_S_Move:AFun:={ res:=[],body:=(.seq (.reg false [qm 7 0,qm 8 2,qo 9 (.call .see (.c (.fn 116 [] [])) [.t 7,.t 8]),qm 6 9])
 (.seq (.reg true [qm 10 0,qo 11 (.nilck (.t 10)),qo 12 (.fa 0 (.t 11)),qo 13 (.fa 6 (.t 12)),qo 14 (.ld none (.t 13)),qm 15 1,qm 16 2,qm 17 0,qo 18 (.nilck (.t 17)),qo 19 (.fa 0 (.t 18)),qo 20 (.fa 6 (.t 19)),qo 21 (.ld none (.t 20)),qo 22 (.call .pure (.c (.fn 115 [] [])) [.t 16,.t 21]),qo 23 (.ia 1 (.t 14) (.t 15)),qn (.st 1 (.t 23) (.t 22))])
 (.reg false [qm 24 0,qm 25 1,qm 26 6,qo 27 (.nilck (.t 24)),qo 28 (.fa 8 (.t 27)),qo 29 (.iaa 8 1 (.t 28) (.t 25)),qn (.st 1 (.t 29) (.t 26))]))) }
def A_xref05_S_Skip:AFun:={ res:=[.t 6],body:=(.seq (.reg false [qo 6 (.mv (.c (.i .i64 0)))])
 (.seq (.reg true [qm 7 0,qm 8 0,qo 9 (.nilck (.t 8)),qo 10 (.fa 16 (.t 9)),qo 11 (.ld none (.t 10)),qm 12 0,qm 13 2,qo 14 (.call .see (.c (.fn 116 [] [])) [.t 12,.t 13]),qo 15 (.call .pure (.c (.fn 129 [] [])) [.t 11,.t 14]),qo 16 (.nilck (.t 7)),qo 17 (.fa 16 (.t 16)),qn (.st 1 (.t 17) (.t 15))])
 (.seq (.seq (.reg false [qm 18 2,qm 19 0,qo 20 (.nilck (.t 19)),qo 21 (.fa 0 (.t 20)),qo 22 (.fa 6 (.t 21)),qo 23 (.ld none (.t 22)),qo 24 (.call .pure (.c (.fn 115 [] [])) [.t 18,.t 23]),qo 25 (.bin .neq (.t 24) (.c (.i .i64 0)))])
 (.cond (.t 25) (.seq (.reg false [qm 26 1,qm 6 26])
 .ret)
 .skip))
 (.seq (.reg false [qo 6 (.mv (.c (.i .i64 0)))])
 .ret)))) }
def A_xref05_Both:AFun:={ res:=[.t 4],body:=(.seq (.reg false [qo 4 (.mv (.c (.sl [] 0 .rig)))])
 (.seq (.seq (.reg false [qo 5 (.mv (.c (.i .i64 0)))])
 (.blk 0 (.loop (.seq (.seq (.reg false [qm 6 5,qm 7 1,qo 8 (.len (.t 7)),qo 9 (.bin .lss (.t 6) (.t 8))])
 (.cond (.t 9) .skip
 (.ext 0)))
 (.seq (.blk 1 (.reg false [qm 12 0,qm 13 1,qm 14 5,qo 15 (.ia 1 (.t 13) (.t 14)),qo 16 (.ld none (.t 15)),qo 17 (.call .pure (.c (.fn 132 [] [])) [.t 12,.t 16]),qm 0 17]))
 (.reg false [qm 10 5,qo 11 (.bin .add (.t 10) (.c (.i .i64 1))),qm 5 11]))))))
 (.seq (.reg false [qm 18 0,qm 4 18])
 .ret))) }
def A_xref05_pairs:AFun:={ res:=[.t 6],body:=(.seq (.reg false [qo 6 (.mv (.c (.sl [] 0 .rig)))])
 (.seq (.seq (.reg false [qo 7 (.mv (.c (.i .i64 0)))])
 (.blk 0 (.loop (.seq (.seq (.reg false [qm 10 7,qm 11 1,qo 12 (.len (.t 11)),qo 13 (.bin .lss (.t 10) (.t 12))])
 (.cond (.t 13) .skip
 (.ext 0)))
 (.seq (.blk 1 (.seq (.reg false [qm 16 1,qm 17 7,qo 18 (.ia 1 (.t 16) (.t 17)),qo 19 (.ld none (.t 18)),qm 20 2,qo 21 (.build ([.i .i64 0,.i .i64 0]) [(0,1,.t 19),(1,1,.t 20)]),qo 8 (.new ([.i .i64 0,.i .i64 0])),qn (.st 2 (.t 8) (.t 21))])
 (.seq (.reg false [qo 9 (.mv (.c (.i .i64 0)))])
 (.seq (.blk 2 (.loop (.seq (.seq (.reg true [qm 22 9,qm 23 0,qo 24 (.len (.t 23)),qo 25 (.bin .lss (.t 22) (.t 24)),qm 26 25,qg 27 (.mv (.t 0)) 26 true,qg 28 (.mv (.t 9)) 26 true,qg 29 (.ia 2 (.t 27) (.t 28)) 26 true,qg 30 (.fa 0 (.t 29)) 26 true,qg 31 (.ld none (.t 30)) 26 true,qg 32 (.fa 0 (.t 8)) 26 true,qg 33 (.ld none (.t 32)) 26 true,qg 34 (.bin .lss (.t 31) (.t 33)) 26 true,qg 35 (.mv (.t 34)) 26 true,qg 36 (.mv (.t 0)) 35 false,qg 37 (.mv (.t 9)) 35 false,qg 38 (.ia 2 (.t 36) (.t 37)) 35 false,qg 39 (.fa 0 (.t 38)) 35 false,qg 40 (.ld none (.t 39)) 35 false,qg 41 (.fa 0 (.t 8)) 35 false,qg 42 (.ld none (.t 41)) 35 false,qg 43 (.bin .eql (.t 40) (.t 42)) 35 false,qg 44 (.mv (.t 43)) 35 false,qg 45 (.mv (.t 0)) 44 true,qg 46 (.mv (.t 9)) 44 true,qg 47 (.ia 2 (.t 45) (.t 46)) 44 true,qg 48 (.fa 1 (.t 47)) 44 true,qg 49 (.ld none (.t 48)) 44 true,qg 50 (.fa 1 (.t 8)) 44 true,qg 51 (.ld none (.t 50)) 44 true,qg 52 (.bin .lss (.t 49) (.t 51)) 44 true,qg 53 (.pick (.t 44) (.t 52) (.c (.b false))) 35 false,qg 54 (.pick (.t 35) (.c (.b true)) (.t 53)) 26 true,qo 55 (.pick (.t 26) (.t 54) (.c (.b false)))])
 (.cond (.t 55) .skip
 (.ext 2)))
 (.blk 3 (.reg false [qm 56 9,qo 57 (.bin .add (.t 56) (.c (.i .i64 1))),qm 9 57])))))
 (.reg true [qm 58 0,qm 59 9,qo 60 (.slice 2 (.t 58) none (some (.t 59)) none),qo 61 (.app 2 16 (.c (.sl [] 0 .rig)) (.t 60)),qo 62 (.ld (some 2) (.t 8)),qo 63 (.bsl true 1 ([.i .i64 0,.i .i64 0]) [(0,2,.t 62)]),qp 64 (.app 2 16 (.t 61) (.t 63)) [3],qm 65 0,qm 66 9,qo 67 (.slice 2 (.t 65) (some (.t 66)) none none),qp 68 (.app 2 16 (.t 64) (.t 67)) [3,6],qm 0 68])))))
 (.reg false [qm 14 7,qo 15 (.bin .add (.t 14) (.c (.i .i64 1))),qm 7 15]))))))
 (.seq (.reg false [qm 69 0,qm 6 69])
 .ret))) }
def A_xref05_Put:AFun:={ res:=[.t 4],body:=(.seq (.reg false [qo 4 (.mv (.c (.sl [] 0 .rig)))])
 (.seq (.reg false [qo 5 (.mv (.c (.i .i64 0)))])
 (.seq (.blk 0 (.loop (.seq (.seq (.reg false [qm 6 5,qm 7 0,qo 8 (.len (.t 7)),qo 9 (.bin .lss (.t 6) (.t 8)),qm 10 9,qg 11 (.mv (.t 0)) 10 true,qg 12 (.mv (.t 5)) 10 true,qg 13 (.ia 1 (.t 11) (.t 12)) 10 true,qg 14 (.ld none (.t 13)) 10 true,qg 15 (.mv (.t 1)) 10 true,qg 16 (.bin .lss (.t 14) (.t 15)) 10 true,qo 17 (.pick (.t 10) (.t 16) (.c (.b false)))])
 (.cond (.t 17) .skip
 (.ext 0)))
 (.blk 1 (.reg false [qm 18 5,qo 19 (.bin .add (.t 18) (.c (.i .i64 1))),qm 5 19])))))
 (.seq (.seq (.reg false [qm 20 5,qm 21 0,qo 22 (.len (.t 21)),qo 23 (.bin .lss (.t 20) (.t 22)),qm 24 23,qg 25 (.mv (.t 0)) 24 true,qg 26 (.mv (.t 5)) 24 true,qg 27 (.ia 1 (.t 25) (.t 26)) 24 true,qg 28 (.ld none (.t 27)) 24 true,qg 29 (.mv (.t 1)) 24 true,qg 30 (.bin .eql (.t 28) (.t 29)) 24 true,qo 31 (.pick (.t 24) (.t 30) (.c (.b false)))])
 (.cond (.t 31) (.seq (.reg false [qm 32 0,qm 4 32])
 .ret)
 .skip))
 (.seq (.reg true [qm 33 0,qm 34 5,qo 35 (.slice 1 (.t 33) none (some (.t 34)) none),qo 36 (.app 1 8 (.c (.sl [] 0 .rig)) (.t 35)),qm 37 1,qo 38 (.bsl true 1 ([.i .i64 0]) [(0,1,.t 37)]),qp 39 (.app 1 8 (.t 36) (.t 38)) [3],qm 40 0,qm 41 5,qo 42 (.slice 1 (.t 40) (some (.t 41)) none none),qp 43 (.app 1 8 (.t 39) (.t 42)) [3,6],qm 4 43])
 .ret))))) }
end Go.Ab
end
section
namespace Go.Ab
def A_xref07_Skeleton:AFun:={ res:=[.cell 4 (some 8),.t 5],body:=(.seq (.reg false [qo 2 (.box (.t 0)),qo 4 (.new ([.i .i64 0] ++ List.replicate 7 (.sl [] 0 .rig))),qo 5 (.mv (.c (.i .i64 0)))])
 (.seq (.seq (.reg false [qo 11 (.ld (some 2) (.t 2)),qo 12 (.call .pure (.c (.fn 87 [] [])) [.t 11]),qo 13 (.bin .neq (.t 12) (.c (.i .i64 0)))])
 (.cond (.t 13) (.seq (.reg false [qo 14 (.build ([.i .i64 0] ++ List.replicate 7 (.sl [] 0 .rig)) []),qn (.st 8 (.t 4) (.t 14)),qo 5 (.mv (.c (.i .i64 3)))])
 .ret)
 .skip))
 (.seq (.reg false [qo 15 (.fa 0 (.t 2)),qo 16 (.ld none (.t 15)),qo 17 (.call .raw (.c (.fn 103 [] [])) [.t 16]),qo 6 (.new ([.i .i64 0] ++ List.replicate 7 (.sl [] 0 .rig))),qn (.st 8 (.t 6) (.t 17))])
 (.seq (.seq (.reg false [qo 7 (.mv (.c (.i .i64 0)))])
 (.blk 0 (.loop (.seq (.seq (.reg false [qm 18 7,qo 19 (.fa 1 (.t 2)),qo 20 (.ld none (.t 19)),qo 21 (.len (.t 20)),qo 22 (.bin .lss (.t 18) (.t 21))])
 (.cond (.t 22) .skip
 (.ext 0)))
 (.seq (.blk 1 (.seq (.reg false [qo 8 (.mv (.c (.sl [] 0 .rig)))])
 (.seq (.seq (.reg false [qm 25 7,qm 26 1,qo 27 (.len (.t 26)),qo 28 (.bin .lss (.t 25) (.t 27))])
 (.cond (.t 28) (.reg false [qm 29 1,qm 30 7,qo 31 (.ia 1 (.t 29) (.t 30)),qo 32 (.ld none (.t 31)),qm 8 32])
 .skip))
 (.seq (.reg false [qo 34 (.fa 1 (.t 2)),qo 35 (.ld none (.t 34)),qm 36 7,qo 37 (.ia 1 (.t 35) (.t 36)),qo 38 (.ld none (.t 37)),qm 39 8,qo 40 (.call .pure (.c (.fn 104 [] [])) [.t 38,.t 39]),qm 33 40,qo 41 (.ext 0 (.t 33)),qo 42 (.ext 1 (.t 33)),qo 9 (.new (List.replicate 5 (.sl [] 0 .rig) ++ [.i .i64 0,.sl [] 0 .rig])),qn (.st 7 (.t 9) (.t 41)),qm 10 42])
 (.seq (.seq (.reg false [qm 43 10,qo 44 (.un .not (.t 43)),qm 45 44,qg 46 (.fa 5 (.t 9)) 45 false,qg 47 (.ld none (.t 46)) 45 false,qg 48 (.mv (.t 8)) 45 false,qg 49 (.len (.t 48)) 45 false,qg 50 (.bin .neq (.t 47) (.t 49)) 45 false,qo 51 (.pick (.t 45) (.c (.b true)) (.t 50))])
 (.cond (.t 51) (.seq (.reg false [qo 52 (.build ([.i .i64 0] ++ List.replicate 7 (.sl [] 0 .rig)) []),qn (.st 8 (.t 4) (.t 52)),qo 5 (.mv (.c (.i .i64 6)))])
 .ret)
 .skip))
 (.seq (.reg false [qo 53 (.fa 4 (.t 9)),qn (.st 1 (.t 53) (.c (.sl [] 0 .rig)))])
 (.reg false [qo 54 (.ld (some 7) (.t 9)),qm 55 7,qo 56 (.bin .add (.t 55) (.c (.i .i64 1))),qo 57 (.call .raw (.c (.fn 105 [] [])) [.t 6,.t 54,.t 56])])))))))
 (.reg false [qm 23 7,qo 24 (.bin .add (.t 23) (.c (.i .i64 1))),qm 7 24]))))))
 (.seq (.reg false [qo 58 (.ld (some 8) (.t 6)),qn (.st 8 (.t 4) (.t 58)),qo 5 (.mv (.c (.i .i64 0)))])
 .ret))))) }
def A_xref07_First:AFun:={ res:=[.cell 2 (some 8)],body:=(.seq (.reg false [qo 2 (.new ([.i .i64 0] ++ List.replicate 7 (.sl [] 0 .rig)))])
 (.seq (.reg false [qm 5 0,qo 6 (.build ([.i .i64 0] ++ List.replicate 7 (.sl [] 0 .rig)) [(0,1,.t 5)]),qo 3 (.new ([.i .i64 0] ++ List.replicate 7 (.sl [] 0 .rig))),qn (.st 8 (.t 3) (.t 6))])
 (.seq (.seq (.reg false [qo 4 (.mv (.c (.i .i64 0)))])
 (.blk 0 (.loop (.seq (.seq (.reg false [qm 7 4,qm 8 0,qo 9 (.bin .lss (.t 7) (.t 8))])
 (.cond (.t 9) .skip
 (.ext 0)))
 (.seq (.blk 1 (.reg false [qo 12 (.fa 1 (.t 3)),qo 13 (.ld none (.t 12)),qm 14 4,qo 15 (.build (List.replicate 5 (.i .i64 0) ++ [.b false]) [(1,1,.c (.i .i64 2)),(3,1,.t 14)]),qo 16 (.bsl true 1 (List.replicate 5 (.i .i64 0) ++ [.b false]) [(0,6,.t 15)]),qo 17 (.app 6 48 (.t 13) (.t 16)),qo 18 (.fa 1 (.t 3)),qn (.st 1 (.t 18) (.t 17))]))
 (.reg false [qm 10 4,qo 11 (.bin .add (.t 10) (.c (.i .i64 1))),qm 4 11]))))))
 (.seq (.reg false [qo 19 (.ld (some 8) (.t 3)),qn (.st 8 (.t 2) (.t 19))])
 .ret)))) }
def A_xref07_Lay:AFun:={ res:=[],body:=(.seq (.reg false [qo 4 (.box (.t 1))])
 (.seq (.reg false [qm 9 0,qo 10 (.nilck (.t 9)),qo 11 (.fa 1 (.t 10)),qo 12 (.ld none (.t 11)),qo 13 (.len (.t 12)),qm 6 13])
 (.seq (.seq (.reg false [qo 7 (.mv (.c (.i .i64 0)))])
 (.blk 0 (.loop (.seq (.seq (.reg false [qm 14 7,qo 15 (.fa 0 (.t 4)),qo 16 (.ld none (.t 15)),qo 17 (.len (.t 16)),qo 18 (.bin .lss (.t 14) (.t 17))])
 (.cond (.t 18) .skip
 (.ext 0)))
 (.seq (.blk 1 (.seq (.reg false [qo 21 (.fa 0 (.t 4)),qo 22 (.ld none (.t 21)),qm 23 7,qo 24 (.ia 6 (.t 22) (.t 23)),qo 25 (.ld (some 6) (.t 24)),qo 8 (.new (List.replicate 5 (.i .i64 0) ++ [.b false])),qn (.st 6 (.t 8) (.t 25))])
 (.seq (.reg false [qm 26 2,qo 27 (.fa 0 (.t 8)),qn (.st 1 (.t 27) (.t 26))])
 (.reg true [qm 28 0,qm 29 0,qo 30 (.nilck (.t 29)),qo 31 (.fa 1 (.t 30)),qo 32 (.ld none (.t 31)),qo 33 (.ld (some 6) (.t 8)),qo 34 (.bsl true 1 (List.replicate 5 (.i .i64 0) ++ [.b false]) [(0,6,.t 33)]),qo 35 (.app 6 48 (.t 32) (.t 34)),qo 36 (.nilck (.t 28)),qo 37 (.fa 1 (.t 36)),qnp (.st 1 (.t 37) (.t 35)) [7]]))))
 (.reg false [qm 19 7,qo 20 (.bin .add (.t 19) (.c (.i .i64 1))),qm 7 20]))))))
 (.seq (.reg true [qm 38 0,qm 39 0,qo 40 (.nilck (.t 39)),qo 41 (.fa 4 (.t 40)),qo 42 (.ld none (.t 41)),qo 43 (.fa 1 (.t 4)),qo 44 (.ld none (.t 43)),qm 45 6,qo 46 (.call .pure (.c (.fn 121 [] [])) [.t 44,.t 45]),qo 47 (.app 2 16 (.t 42) (.t 46)),qo 48 (.nilck (.t 38)),qo 49 (.fa 4 (.t 48)),qnp (.st 1 (.t 49) (.t 47)) [9]])
 (.seq (.reg true [qm 50 0,qm 51 0,qo 52 (.nilck (.t 51)),qo 53 (.fa 5 (.t 52)),qo 54 (.ld none (.t 53)),qo 55 (.fa 2 (.t 4)),qo 56 (.ld none (.t 55)),qm 57 6,qo 58 (.call .pure (.c (.fn 121 [] [])) [.t 56,.t 57]),qo 59 (.app 2 16 (.t 54) (.t 58)),qo 60 (.nilck (.t 50)),qo 61 (.fa 5 (.t 60)),qnp (.st 1 (.t 61) (.t 59)) [9]])
 (.seq (.reg true [qm 62 0,qm 63 0,qo 64 (.nilck (.t 63)),qo 65 (.fa 6 (.t 64)),qo 66 (.ld none (.t 65)),qo 67 (.fa 3 (.t 4)),qo 68 (.ld none (.t 67)),qm 69 6,qo 70 (.call .pure (.c (.fn 121 [] [])) [.t 68,.t 69]),qo 71 (.app 2 16 (.t 66) (.t 70)),qo 72 (.nilck (.t 62)),qo 73 (.fa 6 (.t 72)),qnp (.st 1 (.t 73) (.t 71)) [9]])
 (.reg true [qm 74 0,qm 75 0,qo 76 (.nilck (.t 75)),qo 77 (.fa 7 (.t 76)),qo 78 (.ld none (.t 77)),qo 79 (.fa 4 (.t 4)),qo 80 (.ld none (.t 79)),qm 81 6,qo 82 (.call .pure (.c (.fn 121 [] [])) [.t 80,.t 81]),qo 83 (.app 2 16 (.t 78) (.t 82)),qo 84 (.nilck (.t 74)),qo 85 (.fa 7 (.t 84)),qnp (.st 1 (.t 85) (.t 83)) [9]]))))))) }
def A_xref07_moved:AFun:={ res:=[.t 4],body:=(.seq (.reg false [qo 4 (.mv (.c (.sl [] 0 .rig)))])
 (.seq (.reg false [qo 5 (.mv (.c (.sl [] 0 .rig)))])
 (.seq (.seq (.reg false [qo 6 (.mv (.c (.i .i64 0)))])
 (.blk 0 (.loop (.seq (.seq (.reg false [qm 7 6,qm 8 0,qo 9 (.len (.t 8)),qo 10 (.bin .lss (.t 7) (.t 9))])
 (.cond (.t 10) .skip
 (.ext 0)))
 (.seq (.blk 1 (.reg true [qm 13 5,qm 14 0,qm 15 6,qo 16 (.ia 2 (.t 14) (.t 15)),qo 17 (.fa 0 (.t 16)),qo 18 (.ld none (.t 17)),qm 19 1,qo 20 (.bin .add (.t 18) (.t 19)),qm 21 0,qm 22 6,qo 23 (.ia 2 (.t 21) (.t 22)),qo 24 (.fa 1 (.t 23)),qo 25 (.ld none (.t 24)),qm 26 1,qo 27 (.bin .add (.t 25) (.t 26)),qo 28 (.build ([.i .i64 0,.i .i64 0]) [(0,1,.t 20),(1,1,.t 27)]),qo 29 (.bsl true 1 ([.i .i64 0,.i .i64 0]) [(0,2,.t 28)]),qo 30 (.app 2 16 (.t 13) (.t 29)),qm 5 30]))
 (.reg false [qm 11 6,qo 12 (.bin .add (.t 11) (.c (.i .i64 1))),qm 6 12]))))))
 (.seq (.reg false [qm 31 5,qm 4 31])
 .ret)))) }
end Go.Ab
end
section
namespace Go.Ab
def A_xref13_All:AFun:={ res:=[.t 4,.t 5],body:=(.seq (.reg false [qo 2 (.box (.t 0)),qo 4 (.mv (.c (.sl [] 0 .rig))),qo 5 (.mv (.c (.i .i64 0)))])
 (.seq (.seq (.reg false [qo 13 (.ld (some 2) (.t 2)),qo 14 (.call .pure (.c (.fn 87 [] [])) [.t 13]),qo 15 (.bin .neq (.t 14) (.c (.i .i64 0)))])
 (.cond (.t 15) (.seq (.reg false [qo 4 (.mv (.c (.sl [] 0 .rig))),qo 5 (.mv (.c (.i .i64 3)))])
 .ret)
 .skip))
 (.seq (.reg false [qo 6 (.mv (.c (.sl [] 0 .rig)))])
 (.seq (.seq (.reg false [qo 7 (.mv (.c (.i .i64 0)))])
 (.blk 0 (.loop (.seq (.seq (.reg false [qm 16 7,qo 17 (.fa 1 (.t 2)),qo 18 (.ld none (.t 17)),qo 19 (.len (.t 18)),qo 20 (.bin .lss (.t 16) (.t 19))])
 (.cond (.t 20) .skip
 (.ext 0)))
 (.seq (.blk 1 (.reg false [qm 23 6,qo 24 (.fa 1 (.t 2)),qo 25 (.ld none (.t 24)),qm 26 7,qo 27 (.ia 1 (.t 25) (.t 26)),qo 28 (.ld none (.t 27)),qm 29 1,qo 30 (.call .pure (.c (.fn 88 [] [])) [.t 28,.t 29]),qo 31 (.bsl true 1 ([.sl [] 0 .rig]) [(0,1,.t 30)]),qo 32 (.app 1 24 (.t 23) (.t 31)),qm 6 32]))
 (.reg false [qm 21 7,qo 22 (.bin .add (.t 21) (.c (.i .i64 1))),qm 7 22]))))))
 (.seq (.reg false [qo 33 (.build ([.sl [] 0 .rig,.b false]) []),qo 34 (.box (.t 33)),qm 8 34])
 (.seq (.reg false [qm 35 6,qo 36 (.call .pure (.c (.fn 89 [] [])) [.t 35]),qm 9 36])
 (.seq (.seq (.reg false [qo 10 (.mv (.c (.i .i64 0)))])
 (.blk 2 (.loop (.seq (.seq (.reg false [qm 37 10,qm 38 9,qo 39 (.len (.t 38)),qo 40 (.bin .lss (.t 37) (.t 39))])
 (.cond (.t 40) .skip
 (.ext 2)))
 (.seq (.blk 3 (.seq (.reg true [qo 44 (.ld (some 2) (.t 2)),qm 45 9,qm 46 10,qo 47 (.ia 1 (.t 45) (.t 46)),qo 48 (.ld none (.t 47)),qo 49 (.call .pure (.c (.fn 90 [] [])) [.t 44,.t 48]),qm 43 49,qo 50 (.ext 0 (.t 43)),qo 51 (.ext 1 (.t 43)),qo 11 (.new ([.i .i64 0] ++ List.replicate 7 (.sl [] 0 .rig))),qnp (.stL 8 (.t 11) (.t 50)) [9],qm 12 51])
 (.reg false [qm 52 8,qo 53 (.ld (some 8) (.t 11)),qo 54 (.call .raw (.c (.fn 91 [] [])) [.t 52,.t 53])])))
 (.reg false [qm 41 10,qo 42 (.bin .add (.t 41) (.c (.i .i64 1))),qm 10 42]))))))
 (.seq (.seq (.reg false [qm 55 8,qo 56 (.nilck (.t 55)),qo 57 (.fa 1 (.t 56)),qo 58 (.ld none (.t 57))])
 (.cond (.t 58) (.seq (.reg false [qo 4 (.mv (.c (.sl [] 0 .rig))),qo 5 (.mv (.c (.i .i64 4)))])
 .ret)
 .skip))
 (.seq (.reg false [qm 59 8,qo 60 (.nilck (.t 59)),qo 61 (.fa 0 (.t 60)),qo 62 (.ld none (.t 61)),qm 4 62,qo 5 (.mv (.c (.i .i64 0)))])
 .ret))))))))) }
def A_xref13_Values:AFun:={ res:=[.t 4],body:=(.seq (.reg false [qo 4 (.mv (.c (.sl [] 0 .rig)))])
 (.seq (.reg false [qm 5 0,qm 6 1,qo 7 (.call .pure (.c (.fn 102 [] [])) [.t 6]),qo 8 (.call .raw (.c (.fn 101 [] [])) [.t 5,.t 7,.c (.sl [] 0 .rig),.c (.sl [] 0 .rig)]),qm 4 8])
 .ret)) }
def A_xref13_Lots:AFun:={ res:=[.t 2],body:=(.seq (.reg false [qo 2 (.mv (.c (.sl [] 0 .rig)))])
 (.seq (.reg false [qo 8 (.bsl true 1 ([.sl [] 0 .rig]) [(0,1,.c (.sl [] 0 .rig))]),qm 3 8])
 (.seq (.seq (.reg false [qo 4 (.mv (.c (.i .i64 0)))])
 (.blk 0 (.loop (.seq (.seq (.reg false [qm 9 4,qm 10 0,qo 11 (.len (.t 10)),qo 12 (.bin .lss (.t 9) (.t 11))])
 (.cond (.t 12) .skip
 (.ext 0)))
 (.seq (.blk 1 (.seq (.reg false [qo 5 (.mv (.c (.sl [] 0 .rig)))])
 (.seq (.seq (.reg false [qo 6 (.mv (.c (.i .i64 0)))])
 (.blk 2 (.loop (.seq (.seq (.reg false [qm 15 6,qm 16 3,qo 17 (.len (.t 16)),qo 18 (.bin .lss (.t 15) (.t 17))])
 (.cond (.t 18) .skip
 (.ext 2)))
 (.seq (.blk 3 (.seq (.reg false [qo 7 (.mv (.c (.i .i64 0)))])
 (.blk 4 (.loop (.seq (.seq (.reg false [qm 21 7,qm 22 0,qm 23 4,qo 24 (.ia 1 (.t 22) (.t 23)),qo 25 (.ld none (.t 24)),qo 26 (.len (.t 25)),qo 27 (.bin .lss (.t 21) (.t 26)),qm 28 27,qg 29 (.mv (.t 5)) 28 true,qg 30 (.len (.t 29)) 28 true,qg 31 (.bin .leq (.t 30) (.c (.i .i64 200000))) 28 true,qo 32 (.pick (.t 28) (.t 31) (.c (.b false)))])
 (.cond (.t 32) .skip
 (.ext 4)))
 (.seq (.blk 5 (.reg true [qm 35 5,qm 36 3,qm 37 6,qo 38 (.ia 1 (.t 36) (.t 37)),qo 39 (.ld none (.t 38)),qo 40 (.app 1 24 (.c (.sl [] 0 .rig)) (.t 39)),qm 41 0,qm 42 4,qo 43 (.ia 1 (.t 41) (.t 42)),qo 44 (.ld none (.t 43)),qm 45 7,qo 46 (.ia 1 (.t 44) (.t 45)),qo 47 (.ld none (.t 46)),qo 48 (.bsl true 1 ([.sl [] 0 .rig]) [(0,1,.t 47)]),qp 49 (.app 1 24 (.t 40) (.t 48)) [5],qp 50 (.bsl true 1 ([.sl [] 0 .rig]) [(0,1,.t 49)]) [5,14],qp 51 (.app 1 24 (.t 35) (.t 50)) [5,14],qm 5 51]))
 (.reg false [qm 33 7,qo 34 (.bin .add (.t 33) (.c (.i .i64 1))),qm 7 34])))))))
 (.reg false [qm 19 6,qo 20 (.bin .add (.t 19) (.c (.i .i64 1))),qm 6 20]))))))
 (.reg false [qm 52 5,qm 3 52]))))
 (.reg false [qm 13 4,qo 14 (.bin .add (.t 13) (.c (.i .i64 1))),qm 4 14]))))))
 (.seq (.reg false [qm 53 3,qm 2 53])
 .ret)))) }
def A_xref13_E_Finish:AFun:={ res:=[],body:=(.seq (.reg false [qo 3 (.box (.t 1))])
 (.seq (.reg false [qo 5 (.fa 1 (.t 3)),qo 6 (.ld none (.t 5)),qo 7 (.len (.t 6)),qo 8 (.mksl ([.i .i64 0]) 1 8 (.t 7) (.t 7)),qo 9 (.fa 2 (.t 3)),qn (.st 1 (.t 9) (.t 8))])
 (.seq (.reg false [qo 10 (.fa 0 (.t 3)),qo 11 (.ld none (.t 10)),qo 12 (.mksl ([.sl [] 0 .rig]) 1 24 (.t 11) (.t 11)),qo 13 (.fa 3 (.t 3)),qn (.st 1 (.t 13) (.t 12))])
 (.seq (.seq (.reg false [qo 4 (.mv (.c (.i .i64 0)))])
 (.blk 0 (.loop (.seq (.seq (.reg false [qm 14 4,qo 15 (.fa 0 (.t 3)),qo 16 (.ld none (.t 15)),qo 17 (.bin .lss (.t 14) (.t 16))])
 (.cond (.t 17) .skip
 (.ext 0)))
 (.seq (.blk 1 (.reg false [qo 20 (.fa 3 (.t 3)),qo 21 (.ld none (.t 20)),qm 22 4,qm 23 4,qo 24 (.bsl true 1 ([.i .i64 0]) [(0,1,.t 23)]),qo 25 (.ia 1 (.t 21) (.t 22)),qn (.st 1 (.t 25) (.t 24))]))
 (.reg false [qm 18 4,qo 19 (.bin .add (.t 18) (.c (.i .i64 1))),qm 4 19]))))))
 (.reg false [qm 26 0,qo 27 (.ld (some 8) (.t 3)),qo 28 (.call .raw (.c (.fn 106 [] [])) [.t 26,.t 27,.c (.i .i64 0)])]))))) }
def A_xref13_values:AFun:={ res:=[.t 8],body:=(.seq (.reg false [qo 8 (.mv (.c (.sl [] 0 .rig)))])
 (.seq (.reg false [qm 13 0,qm 14 2,qo 15 (.call .pure (.c (.fn 104 [] [])) [.t 13,.t 14]),qm 12 15,qo 16 (.ext 0 (.t 12)),qo 17 (.ext 1 (.t 12)),qo 9 (.new (List.replicate 5 (.sl [] 0 .rig) ++ [.i .i64 0,.sl [] 0 .rig])),qn (.st 7 (.t 9) (.t 16)),qm 10 17])
 (.seq (.seq (.reg false [qm 18 10,qm 19 18,qg 20 (.fa 5 (.t 9)) 19 true,qg 21 (.ld none (.t 20)) 19 true,qg 22 (.mv (.t 2)) 19 true,qg 23 (.len (.t 22)) 19 true,qg 24 (.bin .eql (.t 21) (.t 23)) 19 true,qo 25 (.pick (.t 19) (.t 24) (.c (.b false)))])
 (.cond (.t 25) (.seq (.reg false [qm 26 3,qm 27 2,qo 28 (.app 1 8 (.c (.sl [] 0 .rig)) (.t 27)),qo 29 (.bsl true 1 ([.sl [] 0 .rig]) [(0,1,.t 28)]),qo 30 (.app 1 24 (.t 26) (.t 29)),qm 8 30])
 .ret)
 .skip))
 (.seq (.seq (.reg false [qo 11 (.mv (.c (.i .i64 0)))])
 (.blk 0 (.loop (.seq (.seq (.reg false [qm 31 11,qm 32 1,qo 33 (.len (.t 32)),qo 34 (.bin .lss (.t 31) (.t 33)),qm 35 34,qg 36 (.mv (.t 3)) 35 true,qg 37 (.len (.t 36)) 35 true,qg 38 (.bin .leq (.t 37) (.c (.i .i64 20000))) 35 true,qo 39 (.pick (.t 35) (.t 38) (.c (.b false)))])
 (.cond (.t 39) .skip
 (.ext 0)))
 (.seq (.blk 1 (.reg true [qm 42 0,qm 43 1,qm 44 2,qo 45 (.app 1 8 (.c (.sl [] 0 .rig)) (.t 44)),qm 46 1,qm 47 11,qo 48 (.ia 1 (.t 46) (.t 47)),qo 49 (.ld none (.t 48)),qo 50 (.bsl true 1 ([.i .i64 0]) [(0,1,.t 49)]),qp 51 (.app 1 8 (.t 45) (.t 50)) [3],qm 52 3,qp 53 (.call .raw (.c (.fn 101 [] [])) [.t 42,.t 43,.t 51,.t 52]) [3,9],qm 3 53]))
 (.reg false [qm 40 11,qo 41 (.bin .add (.t 40) (.c (.i .i64 1))),qm 11 41]))))))
 (.seq (.reg false [qm 54 3,qm 8 54])
 .ret))))) }
def A_xref13_Domain:AFun:={ res:=[.t 2],body:=(.seq (.reg false [qo 2 (.mv (.c (.sl [] 0 .rig)))])
 (.seq (.reg false [qo 3 (.mv (.c (.sl [] 0 .rig)))])
 (.seq (.seq (.reg false [qo 4 (.mv (.c (.i .i64 0)))])
 (.blk 0 (.loop (.seq (.seq (.reg false [qm 7 4,qm 8 0,qo 9 (.len (.t 8)),qo 10 (.bin .lss (.t 7) (.t 9)),qm 11 10,qg 12 (.mv (.t 4)) 11 true,qg 13 (.bin .lss (.t 12) (.c (.i .i64 8))) 11 true,qo 14 (.pick (.t 11) (.t 13) (.c (.b false)))])
 (.cond (.t 14) .skip
 (.ext 0)))
 (.seq (.blk 1 (.seq (.reg false [qo 5 (.mv (.c (.b false)))])
 (.seq (.seq (.reg false [qo 6 (.mv (.c (.i .i64 0)))])
 (.blk 2 (.loop (.seq (.seq (.reg false [qm 17 6,qm 18 3,qo 19 (.len (.t 18)),qo 20 (.bin .lss (.t 17) (.t 19))])
 (.cond (.t 20) .skip
 (.ext 2)))
 (.seq (.blk 3 (.reg true [qm 23 5,qm 24 23,qg 25 (.mv (.t 3)) 24 false,qg 26 (.mv (.t 6)) 24 false,qg 27 (.ia 1 (.t 25) (.t 26)) 24 false,qg 28 (.ld none (.t 27)) 24 false,qg 29 (.mv (.t 0)) 24 false,qg 30 (.mv (.t 4)) 24 false,qg 31 (.ia 1 (.t 29) (.t 30)) 24 false,qg 32 (.ld none (.t 31)) 24 false,qg 33 (.bin .eql (.t 28) (.t 32)) 24 false,qo 34 (.pick (.t 24) (.c (.b true)) (.t 33)),qm 5 34]))
 (.reg false [qm 21 6,qo 22 (.bin .add (.t 21) (.c (.i .i64 1))),qm 6 22]))))))
 (.seq (.reg false [qm 35 5,qo 36 (.un .not (.t 35))])
 (.cond (.t 36) (.reg false [qm 37 3,qm 38 0,qm 39 4,qo 40 (.ia 1 (.t 38) (.t 39)),qo 41 (.ld none (.t 40)),qo 42 (.bsl true 1 ([.i .i64 0]) [(0,1,.t 41)]),qo 43 (.app 1 8 (.t 37) (.t 42)),qm 3 43])
 .skip)))))
 (.reg false [qm 15 4,qo 16 (.bin .add (.t 15) (.c (.i .i64 1))),qm 4 16]))))))
 (.seq (.reg false [qm 44 3,qm 2 44])
 .ret)))) }
def A_xref13_E_rf:AFun:={ res:=[],body:=(.seq (.reg false [qo 4 (.box (.t 1))])
 (.seq (.seq (.reg false [qm 9 0,qo 10 (.nilck (.t 9)),qo 11 (.fa 1 (.t 10)),qo 12 (.ld none (.t 11))])
 (.cond (.t 12) .ret
 .skip))
 (.seq (.seq (.reg false [qm 13 2,qo 14 (.fa 1 (.t 4)),qo 15 (.ld none (.t 14)),qo 16 (.len (.t 15)),qo 17 (.bin .eql (.t 13) (.t 16))])
 (.cond (.t 17) (.seq (.reg false [qm 18 0,qo 19 (.ld (some 8) (.t 4)),qo 20 (.call .raw (.c (.fn 122 [] [])) [.t 18,.t 19,.c (.i .i64 0)])])
 .ret)
 .skip))
 (.seq (.reg false [qo 21 (.fa 1 (.t 4)),qo 22 (.ld none (.t 21)),qm 23 2,qo 24 (.ia 6 (.t 22) (.t 23)),qo 25 (.ld (some 6) (.t 24)),qo 6 (.new (List.replicate 5 (.i .i64 0) ++ [.b false])),qn (.st 6 (.t 6) (.t 25))])
 (.seq (.seq (.reg false [qo 26 (.fa 1 (.t 6)),qo 27 (.ld none (.t 26)),qo 28 (.bin .neq (.t 27) (.c (.i .i64 1)))])
 (.cond (.t 28) (.seq (.reg false [qo 29 (.fa 2 (.t 4)),qo 30 (.ld none (.t 29)),qm 31 2,qo 32 (.ia 1 (.t 30) (.t 31)),qn (.st 1 (.t 32) (.c (.i .i64 (-1))))])
 (.seq (.reg false [qm 33 0,qo 34 (.ld (some 8) (.t 4)),qm 35 2,qo 36 (.bin .add (.t 35) (.c (.i .i64 1))),qo 37 (.call .raw (.c (.fn 106 [] [])) [.t 33,.t 34,.t 36])])
 .ret))
 .skip))
 (.seq (.reg false [qo 7 (.mv (.c (.i .i64 0)))])
 (.blk 0 (.loop (.seq (.seq (.reg false [qm 38 7,qo 39 (.fa 1 (.t 4)),qo 40 (.ld none (.t 39)),qo 41 (.len (.t 40)),qo 42 (.bin .lss (.t 38) (.t 41))])
 (.cond (.t 42) .skip
 (.ext 0)))
 (.seq (.blk 1 (.seq (.reg false [qo 45 (.fa 1 (.t 4)),qo 46 (.ld none (.t 45)),qm 47 7,qo 48 (.ia 6 (.t 46) (.t 47)),qo 49 (.ld (some 6) (.t 48)),qo 8 (.new (List.replicate 5 (.i .i64 0) ++ [.b false])),qn (.st 6 (.t 8) (.t 49))])
 (.seq (.reg false [qo 50 (.fa 1 (.t 8)),qo 51 (.ld none (.t 50)),qo 52 (.bin .eql (.t 51) (.c (.i .i64 2))),qm 53 52,qg 54 (.fa 3 (.t 8)) 53 true,qg 55 (.ld none (.t 54)) 53 true,qg 56 (.fa 3 (.t 6)) 53 true,qg 57 (.ld none (.t 56)) 53 true,qg 58 (.bin .eql (.t 55) (.t 57)) 53 true,qo 59 (.pick (.t 53) (.t 58) (.c (.b false))),qm 60 59,qg 61 (.fa 4 (.t 8)) 60 true,qg 62 (.ld none (.t 61)) 60 true,qg 63 (.fa 4 (.t 6)) 60 true,qg 64 (.ld none (.t 63)) 60 true,qg 65 (.bin .eql (.t 62) (.t 64)) 60 true,qo 66 (.pick (.t 60) (.t 65) (.c (.b false)))])
 (.cond (.t 66) (.seq (.reg false [qo 67 (.fa 2 (.t 4)),qo 68 (.ld none (.t 67)),qm 69 2,qm 70 7,qo 71 (.ia 1 (.t 68) (.t 69)),qn (.st 1 (.t 71) (.t 70))])
 (.reg false [qm 72 0,qo 73 (.ld (some 8) (.t 4)),qm 74 2,qo 75 (.bin .add (.t 74) (.c (.i .i64 1))),qo 76 (.call .raw (.c (.fn 106 [] [])) [.t 72,.t 73,.t 75])]))
 .skip))))
 (.reg false [qm 43 7,qo 44 (.bin .add (.t 43) (.c (.i .i64 1))),qm 7 44]))))))))))) }
def A_xref13_E_co:AFun:={ res:=[],body:=(.seq (.reg false [qo 4 (.box (.t 1))])
 (.seq (.seq (.reg false [qm 12 0,qo 13 (.nilck (.t 12)),qo 14 (.fa 1 (.t 13)),qo 15 (.ld none (.t 14))])
 (.cond (.t 15) .ret
 .skip))
 (.seq (.seq (.reg false [qm 16 2,qo 17 (.fa 0 (.t 4)),qo 18 (.ld none (.t 17)),qo 19 (.bin .eql (.t 16) (.t 18))])
 (.cond (.t 19) (.seq (.reg true [qm 20 0,qm 21 0,qo 22 (.nilck (.t 21)),qo 23 (.fa 0 (.t 22)),qo 24 (.ld none (.t 23)),qo 25 (.ld (some 8) (.t 4)),qo 26 (.call .see (.c (.fn 131 [] [])) [.t 25]),qo 27 (.bsl true 1 ([.i .i64 0] ++ List.replicate 7 (.sl [] 0 .rig)) [(0,8,.t 26)]),qo 28 (.app 8 176 (.t 24) (.t 27)),qo 29 (.nilck (.t 20)),qo 30 (.fa 0 (.t 29)),qnp (.st 1 (.t 30) (.t 28)) [8]])
 (.seq (.reg false [qm 31 0,qm 32 0,qo 33 (.nilck (.t 32)),qo 34 (.fa 0 (.t 33)),qo 35 (.ld none (.t 34)),qo 36 (.len (.t 35)),qo 37 (.bin .gtr (.t 36) (.c (.i .i64 20000))),qo 38 (.nilck (.t 31)),qo 39 (.fa 1 (.t 38)),qn (.st 1 (.t 39) (.t 37))])
 .ret))
 .skip))
 (.seq (.reg false [qo 6 (.mv (.c (.b false)))])
 (.seq (.reg false [qo 40 (.fa 3 (.t 4)),qo 41 (.ld none (.t 40)),qm 42 2,qo 43 (.ia 1 (.t 41) (.t 42)),qo 44 (.ld none (.t 43)),qm 7 44])
 (.seq (.seq (.reg false [qo 45 (.fa 0 (.t 4)),qo 46 (.ld none (.t 45)),qm 8 46])
 (.blk 0 (.loop (.seq (.seq (.reg false [qm 47 8,qo 48 (.fa 1 (.t 4)),qo 49 (.ld none (.t 48)),qo 50 (.len (.t 49)),qo 51 (.bin .lss (.t 47) (.t 50))])
 (.cond (.t 51) .skip
 (.ext 0)))
 (.seq (.blk 1 (.seq (.reg false [qo 54 (.fa 1 (.t 4)),qo 55 (.ld none (.t 54)),qm 56 8,qo 57 (.ia 6 (.t 55) (.t 56)),qo 58 (.ld (some 6) (.t 57)),qo 9 (.new (List.replicate 5 (.i .i64 0) ++ [.b false])),qn (.st 6 (.t 9) (.t 58))])
 (.seq (.reg false [qo 59 (.fa 1 (.t 9)),qo 60 (.ld none (.t 59)),qo 61 (.bin .neq (.t 60) (.c (.i .i64 2))),qm 62 61,qg 63 (.fa 3 (.t 9)) 62 false,qg 64 (.ld none (.t 63)) 62 false,qg 65 (.mv (.t 2)) 62 false,qg 66 (.bin .neq (.t 64) (.t 65)) 62 false,qo 67 (.pick (.t 62) (.c (.b true)) (.t 66)),qm 10 67])
 (.seq (.seq (.reg false [qo 11 (.mv (.c (.i .i64 0)))])
 (.blk 2 (.loop (.seq (.seq (.reg false [qm 68 11,qm 69 7,qo 70 (.len (.t 69)),qo 71 (.bin .lss (.t 68) (.t 70))])
 (.cond (.t 71) .skip
 (.ext 2)))
 (.seq (.blk 3 (.reg false [qm 74 10,qm 75 74,qg 76 (.mv (.t 7)) 75 false,qg 77 (.mv (.t 11)) 75 false,qg 78 (.ia 1 (.t 76) (.t 77)) 75 false,qg 79 (.ld none (.t 78)) 75 false,qg 80 (.mv (.t 8)) 75 false,qg 81 (.bin .eql (.t 79) (.t 80)) 75 false,qo 82 (.pick (.t 75) (.c (.b true)) (.t 81)),qm 10 82]))
 (.reg false [qm 72 11,qo 73 (.bin .add (.t 72) (.c (.i .i64 1))),qm 11 73]))))))
 (.seq (.reg false [qm 83 10,qo 84 (.un .not (.t 83))])
 (.cond (.t 84) (.seq (.reg false [qo 6 (.mv (.c (.b true)))])
 (.seq (.reg true [qo 85 (.fa 3 (.t 4)),qo 86 (.ld none (.t 85)),qm 87 2,qm 88 7,qo 89 (.app 1 8 (.c (.sl [] 0 .rig)) (.t 88)),qm 90 8,qo 91 (.bsl true 1 ([.i .i64 0]) [(0,1,.t 90)]),qp 92 (.app 1 8 (.t 89) (.t 91)) [4],qo 93 (.ia 1 (.t 86) (.t 87)),qnp (.st 1 (.t 93) (.t 92)) [4,7]])
 (.reg false [qm 94 0,qo 95 (.ld (some 8) (.t 4)),qm 96 2,qo 97 (.call .raw (.c (.fn 122 [] [])) [.t 94,.t 95,.t 96])])))
 .skip))))))
 (.reg false [qm 52 8,qo 53 (.bin .add (.t 52) (.c (.i .i64 1))),qm 8 53]))))))
 (.seq (.reg false [qo 98 (.fa 3 (.t 4)),qo 99 (.ld none (.t 98)),qm 100 2,qm 101 7,qo 102 (.ia 1 (.t 99) (.t 100)),qn (.st 1 (.t 102) (.t 101))])
 (.seq (.reg false [qm 103 6,qo 104 (.un .not (.t 103))])
 (.cond (.t 104) (.reg false [qm 105 0,qo 106 (.ld (some 8) (.t 4)),qm 107 2,qo 108 (.bin .add (.t 107) (.c (.i .i64 1))),qo 109 (.call .raw (.c (.fn 122 [] [])) [.t 105,.t 106,.t 108])])
 .skip))))))))) }
def A_xref13_copied:AFun:={ res:=[.cell 2 (some 8)],body:=(.seq (.reg false [qo 1 (.box (.t 0)),qo 2 (.new ([.i .i64 0] ++ List.replicate 7 (.sl [] 0 .rig)))])
 (.seq (.reg false [qo 5 (.ld (some 8) (.t 1)),qo 3 (.new ([.i .i64 0] ++ List.replicate 7 (.sl [] 0 .rig))),qn (.st 8 (.t 3) (.t 5))])
 (.seq (.reg false [qo 6 (.fa 2 (.t 1)),qo 7 (.ld none (.t 6)),qo 8 (.app 1 8 (.c (.sl [] 0 .rig)) (.t 7)),qo 9 (.fa 2 (.t 3)),qn (.st 1 (.t 9) (.t 8))])
 (.seq (.reg false [qo 10 (.fa 3 (.t 3)),qn (.st 1 (.t 10) (.c (.sl [] 0 .rig)))])
 (.seq (.seq (.reg false [qo 4 (.mv (.c (.i .i64 0)))])
 (.blk 0 (.loop (.seq (.seq (.reg false [qm 11 4,qo 12 (.fa 3 (.t 1)),qo 13 (.ld none (.t 12)),qo 14 (.len (.t 13)),qo 15 (.bin .lss (.t 11) (.t 14))])
 (.cond (.t 15) .skip
 (.ext 0)))
 (.seq (.blk 1 (.reg true [qo 18 (.fa 3 (.t 3)),qo 19 (.ld none (.t 18)),qo 20 (.fa 3 (.t 1)),qo 21 (.ld none (.t 20)),qm 22 4,qo 23 (.ia 1 (.t 21) (.t 22)),qo 24 (.ld none (.t 23)),qo 25 (.app 1 8 (.c (.sl [] 0 .rig)) (.t 24)),qp 26 (.bsl true 1 ([.sl [] 0 .rig]) [(0,1,.t 25)]) [7],qp 27 (.app 1 24 (.t 19) (.t 26)) [7],qo 28 (.fa 3 (.t 3)),qnp (.st 1 (.t 28) (.t 27)) [7,9]]))
 (.reg false [qm 16 4,qo 17 (.bin .add (.t 16) (.c (.i .i64 1))),qm 4 17]))))))
 (.seq (.reg false [qo 29 (.ld (some 8) (.t 3)),qn (.st 8 (.t 2) (.t 29))])
 .ret)))))) }
end Go.Ab
end
section
namespace Go.Ab
def A_graph_Po:AFun:={ res:=[.t 2],body:=(.seq (.reg false [qo 1 (.box (.t 0)),qo 2 (.mv (.c (.nilp)))])
 (.seq (.reg false [qo 3 (.mv (.c (.sl [] 0 .rig)))])
 (.seq (.seq (.reg false [qo 8 (.fa 1 (.t 1)),qo 9 (.ld none (.t 8)),qo 10 (.len (.t 9)),qo 11 (.mv (.c (.i .i64 0)))])
 (.blk 0 (.loop (.seq (.reg false [qo 12 (.bin .lss (.t 11) (.t 10))])
 (.seq (.cond (.t 12) .skip
 (.ext 0))
 (.seq (.blk 1 (.seq (.reg false [qm 13 11,qo 14 (.ia 6 (.t 9) (.t 11)),qo 15 (.ld (some 6) (.t 14)),qo 5 (.new (List.replicate 5 (.i .i64 0) ++ [.b false])),qm 4 13,qn (.st 6 (.t 5) (.t 15))])
 (.seq (.reg false [qo 16 (.fa 1 (.t 1)),qo 17 (.ld none (.t 16)),qo 18 (.len (.t 17)),qo 19 (.mv (.c (.i .i64 0)))])
 (.blk 2 (.loop (.seq (.reg false [qo 20 (.bin .lss (.t 19) (.t 18))])
 (.seq (.cond (.t 20) .skip
 (.ext 2))
 (.seq (.blk 3 (.seq (.reg false [qm 21 19,qo 22 (.ia 6 (.t 17) (.t 19)),qo 23 (.ld (some 6) (.t 22)),qo 7 (.new (List.replicate 5 (.i .i64 0) ++ [.b false])),qm 6 21,qn (.st 6 (.t 7) (.t 23))])
 (.seq (.reg false [qo 24 (.fa 0 (.t 5)),qo 25 (.ld none (.t 24)),qo 26 (.bin .eql (.t 25) (.c (.i .i64 0))),qm 27 26,qg 28 (.fa 0 (.t 7)) 27 true,qg 29 (.ld none (.t 28)) 27 true,qg 30 (.bin .neq (.t 29) (.c (.i .i64 0))) 27 true,qo 31 (.pick (.t 27) (.t 30) (.c (.b false))),qm 32 31,qg 33 (.fa 0 (.t 5)) 32 false,qg 34 (.ld none (.t 33)) 32 false,qg 35 (.fa 0 (.t 7)) 32 false,qg 36 (.ld none (.t 35)) 32 false,qg 37 (.bin .eql (.t 34) (.t 36)) 32 false,qg 38 (.mv (.t 37)) 32 false,qg 39 (.fa 0 (.t 5)) 38 true,qg 40 (.ld none (.t 39)) 38 true,qg 41 (.bin .neq (.t 40) (.c (.i .i64 0))) 38 true,qg 42 (.pick (.t 38) (.t 41) (.c (.b false))) 32 false,qg 43 (.mv (.t 42)) 32 false,qg 44 (.mv (.t 4)) 43 true,qg 45 (.mv (.t 6)) 43 true,qg 46 (.bin .lss (.t 44) (.t 45)) 43 true,qg 47 (.pick (.t 43) (.t 46) (.c (.b false))) 32 false,qo 48 (.pick (.t 32) (.c (.b true)) (.t 47))])
 (.cond (.t 48) (.reg false [qm 49 3,qm 50 4,qm 51 6,qo 52 (.build ([.i .i64 0,.i .i64 0]) [(0,1,.t 50),(1,1,.t 51)]),qo 53 (.bsl true 1 ([.i .i64 0,.i .i64 0]) [(0,2,.t 52)]),qo 54 (.app 2 16 (.t 49) (.t 53)),qm 3 54])
 .skip))))
 (.reg false [qo 55 (.bin .add (.t 19) (.c (.i .i64 1))),qm 19 55])))))))))
 (.reg false [qo 56 (.bin .add (.t 11) (.c (.i .i64 1))),qm 11 56])))))))
 (.seq (.reg false [qo 57 (.ld (some 8) (.t 1)),qm 58 3,qo 59 (.call .pure (.c (.fn 81 [] [])) [.t 57,.t 58]),qm 2 59])
 .ret)))) }
def A_graph_Of:AFun:={ res:=[.t 4],body:=(.seq (.reg false [qo 2 (.box (.t 0)),qo 4 (.mv (.c (.nilp)))])
 (.seq (.reg false [qo 5 (.fa 1 (.t 2)),qo 6 (.ld none (.t 5)),qo 7 (.len (.t 6)),qm 8 1,qo 9 (.call .pure (.c (.fn 11 [] [])) [.t 7,.t 8]),qm 4 9])
 .ret)) }
def A_graph_Set:AFun:={ res:=[.t 4],body:=(.seq (.reg false [qo 2 (.box (.t 0)),qo 4 (.mv (.c (.nilp)))])
 (.seq (.reg false [qo 5 (.mv (.c (.sl [] 0 .rig)))])
 (.seq (.reg false [qm 9 1,qo 10 (.build ([.nilf]) [(0,1,.t 9)]),qo 6 (.new ([.nilf])),qn (.st 1 (.t 6) (.t 10))])
 (.seq (.seq (.reg false [qo 11 (.fa 1 (.t 2)),qo 12 (.ld none (.t 11)),qo 13 (.len (.t 12)),qo 14 (.mv (.c (.i .i64 0)))])
 (.blk 0 (.loop (.seq (.reg false [qo 15 (.bin .lss (.t 14) (.t 13))])
 (.seq (.cond (.t 15) .skip
 (.ext 0))
 (.seq (.blk 1 (.seq (.reg false [qm 16 14,qo 17 (.ia 6 (.t 12) (.t 14)),qo 18 (.ld (some 6) (.t 17)),qo 8 (.new (List.replicate 5 (.i .i64 0) ++ [.b false])),qm 7 16,qn (.st 6 (.t 8) (.t 18))])
 (.seq (.reg false [qo 19 (.fa 0 (.t 6)),qo 20 (.ld none (.t 19)),qo 21 (.ld (some 6) (.t 8)),qo 22 (.call .pure (.t 20) [.t 21])])
 (.cond (.t 22) (.reg false [qm 23 5,qm 24 7,qm 25 7,qo 26 (.build ([.i .i64 0,.i .i64 0]) [(0,1,.t 24),(1,1,.t 25)]),qo 27 (.bsl true 1 ([.i .i64 0,.i .i64 0]) [(0,2,.t 26)]),qo 28 (.app 2 16 (.t 23) (.t 27)),qm 5 28])
 .skip))))
 (.reg false [qo 29 (.bin .add (.t 14) (.c (.i .i64 1))),qm 14 29])))))))
 (.seq (.reg false [qo 30 (.ld (some 8) (.t 2)),qm 31 5,qo 32 (.call .pure (.c (.fn 81 [] [])) [.t 30,.t 31]),qm 4 32])
 .ret))))) }
end Go.Ab
end
section
namespace Go.Ab
def A_order_Bob:AFun:={ res:=[.t 2],body:=(.seq (.reg false [qo 1 (.boxI (.t 0)),qo 2 (.mv (.c (.nilp)))])
 (.seq (.reg false [qo 4 (.ld (some 8) (.t 1)),qo 5 (.call .pure (.c (.fn 60 [] [])) [.t 4]),qo 3 (.new ([.nilp])),qn (.st 1 (.t 3) (.t 5))])
 (.seq (.imm 3 (.reg false [qo 6 (.ld (some 8) (.t 1)),qo 7 (.mkfn 194 [] [.t 3,.t 1]),qo 8 (.mkfn 197 [] [.t 1,.t 3]),qo 9 (.mkfn 199 [] [.t 3,.t 1]),qo 10 (.mkfn 201 [] [.t 1,.t 3]),qo 11 (.mkfn 202 [] [.t 1]),qo 12 (.bsl true 5 (List.replicate 5 (.nilf)) [(0,1,.t 7),(1,1,.t 8),(2,1,.t 9),(3,1,.t 10),(4,1,.t 11)]),qo 13 (.call .pure (.c (.fn 193 [] [])) [.t 6,.t 12]),qm 2 13]))
 .ret))) }
def A_order_Ar:AFun:={ res:=[.t 2],body:=(.seq (.reg false [qo 1 (.boxI (.t 0)),qo 2 (.mv (.c (.nilp)))])
 (.seq (.reg false [qo 3 (.ld (some 8) (.t 1)),qo 4 (.mkfn 204 [] [.t 1]),qo 5 (.mkfn 205 [] [.t 1]),qo 6 (.mkfn 206 [] [.t 1]),qo 7 (.mkfn 208 [] [.t 1]),qo 8 (.mkfn 210 [] [.t 1]),qo 9 (.bsl true 5 (List.replicate 5 (.nilf)) [(0,1,.t 4),(1,1,.t 5),(2,1,.t 6),(3,1,.t 7),(4,1,.t 8)]),qo 10 (.call .pure (.c (.fn 193 [] [])) [.t 3,.t 9]),qm 2 10])
 .ret)) }
def A_order_all:AFun:={ res:=[.t 4],body:=(.seq (.reg false [qo 2 (.box (.t 0)),qo 4 (.mv (.c (.nilp)))])
 (.seq (.reg false [qo 8 (.fa 1 (.t 2)),qo 9 (.ld none (.t 8)),qo 10 (.len (.t 9)),qo 11 (.call .pure (.c (.fn 11 [] [])) [.t 10,.c (.sl [] 0 .rig)]),qm 5 11])
 (.seq (.seq (.reg false [qm 12 1,qo 13 (.len (.t 12)),qo 14 (.mv (.c (.i .i64 0)))])
 (.blk 0 (.loop (.seq (.reg false [qo 15 (.bin .lss (.t 14) (.t 13))])
 (.seq (.cond (.t 15) .skip
 (.ext 0))
 (.seq (.blk 1 (.seq (.reg false [qo 16 (.ia 1 (.t 12) (.t 14)),qo 17 (.ld none (.t 16)),qm 7 17])
 (.reg false [qm 18 5,qm 19 7,qo 20 (.call .pure (.t 19) []),qo 21 (.call .pure (.c (.fn 24 [] [])) [.t 18,.t 20]),qm 5 21])))
 (.reg false [qo 22 (.bin .add (.t 14) (.c (.i .i64 1))),qm 14 22])))))))
 (.seq (.reg false [qm 23 5,qm 4 23])
 .ret)))) }
def A_order_Bob_1:AFun:={ res:=[.t 2],body:=(.seq (.reg false [qo 2 (.mv (.c (.nilp)))])
 (.seq (.reg true [qo 3 (.ld none (.t 0)),qo 4 (.ld (some 8) (.t 1)),qo 5 (.call .pure (.c (.fn 195 [] [])) [.t 4,.c (.fn 196 [] [])]),qo 6 (.call .pure (.c (.fn 23 [] [])) [.t 3,.t 5]),qm 2 6])
 .ret)) }
def A_order_set:AFun:={ res:=[.t 4],body:=(.seq (.reg false [qo 2 (.box (.t 0)),qo 4 (.mv (.c (.nilp)))])
 (.seq (.reg false [qo 5 (.ld (some 8) (.t 2)),qm 6 1,qo 7 (.call .pure (.c (.fn 166 [] [])) [.t 5,.t 6]),qm 4 7])
 .ret)) }
def A_order_isRel:AFun:={ res:=[.t 2],body:=(.seq (.reg false [qo 1 (.box (.t 0)),qo 2 (.mv (.c (.b false)))])
 (.seq (.reg false [qo 3 (.ld (some 6) (.t 1)),qo 4 (.call .pure (.c (.fn 203 [] [])) [.t 3]),qm 5 4,qg 6 (.fa 2 (.t 1)) 5 true,qg 7 (.ld none (.t 6)) 5 true,qg 8 (.bin .eql (.t 7) (.c (.i .i64 2))) 5 true,qo 9 (.pick (.t 5) (.t 8) (.c (.b false))),qm 2 9])
 .ret)) }
def A_order_Bob_2:AFun:={ res:=[.t 2],body:=(.seq (.reg false [qo 2 (.mv (.c (.nilp)))])
 (.seq (.reg true [qo 3 (.ld (some 8) (.t 0)),qo 4 (.call .pure (.c (.fn 195 [] [])) [.t 3,.c (.fn 198 [] [])]),qo 5 (.ld none (.t 1)),qo 6 (.call .pure (.c (.fn 23 [] [])) [.t 4,.t 5]),qm 2 6])
 .ret)) }
def A_order_isAcq:AFun:={ res:=[.t 2],body:=(.seq (.reg false [qo 1 (.box (.t 0)),qo 2 (.mv (.c (.b false)))])
 (.seq (.reg false [qo 3 (.ld (some 6) (.t 1)),qo 4 (.call .pure (.c (.fn 240 [] [])) [.t 3]),qm 5 4,qg 6 (.fa 2 (.t 1)) 5 true,qg 7 (.ld none (.t 6)) 5 true,qg 8 (.bin .eql (.t 7) (.c (.i .i64 1))) 5 true,qo 9 (.pick (.t 5) (.t 8) (.c (.b false))),qm 2 9])
 .ret)) }
def A_order_Bob_3:AFun:={ res:=[.t 2],body:=(.seq (.reg false [qo 2 (.mv (.c (.nilp)))])
 (.seq (.reg true [qo 3 (.ld none (.t 0)),qo 4 (.ld (some 8) (.t 1)),qo 5 (.call .pure (.c (.fn 195 [] [])) [.t 4,.c (.fn 200 [] [])]),qo 6 (.call .pure (.c (.fn 23 [] [])) [.t 3,.t 5]),qm 2 6])
 .ret)) }
def A_order_isF:AFun:={ res:=[.t 2],body:=(.seq (.reg false [qo 1 (.box (.t 0)),qo 2 (.mv (.c (.b false)))])
 (.seq (.reg false [qo 3 (.fa 1 (.t 1)),qo 4 (.ld none (.t 3)),qo 5 (.bin .eql (.t 4) (.c (.i .i64 3))),qm 2 5])
 .ret)) }
def A_order_Bob_4:AFun:={ res:=[.t 2],body:=(.seq (.reg false [qo 2 (.mv (.c (.nilp)))])
 (.seq (.reg true [qo 3 (.ld (some 8) (.t 0)),qo 4 (.call .pure (.c (.fn 195 [] [])) [.t 3,.c (.fn 200 [] [])]),qo 5 (.ld none (.t 1)),qo 6 (.call .pure (.c (.fn 23 [] [])) [.t 4,.t 5]),qm 2 6])
 .ret)) }
def A_order_Bob_5:AFun:={ res:=[.t 1],body:=(.seq (.reg false [qo 1 (.mv (.c (.nilp)))])
 (.seq (.reg true [qo 2 (.ld (some 8) (.t 0)),qo 3 (.call .pure (.c (.fn 195 [] [])) [.t 2,.c (.fn 196 [] [])]),qo 4 (.ld (some 8) (.t 0)),qo 5 (.call .pure (.c (.fn 41 [] [])) [.t 4]),qo 6 (.call .pure (.c (.fn 23 [] [])) [.t 3,.t 5]),qo 7 (.ld (some 8) (.t 0)),qo 8 (.call .pure (.c (.fn 195 [] [])) [.t 7,.c (.fn 203 [] [])]),qo 9 (.call .pure (.c (.fn 23 [] [])) [.t 6,.t 8]),qm 1 9])
 .ret)) }
def A_order_isW:AFun:={ res:=[.t 2],body:=(.seq (.reg false [qo 1 (.box (.t 0)),qo 2 (.mv (.c (.b false)))])
 (.seq (.reg false [qo 3 (.fa 1 (.t 1)),qo 4 (.ld none (.t 3)),qo 5 (.bin .eql (.t 4) (.c (.i .i64 2))),qm 2 5])
 .ret)) }
def A_order_Ar_1:AFun:={ res:=[.t 1],body:=(.seq (.reg false [qo 1 (.mv (.c (.nilp)))])
 (.seq (.reg true [qo 2 (.ld (some 8) (.t 0)),qo 3 (.ld (some 8) (.t 0)),qo 4 (.call .pure (.c (.fn 48 [] [])) [.t 3]),qo 5 (.call .pure (.c (.fn 40 [] [])) [.t 2,.t 4]),qm 1 5])
 .ret)) }
def A_order_Ar_2:AFun:={ res:=[.t 1],body:=(.seq (.reg false [qo 1 (.mv (.c (.nilp)))])
 (.seq (.reg false [qo 2 (.ld (some 8) (.t 0)),qo 3 (.call .pure (.c (.fn 155 [] [])) [.t 2]),qm 1 3])
 .ret)) }
def A_order_Ar_3:AFun:={ res:=[.t 1],body:=(.seq (.reg false [qo 1 (.mv (.c (.nilp)))])
 (.seq (.reg false [qo 2 (.ld (some 8) (.t 0)),qo 3 (.call .pure (.c (.fn 207 [] [])) [.t 2]),qm 1 3])
 .ret)) }
def A_order_Ppo:AFun:={ res:=[.t 2],body:=(.seq (.reg false [qo 1 (.box (.t 0)),qo 2 (.mv (.c (.nilp)))])
 (.seq (.reg true [qo 4 (.ld (some 8) (.t 1)),qo 5 (.call .pure (.c (.fn 213 [] [])) [.t 4]),qo 6 (.ld (some 8) (.t 1)),qo 7 (.ld (some 8) (.t 1)),qo 8 (.call .pure (.c (.fn 48 [] [])) [.t 7]),qo 9 (.call .pure (.c (.fn 39 [] [])) [.t 6,.t 8]),qo 10 (.call .pure (.c (.fn 24 [] [])) [.t 5,.t 9]),qo 11 (.call .pure (.c (.fn 12 [] [])) [.t 10]),qm 3 11])
 (.seq (.reg true [qo 12 (.ld (some 8) (.t 1)),qo 13 (.call .pure (.c (.fn 195 [] [])) [.t 12,.c (.fn 240 [] [])]),qm 14 3,qo 15 (.call .pure (.c (.fn 23 [] [])) [.t 13,.t 14]),qo 16 (.ld (some 8) (.t 1)),qo 17 (.call .pure (.c (.fn 195 [] [])) [.t 16,.c (.fn 203 [] [])]),qo 18 (.call .pure (.c (.fn 23 [] [])) [.t 15,.t 17]),qm 2 18])
 .ret))) }
def A_order_Ar_4:AFun:={ res:=[.t 1],body:=(.seq (.reg false [qo 1 (.mv (.c (.nilp)))])
 (.seq (.reg false [qo 2 (.ld (some 8) (.t 0)),qo 3 (.call .pure (.c (.fn 209 [] [])) [.t 2]),qm 1 3])
 .ret)) }
def A_order_Detour:AFun:={ res:=[.t 2],body:=(.seq (.reg false [qo 1 (.box (.t 0)),qo 2 (.mv (.c (.nilp)))])
 (.seq (.reg true [qo 4 (.ld (some 8) (.t 1)),qo 5 (.ld (some 8) (.t 1)),qo 6 (.call .pure (.c (.fn 49 [] [])) [.t 5]),qo 7 (.call .pure (.c (.fn 40 [] [])) [.t 4,.t 6]),qo 8 (.ld (some 8) (.t 1)),qo 9 (.ld (some 8) (.t 1)),qo 10 (.call .pure (.c (.fn 48 [] [])) [.t 9]),qo 11 (.call .pure (.c (.fn 40 [] [])) [.t 8,.t 10]),qo 12 (.call .pure (.c (.fn 23 [] [])) [.t 7,.t 11]),qm 3 12])
 (.seq (.reg false [qm 13 3,qo 14 (.ld (some 8) (.t 1)),qo 15 (.call .pure (.c (.fn 60 [] [])) [.t 14]),qo 16 (.call .pure (.c (.fn 18 [] [])) [.t 13,.t 15]),qm 2 16])
 .ret))) }
def A_order_Ar_5:AFun:={ res:=[.t 1],body:=(.seq (.reg false [qo 1 (.mv (.c (.nilp)))])
 (.seq (.reg false [qo 2 (.ld (some 8) (.t 0)),qo 3 (.call .pure (.c (.fn 211 [] [])) [.t 2]),qm 1 3])
 .ret)) }
def A_order_Psc:AFun:={ res:=[.t 2],body:=(.seq (.reg false [qo 1 (.box (.t 0)),qo 2 (.mv (.c (.nilp)))])
 (.seq (.reg true [qo 5 (.ld (some 8) (.t 1)),qo 6 (.call .pure (.c (.fn 195 [] [])) [.t 5,.c (.fn 241 [] [])]),qo 7 (.ld (some 8) (.t 1)),qo 8 (.call .pure (.c (.fn 148 [] [])) [.t 7]),qm 3 6,qm 4 8])
 (.seq (.reg true [qm 9 3,qm 10 4,qo 11 (.call .pure (.c (.fn 23 [] [])) [.t 9,.t 10]),qo 12 (.ld (some 8) (.t 1)),qo 13 (.call .pure (.c (.fn 42 [] [])) [.t 12]),qo 14 (.call .pure (.c (.fn 23 [] [])) [.t 11,.t 13]),qm 15 4,qo 16 (.call .pure (.c (.fn 23 [] [])) [.t 14,.t 15]),qm 17 3,qo 18 (.call .pure (.c (.fn 23 [] [])) [.t 16,.t 17]),qm 2 18])
 .ret))) }
def A_order_Deps:AFun:={ res:=[.t 2],body:=(.seq (.reg false [qo 1 (.boxI (.t 0)),qo 2 (.mv (.c (.nilp)))])
 (.seq (.reg false [qo 3 (.ld (some 8) (.t 1)),qo 4 (.mkfn 242 [] [.t 1]),qo 5 (.mkfn 243 [] [.t 1]),qo 6 (.mkfn 244 [] [.t 1]),qo 7 (.bsl true 3 ([.nilf,.nilf,.nilf]) [(0,1,.t 4),(1,1,.t 5),(2,1,.t 6)]),qo 8 (.call .pure (.c (.fn 193 [] [])) [.t 3,.t 7]),qm 2 8])
 .ret)) }
def A_order_isR:AFun:={ res:=[.t 2],body:=(.seq (.reg false [qo 1 (.box (.t 0)),qo 2 (.mv (.c (.b false)))])
 (.seq (.reg false [qo 3 (.fa 1 (.t 1)),qo 4 (.ld none (.t 3)),qo 5 (.bin .eql (.t 4) (.c (.i .i64 1))),qm 2 5])
 .ret)) }
def A_order_isSc:AFun:={ res:=[.t 2],body:=(.seq (.reg false [qo 1 (.box (.t 0)),qo 2 (.mv (.c (.b false)))])
 (.seq (.reg false [qo 3 (.ld (some 6) (.t 1)),qo 4 (.call .pure (.c (.fn 200 [] [])) [.t 3]),qm 5 4,qg 6 (.fa 2 (.t 1)) 5 true,qg 7 (.ld none (.t 6)) 5 true,qg 8 (.bin .eql (.t 7) (.c (.i .i64 4))) 5 true,qo 9 (.pick (.t 5) (.t 8) (.c (.b false))),qm 2 9])
 .ret)) }
def A_order_Deps_1:AFun:={ res:=[.t 1],body:=(.seq (.reg false [qo 1 (.mv (.c (.nilp)))])
 (.seq (.reg false [qo 2 (.ld (some 8) (.t 0)),qo 3 (.fa 5 (.t 0)),qo 4 (.ld none (.t 3)),qo 5 (.call .pure (.c (.fn 81 [] [])) [.t 2,.t 4]),qm 1 5])
 .ret)) }
def A_order_Deps_2:AFun:={ res:=[.t 1],body:=(.seq (.reg false [qo 1 (.mv (.c (.nilp)))])
 (.seq (.reg false [qo 2 (.ld (some 8) (.t 0)),qo 3 (.fa 6 (.t 0)),qo 4 (.ld none (.t 3)),qo 5 (.call .pure (.c (.fn 81 [] [])) [.t 2,.t 4]),qm 1 5])
 .ret)) }
def A_order_Deps_3:AFun:={ res:=[.t 1],body:=(.seq (.reg false [qo 1 (.mv (.c (.nilp)))])
 (.seq (.reg true [qo 2 (.ld (some 8) (.t 0)),qo 3 (.call .pure (.c (.fn 195 [] [])) [.t 2,.c (.fn 245 [] [])]),qo 4 (.ld (some 8) (.t 0)),qo 5 (.call .pure (.c (.fn 60 [] [])) [.t 4]),qo 6 (.call .pure (.c (.fn 23 [] [])) [.t 3,.t 5]),qm 1 6])
 .ret)) }
def A_order_isEx:AFun:={ res:=[.t 2],body:=(.seq (.reg false [qo 1 (.box (.t 0)),qo 2 (.mv (.c (.b false)))])
 (.seq (.reg false [qo 3 (.ld (some 6) (.t 1)),qo 4 (.call .pure (.c (.fn 240 [] [])) [.t 3]),qm 5 4,qg 6 (.fa 5 (.t 1)) 5 true,qg 7 (.ld none (.t 6)) 5 true,qo 8 (.pick (.t 5) (.t 7) (.c (.b false))),qm 2 8])
 .ret)) }
structure Pk_order (F:Funs):Prop where
 order_Bob:F 155 = some A_order_Bob
 order_Ar:F 156 = some A_order_Ar
 order_all:F 193 = some A_order_all
 order_Bob_1:F 194 = some A_order_Bob_1
 order_set:F 195 = some A_order_set
 order_isRel:F 196 = some A_order_isRel
 order_Bob_2:F 197 = some A_order_Bob_2
 order_isAcq:F 198 = some A_order_isAcq
 order_Bob_3:F 199 = some A_order_Bob_3
 order_isF:F 200 = some A_order_isF
 order_Bob_4:F 201 = some A_order_Bob_4
 order_Bob_5:F 202 = some A_order_Bob_5
 order_isW:F 203 = some A_order_isW
 order_Ar_1:F 204 = some A_order_Ar_1
 order_Ar_2:F 205 = some A_order_Ar_2
 order_Ar_3:F 206 = some A_order_Ar_3
 order_Ppo:F 207 = some A_order_Ppo
 order_Ar_4:F 208 = some A_order_Ar_4
 order_Detour:F 209 = some A_order_Detour
 order_Ar_5:F 210 = some A_order_Ar_5
 order_Psc:F 211 = some A_order_Psc
 order_Deps:F 213 = some A_order_Deps
 order_isR:F 240 = some A_order_isR
 order_isSc:F 241 = some A_order_isSc
 order_Deps_1:F 242 = some A_order_Deps_1
 order_Deps_2:F 243 = some A_order_Deps_2
 order_Deps_3:F 244 = some A_order_Deps_3
 order_isEx:F 245 = some A_order_isEx
end Go.Ab
end
section
namespace Go.Ab
def A_rel_New:AFun:={ res:=[.t 4],body:=(.seq (.reg false [qo 4 (.mv (.c (.nilp)))])
 (.seq (.reg false [qm 8 0,qo 9 (.mn (.t 8) (.c (.i .i64 40))),qo 10 (.mx (.c (.i .i64 0)) (.t 9)),qo 11 (.build ([.i .i64 0] ++ List.replicate 40 (.i .u64 0)) [(0,1,.t 10)]),qo 12 (.box (.t 11)),qm 5 12])
 (.seq (.seq (.reg false [qm 13 1,qo 14 (.len (.t 13)),qo 15 (.mv (.c (.i .i64 0)))])
 (.blk 0 (.loop (.seq (.reg false [qo 16 (.bin .lss (.t 15) (.t 14))])
 (.seq (.cond (.t 16) .skip
 (.ext 0))
 (.seq (.blk 1 (.seq (.reg false [qo 17 (.ia 2 (.t 13) (.t 15)),qo 18 (.ld (some 2) (.t 17)),qo 7 (.new ([.i .i64 0,.i .i64 0])),qn (.st 2 (.t 7) (.t 18))])
 (.seq (.reg true [qo 19 (.fa 0 (.t 7)),qo 20 (.ld none (.t 19)),qo 21 (.bin .geq (.t 20) (.c (.i .i64 0))),qm 22 21,qg 23 (.fa 0 (.t 7)) 22 true,qg 24 (.ld none (.t 23)) 22 true,qg 25 (.mv (.t 5)) 22 true,qg 26 (.nilck (.t 25)) 22 true,qg 27 (.fa 0 (.t 26)) 22 true,qg 28 (.ld none (.t 27)) 22 true,qg 29 (.bin .lss (.t 24) (.t 28)) 22 true,qo 30 (.pick (.t 22) (.t 29) (.c (.b false))),qm 31 30,qg 32 (.fa 1 (.t 7)) 31 true,qg 33 (.ld none (.t 32)) 31 true,qg 34 (.bin .geq (.t 33) (.c (.i .i64 0))) 31 true,qo 35 (.pick (.t 31) (.t 34) (.c (.b false))),qm 36 35,qg 37 (.fa 1 (.t 7)) 36 true,qg 38 (.ld none (.t 37)) 36 true,qg 39 (.mv (.t 5)) 36 true,qg 40 (.nilck (.t 39)) 36 true,qg 41 (.fa 0 (.t 40)) 36 true,qg 42 (.ld none (.t 41)) 36 true,qg 43 (.bin .lss (.t 38) (.t 42)) 36 true,qo 44 (.pick (.t 36) (.t 43) (.c (.b false)))])
 (.cond (.t 44) (.reg true [qm 45 5,qo 46 (.fa 0 (.t 7)),qo 47 (.ld none (.t 46)),qo 48 (.nilck (.t 45)),qo 49 (.fa 1 (.t 48)),qo 50 (.iaa 40 1 (.t 49) (.t 47)),qo 51 (.ld none (.t 50)),qo 52 (.fa 1 (.t 7)),qo 53 (.ld none (.t 52)),qo 54 (.bin .shl (.c (.i .u64 1)) (.t 53)),qo 55 (.bin .or (.t 51) (.t 54)),qo 56 (.nilck (.t 45)),qo 57 (.fa 1 (.t 56)),qo 58 (.iaa 40 1 (.t 57) (.t 47)),qn (.st 1 (.t 58) (.t 55))])
 .skip))))
 (.reg false [qo 59 (.bin .add (.t 15) (.c (.i .i64 1))),qm 15 59])))))))
 (.seq (.reg false [qm 60 5,qm 4 60])
 .ret)))) }
def A_rel_Rel_Plus:AFun:={ res:=[.t 2],body:=(.seq (.reg false [qo 2 (.mv (.c (.nilp)))])
 (.seq (.reg false [qm 6 0,qo 7 (.nilck (.t 6)),qo 8 (.ld (some 41) (.t 7)),qo 3 (.new ([.i .i64 0] ++ List.replicate 40 (.i .u64 0))),qn (.st 41 (.t 3) (.t 8))])
 (.seq (.seq (.reg false [qm 9 0,qo 10 (.nilck (.t 9)),qo 11 (.fa 0 (.t 10)),qo 12 (.ld none (.t 11)),qo 13 (.mv (.c (.i .i64 0)))])
 (.blk 0 (.loop (.seq (.reg false [qo 14 (.bin .lss (.t 13) (.t 12))])
 (.seq (.cond (.t 14) .skip
 (.ext 0))
 (.seq (.blk 1 (.seq (.reg false [qm 15 13,qm 4 15])
 (.seq (.reg false [qm 16 0,qo 17 (.nilck (.t 16)),qo 18 (.fa 0 (.t 17)),qo 19 (.ld none (.t 18)),qo 20 (.mv (.c (.i .i64 0)))])
 (.blk 2 (.loop (.seq (.reg false [qo 21 (.bin .lss (.t 20) (.t 19))])
 (.seq (.cond (.t 21) .skip
 (.ext 2))
 (.seq (.blk 3 (.seq (.reg false [qm 22 20,qm 5 22])
 (.seq (.reg false [qm 23 5,qm 24 4,qo 25 (.call .pure (.c (.fn 13 [] [])) [.t 3,.t 23,.t 24])])
 (.cond (.t 25) (.reg true [qm 26 5,qo 27 (.fa 1 (.t 3)),qo 28 (.iaa 40 1 (.t 27) (.t 26)),qo 29 (.ld none (.t 28)),qm 30 4,qo 31 (.fa 1 (.t 3)),qo 32 (.iaa 40 1 (.t 31) (.t 30)),qo 33 (.ld none (.t 32)),qo 34 (.bin .or (.t 29) (.t 33)),qo 35 (.fa 1 (.t 3)),qo 36 (.iaa 40 1 (.t 35) (.t 26)),qn (.st 1 (.t 36) (.t 34))])
 .skip))))
 (.reg false [qo 37 (.bin .add (.t 20) (.c (.i .i64 1))),qm 20 37])))))))))
 (.reg false [qo 38 (.bin .add (.t 13) (.c (.i .i64 1))),qm 13 38])))))))
 (.seq (.reg false [qm 2 3])
 .ret)))) }
def A_rel_Rel_Has:AFun:={ res:=[.t 6],body:=(.seq (.reg false [qo 6 (.mv (.c (.b false)))])
 (.seq (.reg false [qm 7 1,qo 8 (.bin .geq (.t 7) (.c (.i .i64 0))),qm 9 8,qg 10 (.mv (.t 1)) 9 true,qg 11 (.mv (.t 0)) 9 true,qg 12 (.nilck (.t 11)) 9 true,qg 13 (.fa 0 (.t 12)) 9 true,qg 14 (.ld none (.t 13)) 9 true,qg 15 (.bin .lss (.t 10) (.t 14)) 9 true,qo 16 (.pick (.t 9) (.t 15) (.c (.b false))),qm 17 16,qg 18 (.mv (.t 2)) 17 true,qg 19 (.bin .geq (.t 18) (.c (.i .i64 0))) 17 true,qo 20 (.pick (.t 17) (.t 19) (.c (.b false))),qm 21 20,qg 22 (.mv (.t 2)) 21 true,qg 23 (.mv (.t 0)) 21 true,qg 24 (.nilck (.t 23)) 21 true,qg 25 (.fa 0 (.t 24)) 21 true,qg 26 (.ld none (.t 25)) 21 true,qg 27 (.bin .lss (.t 22) (.t 26)) 21 true,qo 28 (.pick (.t 21) (.t 27) (.c (.b false))),qm 29 28,qg 30 (.mv (.t 0)) 29 true,qg 31 (.mv (.t 1)) 29 true,qg 32 (.nilck (.t 30)) 29 true,qg 33 (.fa 1 (.t 32)) 29 true,qg 34 (.iaa 40 1 (.t 33) (.t 31)) 29 true,qg 35 (.ld none (.t 34)) 29 true,qg 36 (.mv (.t 2)) 29 true,qg 37 (.bin .shr (.t 35) (.t 36)) 29 true,qg 38 (.bin .and (.t 37) (.c (.i .u64 1))) 29 true,qg 39 (.bin .neq (.t 38) (.c (.i .u64 0))) 29 true,qo 40 (.pick (.t 29) (.t 39) (.c (.b false))),qm 6 40])
 .ret)) }
def A_rel_Rel_Loops:AFun:={ res:=[.t 2],body:=(.seq (.reg false [qo 2 (.mv (.c (.b false)))])
 (.seq (.reg false [qm 5 0,qo 6 (.call .pure (.c (.fn 12 [] [])) [.t 5]),qm 3 6])
 (.seq (.seq (.reg false [qm 7 0,qo 8 (.nilck (.t 7)),qo 9 (.fa 0 (.t 8)),qo 10 (.ld none (.t 9)),qo 11 (.mv (.c (.i .i64 0)))])
 (.blk 0 (.loop (.seq (.reg false [qo 12 (.bin .lss (.t 11) (.t 10))])
 (.seq (.cond (.t 12) .skip
 (.ext 0))
 (.seq (.blk 1 (.seq (.reg false [qm 13 11,qm 4 13])
 (.seq (.reg false [qm 14 3,qm 15 4,qm 16 4,qo 17 (.call .pure (.c (.fn 13 [] [])) [.t 14,.t 15,.t 16])])
 (.cond (.t 17) (.seq (.reg false [qo 2 (.mv (.c (.b true)))])
 .ret)
 .skip))))
 (.reg false [qo 18 (.bin .add (.t 11) (.c (.i .i64 1))),qm 11 18])))))))
 (.seq (.reg false [qo 2 (.mv (.c (.b false)))])
 .ret)))) }
def A_rel_Rel_Pairs:AFun:={ res:=[.t 2],body:=(.seq (.reg false [qo 2 (.mv (.c (.sl [] 0 .rig)))])
 (.seq (.reg false [qo 3 (.mv (.c (.sl [] 0 .rig)))])
 (.seq (.seq (.reg false [qm 6 0,qo 7 (.nilck (.t 6)),qo 8 (.fa 0 (.t 7)),qo 9 (.ld none (.t 8)),qo 10 (.mv (.c (.i .i64 0)))])
 (.blk 0 (.loop (.seq (.reg false [qo 11 (.bin .lss (.t 10) (.t 9))])
 (.seq (.cond (.t 11) .skip
 (.ext 0))
 (.seq (.blk 1 (.seq (.reg false [qm 12 10,qm 4 12])
 (.seq (.reg false [qm 13 0,qo 14 (.nilck (.t 13)),qo 15 (.fa 0 (.t 14)),qo 16 (.ld none (.t 15)),qo 17 (.mv (.c (.i .i64 0)))])
 (.blk 2 (.loop (.seq (.reg false [qo 18 (.bin .lss (.t 17) (.t 16))])
 (.seq (.cond (.t 18) .skip
 (.ext 2))
 (.seq (.blk 3 (.seq (.reg false [qm 19 17,qm 5 19])
 (.seq (.reg false [qm 20 0,qm 21 4,qm 22 5,qo 23 (.call .pure (.c (.fn 13 [] [])) [.t 20,.t 21,.t 22])])
 (.cond (.t 23) (.reg false [qm 24 3,qm 25 4,qm 26 5,qo 27 (.build ([.i .i64 0,.i .i64 0]) [(0,1,.t 25),(1,1,.t 26)]),qo 28 (.bsl true 1 ([.i .i64 0,.i .i64 0]) [(0,2,.t 27)]),qo 29 (.app 2 16 (.t 24) (.t 28)),qm 3 29])
 .skip))))
 (.reg false [qo 30 (.bin .add (.t 17) (.c (.i .i64 1))),qm 17 30])))))))))
 (.reg false [qo 31 (.bin .add (.t 10) (.c (.i .i64 1))),qm 10 31])))))))
 (.seq (.reg false [qm 32 3,qm 2 32])
 .ret)))) }
def A_rel_Rel_Maybe:AFun:={ res:=[.t 2],body:=(.seq (.reg false [qo 2 (.mv (.c (.nilp)))])
 (.seq (.reg false [qm 5 0,qo 6 (.nilck (.t 5)),qo 7 (.ld (some 41) (.t 6)),qo 3 (.new ([.i .i64 0] ++ List.replicate 40 (.i .u64 0))),qn (.st 41 (.t 3) (.t 7))])
 (.seq (.seq (.reg false [qm 8 0,qo 9 (.nilck (.t 8)),qo 10 (.fa 0 (.t 9)),qo 11 (.ld none (.t 10)),qo 12 (.mv (.c (.i .i64 0)))])
 (.blk 0 (.loop (.seq (.reg false [qo 13 (.bin .lss (.t 12) (.t 11))])
 (.seq (.cond (.t 13) .skip
 (.ext 0))
 (.seq (.blk 1 (.seq (.reg false [qm 14 12,qm 4 14])
 (.reg true [qm 15 4,qo 16 (.fa 1 (.t 3)),qo 17 (.iaa 40 1 (.t 16) (.t 15)),qo 18 (.ld none (.t 17)),qm 19 4,qo 20 (.bin .shl (.c (.i .u64 1)) (.t 19)),qo 21 (.bin .or (.t 18) (.t 20)),qo 22 (.fa 1 (.t 3)),qo 23 (.iaa 40 1 (.t 22) (.t 15)),qn (.st 1 (.t 23) (.t 21))])))
 (.reg false [qo 24 (.bin .add (.t 12) (.c (.i .i64 1))),qm 12 24])))))))
 (.seq (.reg false [qm 2 3])
 .ret)))) }
def A_rel_Rel_Len:AFun:={ res:=[.t 2],body:=(.seq (.reg false [qo 2 (.mv (.c (.i .i64 0)))])
 (.seq (.reg false [qm 3 0,qo 4 (.nilck (.t 3)),qo 5 (.fa 0 (.t 4)),qo 6 (.ld none (.t 5)),qm 2 6])
 .ret)) }
def A_rel_Rel_And:AFun:={ res:=[.t 4],body:=(.seq (.reg false [qo 4 (.mv (.c (.nilp)))])
 (.seq (.reg false [qm 5 0,qm 6 1,qo 7 (.call .pure (.c (.fn 51 [] [])) [.t 5,.t 6,.c (.fn 52 [] [])]),qm 4 7])
 .ret)) }
def A_rel_Rel_In:AFun:={ res:=[.t 4],body:=(.seq (.reg false [qo 4 (.mv (.c (.b false)))])
 (.seq (.reg false [qm 5 0,qm 6 1,qo 7 (.call .pure (.c (.fn 26 [] [])) [.t 5,.t 6]),qo 8 (.nilck (.t 7)),qo 9 (.fa 1 (.t 8)),qo 10 (.ld (some 40) (.t 9)),qo 11 (.build (List.replicate 40 (.i .u64 0)) []),qo 12 (.eqa false (List.replicate 40 0) (.t 10) (.t 11)),qm 4 12])
 .ret)) }
def A_rel_Rel_Then:AFun:={ res:=[.t 4],body:=(.seq (.reg false [qo 4 (.mv (.c (.nilp)))])
 (.seq (.reg true [qm 8 0,qo 9 (.nilck (.t 8)),qo 10 (.fa 0 (.t 9)),qo 11 (.ld none (.t 10)),qm 12 1,qo 13 (.nilck (.t 12)),qo 14 (.fa 0 (.t 13)),qo 15 (.ld none (.t 14)),qo 16 (.mx (.t 11) (.t 15)),qo 17 (.build ([.i .i64 0] ++ List.replicate 40 (.i .u64 0)) [(0,1,.t 16)]),qo 18 (.box (.t 17)),qm 5 18])
 (.seq (.seq (.reg false [qm 19 0,qo 20 (.nilck (.t 19)),qo 21 (.fa 0 (.t 20)),qo 22 (.ld none (.t 21)),qo 23 (.mv (.c (.i .i64 0)))])
 (.blk 0 (.loop (.seq (.reg false [qo 24 (.bin .lss (.t 23) (.t 22))])
 (.seq (.cond (.t 24) .skip
 (.ext 0))
 (.seq (.blk 1 (.seq (.reg false [qm 25 23,qm 6 25])
 (.seq (.reg false [qm 26 0,qo 27 (.nilck (.t 26)),qo 28 (.fa 0 (.t 27)),qo 29 (.ld none (.t 28)),qo 30 (.mv (.c (.i .i64 0)))])
 (.blk 2 (.loop (.seq (.reg false [qo 31 (.bin .lss (.t 30) (.t 29))])
 (.seq (.cond (.t 31) .skip
 (.ext 2))
 (.seq (.blk 3 (.seq (.reg false [qm 32 30,qm 7 32])
 (.seq (.reg false [qm 33 0,qm 34 6,qm 35 7,qo 36 (.call .pure (.c (.fn 13 [] [])) [.t 33,.t 34,.t 35])])
 (.cond (.t 36) (.reg true [qm 37 5,qm 38 6,qo 39 (.nilck (.t 37)),qo 40 (.fa 1 (.t 39)),qo 41 (.iaa 40 1 (.t 40) (.t 38)),qo 42 (.ld none (.t 41)),qm 43 1,qm 44 7,qo 45 (.nilck (.t 43)),qo 46 (.fa 1 (.t 45)),qo 47 (.iaa 40 1 (.t 46) (.t 44)),qo 48 (.ld none (.t 47)),qo 49 (.bin .or (.t 42) (.t 48)),qo 50 (.nilck (.t 37)),qo 51 (.fa 1 (.t 50)),qo 52 (.iaa 40 1 (.t 51) (.t 38)),qn (.st 1 (.t 52) (.t 49))])
 .skip))))
 (.reg false [qo 53 (.bin .add (.t 30) (.c (.i .i64 1))),qm 30 53])))))))))
 (.reg false [qo 54 (.bin .add (.t 23) (.c (.i .i64 1))),qm 23 54])))))))
 (.seq (.reg false [qm 55 5,qm 4 55])
 .ret)))) }
def A_rel_Rel_Or:AFun:={ res:=[.t 4],body:=(.seq (.reg false [qo 4 (.mv (.c (.nilp)))])
 (.seq (.reg false [qm 5 0,qm 6 1,qo 7 (.call .pure (.c (.fn 51 [] [])) [.t 5,.t 6,.c (.fn 53 [] [])]),qm 4 7])
 .ret)) }
def A_rel_Rel_Less:AFun:={ res:=[.t 4],body:=(.seq (.reg false [qo 4 (.mv (.c (.nilp)))])
 (.seq (.reg false [qm 5 0,qm 6 1,qo 7 (.call .pure (.c (.fn 51 [] [])) [.t 5,.t 6,.c (.fn 54 [] [])]),qm 4 7])
 .ret)) }
def A_rel_Rel_by:AFun:={ res:=[.t 6],body:=(.seq (.reg false [qo 6 (.mv (.c (.nilp)))])
 (.seq (.reg true [qm 9 0,qo 10 (.nilck (.t 9)),qo 11 (.fa 0 (.t 10)),qo 12 (.ld none (.t 11)),qm 13 1,qo 14 (.nilck (.t 13)),qo 15 (.fa 0 (.t 14)),qo 16 (.ld none (.t 15)),qo 17 (.mx (.t 12) (.t 16)),qo 18 (.build ([.i .i64 0] ++ List.replicate 40 (.i .u64 0)) [(0,1,.t 17)]),qo 19 (.box (.t 18)),qm 7 19])
 (.seq (.seq (.reg false [qo 20 (.mv (.c (.i .i64 0)))])
 (.blk 0 (.loop (.seq (.reg false [qo 21 (.bin .lss (.t 20) (.c (.i .i64 40)))])
 (.seq (.cond (.t 21) .skip
 (.ext 0))
 (.seq (.blk 1 (.seq (.reg false [qm 22 20,qm 8 22])
 (.reg true [qm 23 7,qm 24 8,qm 25 2,qm 26 0,qm 27 8,qo 28 (.nilck (.t 26)),qo 29 (.fa 1 (.t 28)),qo 30 (.iaa 40 1 (.t 29) (.t 27)),qo 31 (.ld none (.t 30)),qm 32 1,qm 33 8,qo 34 (.nilck (.t 32)),qo 35 (.fa 1 (.t 34)),qo 36 (.iaa 40 1 (.t 35) (.t 33)),qo 37 (.ld none (.t 36)),qo 38 (.call .pure (.t 25) [.t 31,.t 37]),qo 39 (.nilck (.t 23)),qo 40 (.fa 1 (.t 39)),qo 41 (.iaa 40 1 (.t 40) (.t 24)),qn (.st 1 (.t 41) (.t 38))])))
 (.reg false [qo 42 (.bin .add (.t 20) (.c (.i .i64 1))),qm 20 42])))))))
 (.seq (.reg false [qm 43 7,qm 6 43])
 .ret)))) }
def A_rel_Rel_And_1:AFun:={ res:=[.t 4],body:=(.seq (.reg false [qo 4 (.mv (.c (.i .u64 0)))])
 (.seq (.reg false [qm 5 0,qm 6 1,qo 7 (.bin .and (.t 5) (.t 6)),qm 4 7])
 .ret)) }
def A_rel_Rel_Or_1:AFun:={ res:=[.t 4],body:=(.seq (.reg false [qo 4 (.mv (.c (.i .u64 0)))])
 (.seq (.reg false [qm 5 0,qm 6 1,qo 7 (.bin .or (.t 5) (.t 6)),qm 4 7])
 .ret)) }
def A_rel_Rel_Less_1:AFun:={ res:=[.t 4],body:=(.seq (.reg false [qo 4 (.mv (.c (.i .u64 0)))])
 (.seq (.reg false [qm 5 0,qm 6 1,qo 7 (.bin .andNot (.t 5) (.t 6)),qm 4 7])
 .ret)) }
structure Pk_rel (F:Funs):Prop where
 rel_New:F 11 = some A_rel_New
 rel_Rel_Plus:F 12 = some A_rel_Rel_Plus
 rel_Rel_Has:F 13 = some A_rel_Rel_Has
 rel_Rel_Loops:F 14 = some A_rel_Rel_Loops
 rel_Rel_Pairs:F 15 = some A_rel_Rel_Pairs
 rel_Rel_Maybe:F 16 = some A_rel_Rel_Maybe
 rel_Rel_Len:F 17 = some A_rel_Rel_Len
 rel_Rel_And:F 18 = some A_rel_Rel_And
 rel_Rel_Then:F 23 = some A_rel_Rel_Then
 rel_Rel_Or:F 24 = some A_rel_Rel_Or
 rel_Rel_by:F 51 = some A_rel_Rel_by
 rel_Rel_And_1:F 52 = some A_rel_Rel_And_1
 rel_Rel_Or_1:F 53 = some A_rel_Rel_Or_1
end Go.Ab
end
section
namespace Go.Ab
def A_sync_Hb:AFun:={ res:=[.t 2],body:=(.seq (.reg false [qo 1 (.box (.t 0)),qo 2 (.mv (.c (.nilp)))])
 (.seq (.reg true [qo 3 (.ld (some 8) (.t 1)),qo 4 (.call .pure (.c (.fn 60 [] [])) [.t 3]),qo 5 (.ld (some 8) (.t 1)),qo 6 (.call .pure (.c (.fn 176 [] [])) [.t 5]),qo 7 (.call .pure (.c (.fn 24 [] [])) [.t 4,.t 6]),qo 8 (.call .pure (.c (.fn 12 [] [])) [.t 7]),qm 2 8])
 .ret)) }
def A_sync_Release:AFun:={ res:=[.t 2],body:=(.seq (.reg false [qo 1 (.box (.t 0)),qo 2 (.mv (.c (.nilp)))])
 (.seq (.reg true [qo 4 (.ld (some 8) (.t 1)),qo 5 (.bsl true 3 ([.i .i64 0,.i .i64 0,.i .i64 0]) [(0,1,.c (.i .i64 2)),(1,1,.c (.i .i64 3)),(2,1,.c (.i .i64 4))]),qo 6 (.call .pure (.c (.fn 178 [] [])) [.t 4,.c (.i .i64 3),.t 5]),qo 7 (.ld (some 8) (.t 1)),qo 8 (.call .pure (.c (.fn 60 [] [])) [.t 7]),qo 9 (.bsl true 1 ([.nilp]) [(0,1,.t 8)]),qo 10 (.call .pure (.c (.fn 177 [] [])) [.t 6,.t 9]),qm 3 10])
 (.seq (.reg true [qo 11 (.ld (some 8) (.t 1)),qo 12 (.bsl true 1 ([.i .i64 0]) [(0,1,.c (.i .i64 2))]),qo 13 (.call .pure (.c (.fn 178 [] [])) [.t 11,.c (.i .i64 2),.t 12]),qm 14 3,qo 15 (.call .pure (.c (.fn 24 [] [])) [.t 13,.t 14]),qo 16 (.ld (some 8) (.t 1)),qo 17 (.call .pure (.c (.fn 179 [] [])) [.t 16]),qo 18 (.bsl true 1 ([.nilp]) [(0,1,.t 17)]),qo 19 (.call .pure (.c (.fn 177 [] [])) [.t 15,.t 18]),qm 2 19])
 .ret))) }
def A_sync_Sw:AFun:={ res:=[.t 2],body:=(.seq (.reg false [qo 1 (.box (.t 0)),qo 2 (.mv (.c (.nilp)))])
 (.seq (.reg false [qo 6 (.ld (some 8) (.t 1)),qo 7 (.call .pure (.c (.fn 48 [] [])) [.t 6]),qm 3 7])
 (.seq (.reg true [qo 8 (.ld (some 8) (.t 1)),qm 9 3,qo 10 (.call .pure (.c (.fn 39 [] [])) [.t 8,.t 9]),qo 11 (.ld (some 8) (.t 1)),qo 12 (.call .pure (.c (.fn 41 [] [])) [.t 11]),qo 13 (.call .pure (.c (.fn 16 [] [])) [.t 12]),qo 14 (.ld (some 8) (.t 1)),qm 15 3,qo 16 (.call .pure (.c (.fn 40 [] [])) [.t 14,.t 15]),qo 17 (.bsl true 1 ([.nilp]) [(0,1,.t 16)]),qo 18 (.call .pure (.c (.fn 177 [] [])) [.t 13,.t 17]),qo 19 (.call .pure (.c (.fn 24 [] [])) [.t 10,.t 18]),qm 4 19])
 (.seq (.reg true [qo 20 (.ld (some 8) (.t 1)),qo 21 (.call .pure (.c (.fn 60 [] [])) [.t 20]),qo 22 (.ld (some 8) (.t 1)),qo 23 (.bsl true 3 ([.i .i64 0,.i .i64 0,.i .i64 0]) [(0,1,.c (.i .i64 1)),(1,1,.c (.i .i64 3)),(2,1,.c (.i .i64 4))]),qo 24 (.call .pure (.c (.fn 178 [] [])) [.t 22,.c (.i .i64 3),.t 23]),qo 25 (.bsl true 1 ([.nilp]) [(0,1,.t 24)]),qo 26 (.call .pure (.c (.fn 177 [] [])) [.t 21,.t 25]),qm 5 26])
 (.seq (.reg true [qo 27 (.ld (some 8) (.t 1)),qo 28 (.call .pure (.c (.fn 149 [] [])) [.t 27]),qm 29 4,qo 30 (.ld (some 8) (.t 1)),qo 31 (.bsl true 1 ([.i .i64 0]) [(0,1,.c (.i .i64 1))]),qo 32 (.call .pure (.c (.fn 178 [] [])) [.t 30,.c (.i .i64 1),.t 31]),qm 33 5,qo 34 (.call .pure (.c (.fn 24 [] [])) [.t 32,.t 33]),qo 35 (.bsl true 2 ([.nilp,.nilp]) [(0,1,.t 29),(1,1,.t 34)]),qo 36 (.call .pure (.c (.fn 177 [] [])) [.t 28,.t 35]),qm 2 36])
 .ret))))) }
def A_sync_then:AFun:={ res:=[.t 4],body:=(.seq (.reg false [qo 4 (.mv (.c (.nilp)))])
 (.seq (.seq (.reg false [qm 7 1,qo 8 (.len (.t 7)),qo 9 (.mv (.c (.i .i64 0)))])
 (.blk 0 (.loop (.seq (.reg false [qo 10 (.bin .lss (.t 9) (.t 8))])
 (.seq (.cond (.t 10) .skip
 (.ext 0))
 (.seq (.blk 1 (.seq (.reg false [qo 11 (.ia 1 (.t 7) (.t 9)),qo 12 (.ld none (.t 11)),qm 6 12])
 (.reg false [qm 13 0,qm 14 6,qo 15 (.call .pure (.c (.fn 23 [] [])) [.t 13,.t 14]),qm 0 15])))
 (.reg false [qo 16 (.bin .add (.t 9) (.c (.i .i64 1))),qm 9 16])))))))
 (.seq (.reg false [qm 17 0,qm 4 17])
 .ret))) }
def A_sync_set:AFun:={ res:=[.t 6],body:=(.seq (.reg false [qo 3 (.boxI (.t 0)),qo 4 (.boxI (.t 1)),qo 5 (.boxI (.t 2)),qo 6 (.mv (.c (.nilp)))])
 (.seq (.reg false [qo 7 (.ld (some 8) (.t 3)),qo 8 (.mkfn 229 [] [.t 5,.t 4]),qo 9 (.call .pure (.c (.fn 166 [] [])) [.t 7,.t 8]),qm 6 9])
 .ret)) }
def A_sync_Rs:AFun:={ res:=[.t 2],body:=(.seq (.reg false [qo 1 (.box (.t 0)),qo 2 (.mv (.c (.nilp)))])
 (.seq (.reg true [qo 6 (.ld (some 8) (.t 1)),qo 7 (.call .pure (.c (.fn 178 [] [])) [.t 6,.c (.i .i64 2),.c (.sl [] 0 .rig)]),qo 8 (.ld (some 8) (.t 1)),qo 9 (.call .pure (.c (.fn 41 [] [])) [.t 8]),qm 3 7,qm 4 9])
 (.seq (.reg true [qm 10 4,qo 11 (.call .pure (.c (.fn 16 [] [])) [.t 10]),qo 12 (.ld (some 8) (.t 1)),qo 13 (.call .pure (.c (.fn 48 [] [])) [.t 12]),qo 14 (.ld (some 8) (.t 1)),qo 15 (.fa 4 (.t 1)),qo 16 (.ld none (.t 15)),qo 17 (.call .pure (.c (.fn 81 [] [])) [.t 14,.t 16]),qo 18 (.bsl true 2 ([.nilp,.nilp]) [(0,1,.t 13),(1,1,.t 17)]),qo 19 (.call .pure (.c (.fn 177 [] [])) [.t 11,.t 18]),qm 5 19])
 (.seq (.reg false [qm 20 3,qm 21 4,qm 22 3,qo 23 (.bsl true 2 ([.nilp,.nilp]) [(0,1,.t 21),(1,1,.t 22)]),qo 24 (.call .pure (.c (.fn 177 [] [])) [.t 20,.t 23]),qm 25 3,qm 26 5,qo 27 (.call .pure (.c (.fn 12 [] [])) [.t 26]),qo 28 (.call .pure (.c (.fn 16 [] [])) [.t 27]),qo 29 (.bsl true 1 ([.nilp]) [(0,1,.t 28)]),qo 30 (.call .pure (.c (.fn 177 [] [])) [.t 25,.t 29]),qo 31 (.call .pure (.c (.fn 24 [] [])) [.t 24,.t 30]),qm 2 31])
 .ret)))) }
def A_sync_set_1:AFun:={ res:=[.t 4],body:=(.seq (.reg false [qo 3 (.box (.t 0)),qo 4 (.mv (.c (.b false)))])
 (.seq (.reg false [qo 8 (.ld none (.t 1)),qo 9 (.len (.t 8)),qo 10 (.bin .eql (.t 9) (.c (.i .i64 0))),qm 5 10])
 (.seq (.seq (.reg false [qo 11 (.ld none (.t 1)),qo 12 (.len (.t 11)),qo 13 (.mv (.c (.i .i64 0)))])
 (.blk 0 (.loop (.seq (.reg false [qo 14 (.bin .lss (.t 13) (.t 12))])
 (.seq (.cond (.t 14) .skip
 (.ext 0))
 (.seq (.blk 1 (.seq (.reg false [qo 15 (.ia 1 (.t 11) (.t 13)),qo 16 (.ld none (.t 15)),qm 7 16])
 (.reg false [qm 17 5,qm 18 17,qg 19 (.fa 2 (.t 3)) 18 false,qg 20 (.ld none (.t 19)) 18 false,qg 21 (.mv (.t 7)) 18 false,qg 22 (.bin .eql (.t 20) (.t 21)) 18 false,qo 23 (.pick (.t 18) (.c (.b true)) (.t 22)),qm 5 23])))
 (.reg false [qo 24 (.bin .add (.t 13) (.c (.i .i64 1))),qm 13 24])))))))
 (.seq (.reg false [qo 25 (.fa 1 (.t 3)),qo 26 (.ld none (.t 25)),qo 27 (.ld none (.t 2)),qo 28 (.bin .eql (.t 26) (.t 27)),qm 29 28,qg 30 (.mv (.t 5)) 29 true,qo 31 (.pick (.t 29) (.t 30) (.c (.b false))),qm 4 31])
 .ret)))) }
structure Pk_sync (F:Funs):Prop where
 sync_Hb:F 148 = some A_sync_Hb
 sync_Release:F 149 = some A_sync_Release
 sync_Sw:F 176 = some A_sync_Sw
 sync_then:F 177 = some A_sync_then
 sync_set:F 178 = some A_sync_set
 sync_Rs:F 179 = some A_sync_Rs
 sync_set_1:F 229 = some A_sync_set_1
end Go.Ab
end
section
set_option maxRecDepth 100000
set_option linter.unusedVariables false
namespace Go.Proofs.YthafjhelijmpcaaGreat
open Go.Ab
def tab:List (Nat × Nat × AFun):=[(10,27,A_xlaw00_Place),
 (11,51,A_rel_New),
 (12,159,A_rel_Rel_Plus),
 (13,42,A_rel_Rel_Has),
 (14,224,A_rel_Rel_Loops),
 (15,15,A_rel_Rel_Pairs),
 (16,157,A_rel_Rel_Maybe),
 (17,148,A_rel_Rel_Len),
 (18,186,A_rel_Rel_And),
 (22,16,A_rel_Rel_In),
 (23,17,A_rel_Rel_Then),
 (24,55,A_rel_Rel_Or),
 (26,56,A_rel_Rel_Less),
 (39,49,A_eco_Inner),
 (40,87,A_eco_Outer),
 (41,135,A_eco_Loc),
 (42,189,A_eco_Eco),
 (48,50,A_eco_Rf),
 (49,130,A_eco_Co),
 (50,129,A_eco_Fr),
 (51,136,A_rel_Rel_by),
 (52,237,A_rel_Rel_And_1),
 (53,137,A_rel_Rel_Or_1),
 (54,138,A_rel_Rel_Less_1),
 (57,131,A_eco_some),
 (58,132,A_eco_Inner_1),
 (59,191,A_eco_Outer_1),
 (60,18,A_graph_Po),
 (61,233,A_eco_Loc_1),
 (76,31,A_xlaw00_Small),
 (77,32,A_xlaw00_Loads),
 (78,34,A_xref13_All),
 (79,35,A_xlaw00_Domain),
 (80,133,A_eco_pairs),
 (81,47,A_graph_Of),
 (86,37,A_xlaw00_Prog),
 (87,108,A_xref04_Check),
 (88,109,A_xref13_Values),
 (89,110,A_xref13_Lots),
 (90,111,A_xref07_Skeleton),
 (91,112,A_xref13_E_Finish),
 (92,228,A_eco_pairs_1),
 (93,229,A_eco_pairs_2),
 (94,230,A_eco_pairs_3),
 (95,231,A_eco_pairs_4),
 (96,232,A_eco_pairs_5),
 (97,117,A_xlaw00_Instr),
 (98,207,A_xref04_Instr),
 (99,208,A_xref04_Events),
 (100,209,A_xref04_Paths),
 (101,210,A_xref13_values),
 (102,126,A_xref13_Domain),
 (103,211,A_xref07_First),
 (104,212,A_xref05_Do),
 (105,213,A_xref07_Lay),
 (106,214,A_xref13_E_rf),
 (107,215,A_xlaw00_Expr),
 (108,216,A_xlaw00_num),
 (109,253,A_xref02_Check),
 (110,254,A_xref04_Uses),
 (111,255,A_xref03_SameInstr),
 (112,256,A_xref05_Start),
 (113,257,A_xref05_S_Read),
 (114,258,A_xref05_S_Write),
 (115,259,A_xref02_Eval),
 (116,260,A_xref05_S_Of),
 (117,261,A_xref05_S_Event),
 (118,262,A_xref05_S_faa),
 (119,263,A_xref05_S_Move),
 (120,264,A_xref05_S_Skip),
 (121,265,A_xref07_moved),
 (122,266,A_xref13_E_co),
 (123,267,A_xlaw00_reg),
 (124,268,A_xlaw00_op),
 (125,277,A_xref02_word),
 (126,278,A_xref02_Regs),
 (127,279,A_xref02_Same),
 (128,280,A_xref02_Do),
 (129,274,A_xref05_Both),
 (130,281,A_xref05_pairs),
 (131,282,A_xref13_copied),
 (132,288,A_xref05_Put),
 (148,64,A_sync_Hb),
 (149,65,A_sync_Release),
 (155,76,A_order_Bob),
 (156,26,A_order_Ar),
 (157,24,A_xlaw11_awake),
 (166,45,A_graph_Set),
 (176,63,A_sync_Sw),
 (177,156,A_sync_then),
 (178,158,A_sync_set),
 (179,66,A_sync_Rs),
 (193,85,A_order_all),
 (194,178,A_order_Bob_1),
 (195,171,A_order_set),
 (196,179,A_order_isRel),
 (197,180,A_order_Bob_2),
 (198,181,A_order_isAcq),
 (199,182,A_order_Bob_3),
 (200,183,A_order_isF),
 (201,184,A_order_Bob_4),
 (202,185,A_order_Bob_5),
 (203,173,A_order_isW),
 (204,86,A_order_Ar_1),
 (205,88,A_order_Ar_2),
 (206,89,A_order_Ar_3),
 (207,72,A_order_Ppo),
 (208,90,A_order_Ar_4),
 (209,80,A_order_Detour),
 (210,91,A_order_Ar_5),
 (211,82,A_order_Psc),
 (212,73,A_xlaw11_after),
 (213,74,A_order_Deps),
 (229,236,A_sync_set_1),
 (240,172,A_order_isR),
 (241,188,A_order_isSc),
 (242,174,A_order_Deps_1),
 (243,175,A_order_Deps_2),
 (244,176,A_order_Deps_3),
 (245,177,A_order_isEx),
 (472,7,A_xlaw11_OrderMore),
 (477,23,A_xlaw11_one)]
def num (f:Nat):Nat:=((tab.find? (fun r => r.1 == f)).map (·.2.1)).getD 0
def funs:Funs:=fun f => (tab.find? (fun r => r.1 == f)).map (·.2.2)
theorem c10:funB Tryz.prog num Tryz.f27 A_xlaw00_Place = true:=by kernel_rfl
theorem c11:funB Tryz.prog num Tryz.f51 A_rel_New = true:=by kernel_rfl
theorem c12:funB Tryz.prog num Tryz.f159 A_rel_Rel_Plus = true:=by kernel_rfl
theorem c13:funB Tryz.prog num Tryz.f42 A_rel_Rel_Has = true:=by kernel_rfl
theorem c14:funB Tryz.prog num Tryz.f224 A_rel_Rel_Loops = true:=by kernel_rfl
theorem c15:funB Tryz.prog num Tryz.f15 A_rel_Rel_Pairs = true:=by kernel_rfl
theorem c16:funB Tryz.prog num Tryz.f157 A_rel_Rel_Maybe = true:=by kernel_rfl
theorem c17:funB Tryz.prog num Tryz.f148 A_rel_Rel_Len = true:=by kernel_rfl
theorem c18:funB Tryz.prog num Tryz.f186 A_rel_Rel_And = true:=by kernel_rfl
theorem c22:funB Tryz.prog num Tryz.f16 A_rel_Rel_In = true:=by kernel_rfl
theorem c23:funB Tryz.prog num Tryz.f17 A_rel_Rel_Then = true:=by kernel_rfl
theorem c24:funB Tryz.prog num Tryz.f55 A_rel_Rel_Or = true:=by kernel_rfl
theorem c26:funB Tryz.prog num Tryz.f56 A_rel_Rel_Less = true:=by kernel_rfl
theorem c39:funB Tryz.prog num Tryz.f49 A_eco_Inner = true:=by kernel_rfl
theorem c40:funB Tryz.prog num Tryz.f87 A_eco_Outer = true:=by kernel_rfl
theorem c41:funB Tryz.prog num Tryz.f135 A_eco_Loc = true:=by kernel_rfl
theorem c42:funB Tryz.prog num Tryz.f189 A_eco_Eco = true:=by kernel_rfl
theorem c48:funB Tryz.prog num Tryz.f50 A_eco_Rf = true:=by kernel_rfl
theorem c49:funB Tryz.prog num Tryz.f130 A_eco_Co = true:=by kernel_rfl
theorem c50:funB Tryz.prog num Tryz.f129 A_eco_Fr = true:=by kernel_rfl
theorem c51:funB Tryz.prog num Tryz.f136 A_rel_Rel_by = true:=by kernel_rfl
theorem c52:funB Tryz.prog num Tryz.f237 A_rel_Rel_And_1 = true:=by kernel_rfl
theorem c53:funB Tryz.prog num Tryz.f137 A_rel_Rel_Or_1 = true:=by kernel_rfl
theorem c54:funB Tryz.prog num Tryz.f138 A_rel_Rel_Less_1 = true:=by kernel_rfl
theorem c57:funB Tryz.prog num Tryz.f131 A_eco_some = true:=by kernel_rfl
theorem c58:funB Tryz.prog num Tryz.f132 A_eco_Inner_1 = true:=by kernel_rfl
theorem c59:funB Tryz.prog num Tryz.f191 A_eco_Outer_1 = true:=by kernel_rfl
theorem c60:funB Tryz.prog num Tryz.f18 A_graph_Po = true:=by kernel_rfl
theorem c61:funB Tryz.prog num Tryz.f233 A_eco_Loc_1 = true:=by kernel_rfl
theorem c76:funB Tryz.prog num Tryz.f31 A_xlaw00_Small = true:=by kernel_rfl
theorem c77:funB Tryz.prog num Tryz.f32 A_xlaw00_Loads = true:=by kernel_rfl
theorem c78:funB Tryz.prog num Tryz.f34 A_xref13_All = true:=by kernel_rfl
theorem c79:funB Tryz.prog num Tryz.f35 A_xlaw00_Domain = true:=by kernel_rfl
theorem c80:funB Tryz.prog num Tryz.f133 A_eco_pairs = true:=by kernel_rfl
theorem c81:funB Tryz.prog num Tryz.f47 A_graph_Of = true:=by kernel_rfl
theorem c86:funB Tryz.prog num Tryz.f37 A_xlaw00_Prog = true:=by kernel_rfl
theorem c87:funB Tryz.prog num Tryz.f108 A_xref04_Check = true:=by kernel_rfl
theorem c88:funB Tryz.prog num Tryz.f109 A_xref13_Values = true:=by kernel_rfl
theorem c89:funB Tryz.prog num Tryz.f110 A_xref13_Lots = true:=by kernel_rfl
theorem c90:funB Tryz.prog num Tryz.f111 A_xref07_Skeleton = true:=by kernel_rfl
theorem c91:funB Tryz.prog num Tryz.f112 A_xref13_E_Finish = true:=by kernel_rfl
theorem c92:funB Tryz.prog num Tryz.f228 A_eco_pairs_1 = true:=by kernel_rfl
theorem c93:funB Tryz.prog num Tryz.f229 A_eco_pairs_2 = true:=by kernel_rfl
theorem c94:funB Tryz.prog num Tryz.f230 A_eco_pairs_3 = true:=by kernel_rfl
theorem c95:funB Tryz.prog num Tryz.f231 A_eco_pairs_4 = true:=by kernel_rfl
theorem c96:funB Tryz.prog num Tryz.f232 A_eco_pairs_5 = true:=by kernel_rfl
theorem c97:funB Tryz.prog num Tryz.f117 A_xlaw00_Instr = true:=by kernel_rfl
theorem c98:funB Tryz.prog num Tryz.f207 A_xref04_Instr = true:=by kernel_rfl
theorem c99:funB Tryz.prog num Tryz.f208 A_xref04_Events = true:=by kernel_rfl
theorem c100:funB Tryz.prog num Tryz.f209 A_xref04_Paths = true:=by kernel_rfl
theorem c101:funB Tryz.prog num Tryz.f210 A_xref13_values = true:=by kernel_rfl
theorem c102:funB Tryz.prog num Tryz.f126 A_xref13_Domain = true:=by kernel_rfl
theorem c103:funB Tryz.prog num Tryz.f211 A_xref07_First = true:=by kernel_rfl
theorem c104:funB Tryz.prog num Tryz.f212 A_xref05_Do = true:=by kernel_rfl
theorem c105:funB Tryz.prog num Tryz.f213 A_xref07_Lay = true:=by kernel_rfl
theorem c106:funB Tryz.prog num Tryz.f214 A_xref13_E_rf = true:=by kernel_rfl
theorem c107:funB Tryz.prog num Tryz.f215 A_xlaw00_Expr = true:=by kernel_rfl
theorem c108:funB Tryz.prog num Tryz.f216 A_xlaw00_num = true:=by kernel_rfl
theorem c109:funB Tryz.prog num Tryz.f253 A_xref02_Check = true:=by kernel_rfl
theorem c110:funB Tryz.prog num Tryz.f254 A_xref04_Uses = true:=by kernel_rfl
theorem c111:funB Tryz.prog num Tryz.f255 A_xref03_SameInstr = true:=by kernel_rfl
theorem c112:funB Tryz.prog num Tryz.f256 A_xref05_Start = true:=by kernel_rfl
theorem c113:funB Tryz.prog num Tryz.f257 A_xref05_S_Read = true:=by kernel_rfl
theorem c114:funB Tryz.prog num Tryz.f258 A_xref05_S_Write = true:=by kernel_rfl
theorem c115:funB Tryz.prog num Tryz.f259 A_xref02_Eval = true:=by kernel_rfl
theorem c116:funB Tryz.prog num Tryz.f260 A_xref05_S_Of = true:=by kernel_rfl
theorem c117:funB Tryz.prog num Tryz.f261 A_xref05_S_Event = true:=by kernel_rfl
theorem c118:funB Tryz.prog num Tryz.f262 A_xref05_S_faa = true:=by kernel_rfl
theorem c119:funB Tryz.prog num Tryz.f263 A_xref05_S_Move = true:=by kernel_rfl
theorem c120:funB Tryz.prog num Tryz.f264 A_xref05_S_Skip = true:=by kernel_rfl
theorem c121:funB Tryz.prog num Tryz.f265 A_xref07_moved = true:=by kernel_rfl
theorem c122:funB Tryz.prog num Tryz.f266 A_xref13_E_co = true:=by kernel_rfl
theorem c123:funB Tryz.prog num Tryz.f267 A_xlaw00_reg = true:=by kernel_rfl
theorem c124:funB Tryz.prog num Tryz.f268 A_xlaw00_op = true:=by kernel_rfl
theorem c125:funB Tryz.prog num Tryz.f277 A_xref02_word = true:=by kernel_rfl
theorem c126:funB Tryz.prog num Tryz.f278 A_xref02_Regs = true:=by kernel_rfl
theorem c127:funB Tryz.prog num Tryz.f279 A_xref02_Same = true:=by kernel_rfl
theorem c128:funB Tryz.prog num Tryz.f280 A_xref02_Do = true:=by kernel_rfl
theorem c129:funB Tryz.prog num Tryz.f274 A_xref05_Both = true:=by kernel_rfl
theorem c130:funB Tryz.prog num Tryz.f281 A_xref05_pairs = true:=by kernel_rfl
theorem c131:funB Tryz.prog num Tryz.f282 A_xref13_copied = true:=by kernel_rfl
theorem c132:funB Tryz.prog num Tryz.f288 A_xref05_Put = true:=by kernel_rfl
theorem c148:funB Tryz.prog num Tryz.f64 A_sync_Hb = true:=by kernel_rfl
theorem c149:funB Tryz.prog num Tryz.f65 A_sync_Release = true:=by kernel_rfl
theorem c155:funB Tryz.prog num Tryz.f76 A_order_Bob = true:=by kernel_rfl
theorem c156:funB Tryz.prog num Tryz.f26 A_order_Ar = true:=by kernel_rfl
theorem c157:funB Tryz.prog num Tryz.f24 A_xlaw11_awake = true:=by kernel_rfl
theorem c166:funB Tryz.prog num Tryz.f45 A_graph_Set = true:=by kernel_rfl
theorem c176:funB Tryz.prog num Tryz.f63 A_sync_Sw = true:=by kernel_rfl
theorem c177:funB Tryz.prog num Tryz.f156 A_sync_then = true:=by kernel_rfl
theorem c178:funB Tryz.prog num Tryz.f158 A_sync_set = true:=by kernel_rfl
theorem c179:funB Tryz.prog num Tryz.f66 A_sync_Rs = true:=by kernel_rfl
theorem c193:funB Tryz.prog num Tryz.f85 A_order_all = true:=by kernel_rfl
theorem c194:funB Tryz.prog num Tryz.f178 A_order_Bob_1 = true:=by kernel_rfl
theorem c195:funB Tryz.prog num Tryz.f171 A_order_set = true:=by kernel_rfl
theorem c196:funB Tryz.prog num Tryz.f179 A_order_isRel = true:=by kernel_rfl
theorem c197:funB Tryz.prog num Tryz.f180 A_order_Bob_2 = true:=by kernel_rfl
theorem c198:funB Tryz.prog num Tryz.f181 A_order_isAcq = true:=by kernel_rfl
theorem c199:funB Tryz.prog num Tryz.f182 A_order_Bob_3 = true:=by kernel_rfl
theorem c200:funB Tryz.prog num Tryz.f183 A_order_isF = true:=by kernel_rfl
theorem c201:funB Tryz.prog num Tryz.f184 A_order_Bob_4 = true:=by kernel_rfl
theorem c202:funB Tryz.prog num Tryz.f185 A_order_Bob_5 = true:=by kernel_rfl
theorem c203:funB Tryz.prog num Tryz.f173 A_order_isW = true:=by kernel_rfl
theorem c204:funB Tryz.prog num Tryz.f86 A_order_Ar_1 = true:=by kernel_rfl
theorem c205:funB Tryz.prog num Tryz.f88 A_order_Ar_2 = true:=by kernel_rfl
theorem c206:funB Tryz.prog num Tryz.f89 A_order_Ar_3 = true:=by kernel_rfl
theorem c207:funB Tryz.prog num Tryz.f72 A_order_Ppo = true:=by kernel_rfl
theorem c208:funB Tryz.prog num Tryz.f90 A_order_Ar_4 = true:=by kernel_rfl
theorem c209:funB Tryz.prog num Tryz.f80 A_order_Detour = true:=by kernel_rfl
theorem c210:funB Tryz.prog num Tryz.f91 A_order_Ar_5 = true:=by kernel_rfl
theorem c211:funB Tryz.prog num Tryz.f82 A_order_Psc = true:=by kernel_rfl
theorem c212:funB Tryz.prog num Tryz.f73 A_xlaw11_after = true:=by kernel_rfl
theorem c213:funB Tryz.prog num Tryz.f74 A_order_Deps = true:=by kernel_rfl
theorem c229:funB Tryz.prog num Tryz.f236 A_sync_set_1 = true:=by kernel_rfl
theorem c240:funB Tryz.prog num Tryz.f172 A_order_isR = true:=by kernel_rfl
theorem c241:funB Tryz.prog num Tryz.f188 A_order_isSc = true:=by kernel_rfl
theorem c242:funB Tryz.prog num Tryz.f174 A_order_Deps_1 = true:=by kernel_rfl
theorem c243:funB Tryz.prog num Tryz.f175 A_order_Deps_2 = true:=by kernel_rfl
theorem c244:funB Tryz.prog num Tryz.f176 A_order_Deps_3 = true:=by kernel_rfl
theorem c245:funB Tryz.prog num Tryz.f177 A_order_isEx = true:=by kernel_rfl
theorem c472:funB Tryz.prog num Tryz.f7 A_xlaw11_OrderMore = true:=by kernel_rfl
theorem c477:funB Tryz.prog num Tryz.f23 A_xlaw11_one = true:=by kernel_rfl
def Good (r:Nat × Nat × AFun):Prop:=num r.1 = r.2.1∧∃ fn,Tryz.prog.funcs[r.2.1]? = some fn∧funB Tryz.prog num fn r.2.2 = true
theorem good:∀ r∈tab,Good r:=by
 intro r hr
 unfold tab at hr
 rcases List.mem_cons.1 hr with rfl | hr
 ·exact ⟨by kernel_rfl,_,Tryz.func27,c10⟩
 rcases List.mem_cons.1 hr with rfl | hr
 ·exact ⟨by kernel_rfl,_,Tryz.func51,c11⟩
 rcases List.mem_cons.1 hr with rfl | hr
 ·exact ⟨by kernel_rfl,_,Tryz.func159,c12⟩
 rcases List.mem_cons.1 hr with rfl | hr
 ·exact ⟨by kernel_rfl,_,Tryz.func42,c13⟩
 rcases List.mem_cons.1 hr with rfl | hr
 ·exact ⟨by kernel_rfl,_,Tryz.func224,c14⟩
 rcases List.mem_cons.1 hr with rfl | hr
 ·exact ⟨by kernel_rfl,_,Tryz.func15,c15⟩
 rcases List.mem_cons.1 hr with rfl | hr
 ·exact ⟨by kernel_rfl,_,Tryz.func157,c16⟩
 rcases List.mem_cons.1 hr with rfl | hr
 ·exact ⟨by kernel_rfl,_,Tryz.func148,c17⟩
 rcases List.mem_cons.1 hr with rfl | hr
 ·exact ⟨by kernel_rfl,_,Tryz.func186,c18⟩
 rcases List.mem_cons.1 hr with rfl | hr
 ·exact ⟨by kernel_rfl,_,Tryz.func16,c22⟩
 rcases List.mem_cons.1 hr with rfl | hr
 ·exact ⟨by kernel_rfl,_,Tryz.func17,c23⟩
 rcases List.mem_cons.1 hr with rfl | hr
 ·exact ⟨by kernel_rfl,_,Tryz.func55,c24⟩
 rcases List.mem_cons.1 hr with rfl | hr
 ·exact ⟨by kernel_rfl,_,Tryz.func56,c26⟩
 rcases List.mem_cons.1 hr with rfl | hr
 ·exact ⟨by kernel_rfl,_,Tryz.func49,c39⟩
 rcases List.mem_cons.1 hr with rfl | hr
 ·exact ⟨by kernel_rfl,_,Tryz.func87,c40⟩
 rcases List.mem_cons.1 hr with rfl | hr
 ·exact ⟨by kernel_rfl,_,Tryz.func135,c41⟩
 rcases List.mem_cons.1 hr with rfl | hr
 ·exact ⟨by kernel_rfl,_,Tryz.func189,c42⟩
 rcases List.mem_cons.1 hr with rfl | hr
 ·exact ⟨by kernel_rfl,_,Tryz.func50,c48⟩
 rcases List.mem_cons.1 hr with rfl | hr
 ·exact ⟨by kernel_rfl,_,Tryz.func130,c49⟩
 rcases List.mem_cons.1 hr with rfl | hr
 ·exact ⟨by kernel_rfl,_,Tryz.func129,c50⟩
 rcases List.mem_cons.1 hr with rfl | hr
 ·exact ⟨by kernel_rfl,_,Tryz.func136,c51⟩
 rcases List.mem_cons.1 hr with rfl | hr
 ·exact ⟨by kernel_rfl,_,Tryz.func237,c52⟩
 rcases List.mem_cons.1 hr with rfl | hr
 ·exact ⟨by kernel_rfl,_,Tryz.func137,c53⟩
 rcases List.mem_cons.1 hr with rfl | hr
 ·exact ⟨by kernel_rfl,_,Tryz.func138,c54⟩
 rcases List.mem_cons.1 hr with rfl | hr
 ·exact ⟨by kernel_rfl,_,Tryz.func131,c57⟩
 rcases List.mem_cons.1 hr with rfl | hr
 ·exact ⟨by kernel_rfl,_,Tryz.func132,c58⟩
 rcases List.mem_cons.1 hr with rfl | hr
 ·exact ⟨by kernel_rfl,_,Tryz.func191,c59⟩
 rcases List.mem_cons.1 hr with rfl | hr
 ·exact ⟨by kernel_rfl,_,Tryz.func18,c60⟩
 rcases List.mem_cons.1 hr with rfl | hr
 ·exact ⟨by kernel_rfl,_,Tryz.func233,c61⟩
 rcases List.mem_cons.1 hr with rfl | hr
 ·exact ⟨by kernel_rfl,_,Tryz.func31,c76⟩
 rcases List.mem_cons.1 hr with rfl | hr
 ·exact ⟨by kernel_rfl,_,Tryz.func32,c77⟩
 rcases List.mem_cons.1 hr with rfl | hr
 ·exact ⟨by kernel_rfl,_,Tryz.func34,c78⟩
 rcases List.mem_cons.1 hr with rfl | hr
 ·exact ⟨by kernel_rfl,_,Tryz.func35,c79⟩
 rcases List.mem_cons.1 hr with rfl | hr
 ·exact ⟨by kernel_rfl,_,Tryz.func133,c80⟩
 rcases List.mem_cons.1 hr with rfl | hr
 ·exact ⟨by kernel_rfl,_,Tryz.func47,c81⟩
 rcases List.mem_cons.1 hr with rfl | hr
 ·exact ⟨by kernel_rfl,_,Tryz.func37,c86⟩
 rcases List.mem_cons.1 hr with rfl | hr
 ·exact ⟨by kernel_rfl,_,Tryz.func108,c87⟩
 rcases List.mem_cons.1 hr with rfl | hr
 ·exact ⟨by kernel_rfl,_,Tryz.func109,c88⟩
 rcases List.mem_cons.1 hr with rfl | hr
 ·exact ⟨by kernel_rfl,_,Tryz.func110,c89⟩
 rcases List.mem_cons.1 hr with rfl | hr
 ·exact ⟨by kernel_rfl,_,Tryz.func111,c90⟩
 rcases List.mem_cons.1 hr with rfl | hr
 ·exact ⟨by kernel_rfl,_,Tryz.func112,c91⟩
 rcases List.mem_cons.1 hr with rfl | hr
 ·exact ⟨by kernel_rfl,_,Tryz.func228,c92⟩
 rcases List.mem_cons.1 hr with rfl | hr
 ·exact ⟨by kernel_rfl,_,Tryz.func229,c93⟩
 rcases List.mem_cons.1 hr with rfl | hr
 ·exact ⟨by kernel_rfl,_,Tryz.func230,c94⟩
 rcases List.mem_cons.1 hr with rfl | hr
 ·exact ⟨by kernel_rfl,_,Tryz.func231,c95⟩
 rcases List.mem_cons.1 hr with rfl | hr
 ·exact ⟨by kernel_rfl,_,Tryz.func232,c96⟩
 rcases List.mem_cons.1 hr with rfl | hr
 ·exact ⟨by kernel_rfl,_,Tryz.func117,c97⟩
 rcases List.mem_cons.1 hr with rfl | hr
 ·exact ⟨by kernel_rfl,_,Tryz.func207,c98⟩
 rcases List.mem_cons.1 hr with rfl | hr
 ·exact ⟨by kernel_rfl,_,Tryz.func208,c99⟩
 rcases List.mem_cons.1 hr with rfl | hr
 ·exact ⟨by kernel_rfl,_,Tryz.func209,c100⟩
 rcases List.mem_cons.1 hr with rfl | hr
 ·exact ⟨by kernel_rfl,_,Tryz.func210,c101⟩
 rcases List.mem_cons.1 hr with rfl | hr
 ·exact ⟨by kernel_rfl,_,Tryz.func126,c102⟩
 rcases List.mem_cons.1 hr with rfl | hr
 ·exact ⟨by kernel_rfl,_,Tryz.func211,c103⟩
 rcases List.mem_cons.1 hr with rfl | hr
 ·exact ⟨by kernel_rfl,_,Tryz.func212,c104⟩
 rcases List.mem_cons.1 hr with rfl | hr
 ·exact ⟨by kernel_rfl,_,Tryz.func213,c105⟩
 rcases List.mem_cons.1 hr with rfl | hr
 ·exact ⟨by kernel_rfl,_,Tryz.func214,c106⟩
 rcases List.mem_cons.1 hr with rfl | hr
 ·exact ⟨by kernel_rfl,_,Tryz.func215,c107⟩
 rcases List.mem_cons.1 hr with rfl | hr
 ·exact ⟨by kernel_rfl,_,Tryz.func216,c108⟩
 rcases List.mem_cons.1 hr with rfl | hr
 ·exact ⟨by kernel_rfl,_,Tryz.func253,c109⟩
 rcases List.mem_cons.1 hr with rfl | hr
 ·exact ⟨by kernel_rfl,_,Tryz.func254,c110⟩
 rcases List.mem_cons.1 hr with rfl | hr
 ·exact ⟨by kernel_rfl,_,Tryz.func255,c111⟩
 rcases List.mem_cons.1 hr with rfl | hr
 ·exact ⟨by kernel_rfl,_,Tryz.func256,c112⟩
 rcases List.mem_cons.1 hr with rfl | hr
 ·exact ⟨by kernel_rfl,_,Tryz.func257,c113⟩
 rcases List.mem_cons.1 hr with rfl | hr
 ·exact ⟨by kernel_rfl,_,Tryz.func258,c114⟩
 rcases List.mem_cons.1 hr with rfl | hr
 ·exact ⟨by kernel_rfl,_,Tryz.func259,c115⟩
 rcases List.mem_cons.1 hr with rfl | hr
 ·exact ⟨by kernel_rfl,_,Tryz.func260,c116⟩
 rcases List.mem_cons.1 hr with rfl | hr
 ·exact ⟨by kernel_rfl,_,Tryz.func261,c117⟩
 rcases List.mem_cons.1 hr with rfl | hr
 ·exact ⟨by kernel_rfl,_,Tryz.func262,c118⟩
 rcases List.mem_cons.1 hr with rfl | hr
 ·exact ⟨by kernel_rfl,_,Tryz.func263,c119⟩
 rcases List.mem_cons.1 hr with rfl | hr
 ·exact ⟨by kernel_rfl,_,Tryz.func264,c120⟩
 rcases List.mem_cons.1 hr with rfl | hr
 ·exact ⟨by kernel_rfl,_,Tryz.func265,c121⟩
 rcases List.mem_cons.1 hr with rfl | hr
 ·exact ⟨by kernel_rfl,_,Tryz.func266,c122⟩
 rcases List.mem_cons.1 hr with rfl | hr
 ·exact ⟨by kernel_rfl,_,Tryz.func267,c123⟩
 rcases List.mem_cons.1 hr with rfl | hr
 ·exact ⟨by kernel_rfl,_,Tryz.func268,c124⟩
 rcases List.mem_cons.1 hr with rfl | hr
 ·exact ⟨by kernel_rfl,_,Tryz.func277,c125⟩
 rcases List.mem_cons.1 hr with rfl | hr
 ·exact ⟨by kernel_rfl,_,Tryz.func278,c126⟩
 rcases List.mem_cons.1 hr with rfl | hr
 ·exact ⟨by kernel_rfl,_,Tryz.func279,c127⟩
 rcases List.mem_cons.1 hr with rfl | hr
 ·exact ⟨by kernel_rfl,_,Tryz.func280,c128⟩
 rcases List.mem_cons.1 hr with rfl | hr
 ·exact ⟨by kernel_rfl,_,Tryz.func274,c129⟩
 rcases List.mem_cons.1 hr with rfl | hr
 ·exact ⟨by kernel_rfl,_,Tryz.func281,c130⟩
 rcases List.mem_cons.1 hr with rfl | hr
 ·exact ⟨by kernel_rfl,_,Tryz.func282,c131⟩
 rcases List.mem_cons.1 hr with rfl | hr
 ·exact ⟨by kernel_rfl,_,Tryz.func288,c132⟩
 rcases List.mem_cons.1 hr with rfl | hr
 ·exact ⟨by kernel_rfl,_,Tryz.func64,c148⟩
 rcases List.mem_cons.1 hr with rfl | hr
 ·exact ⟨by kernel_rfl,_,Tryz.func65,c149⟩
 rcases List.mem_cons.1 hr with rfl | hr
 ·exact ⟨by kernel_rfl,_,Tryz.func76,c155⟩
 rcases List.mem_cons.1 hr with rfl | hr
 ·exact ⟨by kernel_rfl,_,Tryz.func26,c156⟩
 rcases List.mem_cons.1 hr with rfl | hr
 ·exact ⟨by kernel_rfl,_,Tryz.func24,c157⟩
 rcases List.mem_cons.1 hr with rfl | hr
 ·exact ⟨by kernel_rfl,_,Tryz.func45,c166⟩
 rcases List.mem_cons.1 hr with rfl | hr
 ·exact ⟨by kernel_rfl,_,Tryz.func63,c176⟩
 rcases List.mem_cons.1 hr with rfl | hr
 ·exact ⟨by kernel_rfl,_,Tryz.func156,c177⟩
 rcases List.mem_cons.1 hr with rfl | hr
 ·exact ⟨by kernel_rfl,_,Tryz.func158,c178⟩
 rcases List.mem_cons.1 hr with rfl | hr
 ·exact ⟨by kernel_rfl,_,Tryz.func66,c179⟩
 rcases List.mem_cons.1 hr with rfl | hr
 ·exact ⟨by kernel_rfl,_,Tryz.func85,c193⟩
 rcases List.mem_cons.1 hr with rfl | hr
 ·exact ⟨by kernel_rfl,_,Tryz.func178,c194⟩
 rcases List.mem_cons.1 hr with rfl | hr
 ·exact ⟨by kernel_rfl,_,Tryz.func171,c195⟩
 rcases List.mem_cons.1 hr with rfl | hr
 ·exact ⟨by kernel_rfl,_,Tryz.func179,c196⟩
 rcases List.mem_cons.1 hr with rfl | hr
 ·exact ⟨by kernel_rfl,_,Tryz.func180,c197⟩
 rcases List.mem_cons.1 hr with rfl | hr
 ·exact ⟨by kernel_rfl,_,Tryz.func181,c198⟩
 rcases List.mem_cons.1 hr with rfl | hr
 ·exact ⟨by kernel_rfl,_,Tryz.func182,c199⟩
 rcases List.mem_cons.1 hr with rfl | hr
 ·exact ⟨by kernel_rfl,_,Tryz.func183,c200⟩
 rcases List.mem_cons.1 hr with rfl | hr
 ·exact ⟨by kernel_rfl,_,Tryz.func184,c201⟩
 rcases List.mem_cons.1 hr with rfl | hr
 ·exact ⟨by kernel_rfl,_,Tryz.func185,c202⟩
 rcases List.mem_cons.1 hr with rfl | hr
 ·exact ⟨by kernel_rfl,_,Tryz.func173,c203⟩
 rcases List.mem_cons.1 hr with rfl | hr
 ·exact ⟨by kernel_rfl,_,Tryz.func86,c204⟩
 rcases List.mem_cons.1 hr with rfl | hr
 ·exact ⟨by kernel_rfl,_,Tryz.func88,c205⟩
 rcases List.mem_cons.1 hr with rfl | hr
 ·exact ⟨by kernel_rfl,_,Tryz.func89,c206⟩
 rcases List.mem_cons.1 hr with rfl | hr
 ·exact ⟨by kernel_rfl,_,Tryz.func72,c207⟩
 rcases List.mem_cons.1 hr with rfl | hr
 ·exact ⟨by kernel_rfl,_,Tryz.func90,c208⟩
 rcases List.mem_cons.1 hr with rfl | hr
 ·exact ⟨by kernel_rfl,_,Tryz.func80,c209⟩
 rcases List.mem_cons.1 hr with rfl | hr
 ·exact ⟨by kernel_rfl,_,Tryz.func91,c210⟩
 rcases List.mem_cons.1 hr with rfl | hr
 ·exact ⟨by kernel_rfl,_,Tryz.func82,c211⟩
 rcases List.mem_cons.1 hr with rfl | hr
 ·exact ⟨by kernel_rfl,_,Tryz.func73,c212⟩
 rcases List.mem_cons.1 hr with rfl | hr
 ·exact ⟨by kernel_rfl,_,Tryz.func74,c213⟩
 rcases List.mem_cons.1 hr with rfl | hr
 ·exact ⟨by kernel_rfl,_,Tryz.func236,c229⟩
 rcases List.mem_cons.1 hr with rfl | hr
 ·exact ⟨by kernel_rfl,_,Tryz.func172,c240⟩
 rcases List.mem_cons.1 hr with rfl | hr
 ·exact ⟨by kernel_rfl,_,Tryz.func188,c241⟩
 rcases List.mem_cons.1 hr with rfl | hr
 ·exact ⟨by kernel_rfl,_,Tryz.func174,c242⟩
 rcases List.mem_cons.1 hr with rfl | hr
 ·exact ⟨by kernel_rfl,_,Tryz.func175,c243⟩
 rcases List.mem_cons.1 hr with rfl | hr
 ·exact ⟨by kernel_rfl,_,Tryz.func176,c244⟩
 rcases List.mem_cons.1 hr with rfl | hr
 ·exact ⟨by kernel_rfl,_,Tryz.func177,c245⟩
 rcases List.mem_cons.1 hr with rfl | hr
 ·exact ⟨by kernel_rfl,_,Tryz.func7,c472⟩
 rcases List.mem_cons.1 hr with rfl | hr
 ·exact ⟨by kernel_rfl,_,Tryz.func23,c477⟩
 cases hr
theorem table:Table Tryz.prog num funs:=by
 intro f A h
 unfold funs at h
 cases hf:tab.find? (fun r => r.1 == f) with
 | none => rw[hf] at h;cases h
 | some r =>
   rw[hf] at h;cases h
   have h1:=List.find?_some hf
   simp only[beq_iff_eq] at h1
   subst h1
   obtain ⟨h2,h3⟩:=good r (List.mem_of_find?_eq_some hf)
   rw[h2];exact h3
theorem pk_eco:Pk_eco funs:=⟨rfl,rfl,rfl,rfl,rfl,rfl,rfl,rfl,rfl,rfl,rfl,rfl,rfl,rfl,rfl,rfl,rfl⟩
theorem pk_order:Pk_order funs:=⟨rfl,rfl,rfl,rfl,rfl,rfl,rfl,rfl,rfl,rfl,rfl,rfl,rfl,rfl,rfl,rfl,rfl,rfl,rfl,rfl,rfl,rfl,rfl,rfl,rfl,rfl,rfl,rfl⟩
theorem pk_rel:Pk_rel funs:=⟨rfl,rfl,rfl,rfl,rfl,rfl,rfl,rfl,rfl,rfl,rfl,rfl,rfl⟩
theorem pk_sync:Pk_sync funs:=⟨rfl,rfl,rfl,rfl,rfl,rfl,rfl⟩
end Go.Proofs.YthafjhelijmpcaaGreat
end
section
set_option linter.unusedVariables false
set_option linter.unusedSimpArgs false
namespace Go.Ab
open Go.RowKit
def ShR (S:List AV→Prop) (n:Nat) (asx:List AV):Prop:=∃ rows:List (List AV),rows.length = n∧asx = rows.flatten∧∀ r∈rows,S r
def ShL (S:TypeId→List AV→Prop):List TypeId→List AV→Prop
 | [],asx => asx = []
 | t :: ts,asx => ∃ a b,asx = a ++ b∧S t a∧ShL S ts b
def Sh (P:Program):Nat→TypeId→List AV→Prop
 | 0,_,_ => False
 | m + 1,t,asx => match P.underlying t with
   | some .bool => ∃ b,asx = [.b b]
   | some (.int k) => ∃ n,asx = [.i k n]∧(Lit.int k n).wf = true
   | some .string => ∃ s,asx = [.s s]∧s.size≤maxLen
   | some (.slice e) => ∃ cs n,asx = [.sl cs n .non]∧n≤maxLen∧ShR (Sh P m e) n cs
   | some (.pointer e) => asx = [.nilp]∨∃ cs,asx = [.ptr cs]∧Sh P m e cs
   | some (.struct fs) => ShL (Sh P m) (fs.toList.map (·.type)) asx
   | some (.array n e) => ShR (Sh P m e) n asx
   | _ => False
def fieldsOk (P:Program):Nat→List Field→Nat→Bool
 | o,[],n => o == n
 | o,f :: fs,n => (f.offset == o) && fieldsOk P (o + P.cellsOf f.type) fs n
def plainB (P:Program):Nat→TypeId→Bool
 | 0,_ => false
 | m + 1,t => match P.underlying t with
   | some .bool | some (.int _) | some .string => true
   | some (.slice e) => plainB P m e
   | some (.pointer e) => plainB P m e
   | some (.struct fs) => fieldsOk P 0 fs.toList (P.cellsOf t) && fs.toList.all (fun f => plainB P m f.type)
   | some (.array n e) => (P.cellsOf t == n * P.cellsOf e) && plainB P m e
   | _ => false
section
variable {H:Type} {enc:TypeId × Value→H} {P:Program} {c:Cx}
theorem add_add' (a:Addr) (m n:Nat):(a.add m).add n = a.add (m + n):=by
 unfold Addr.add
 by_cases hm:m = 0<;>by_cases hn:n = 0<;>simp[hm,hn,Nat.add_assoc]
theorem I_cell (hb:c.base = c.w.heap.size) (hJ:c.J = fun _ => True) {a:Addr} {v:Value} (h:c.w.cell? a = some v):c.I a:=.inl ⟨by rw[hb];exact block_lt_of_cell h,by rw[hJ];trivial⟩
theorem read_rows {S:List AV→Prop} {sz:Nat} {a:Addr} {n:Nat}
  (h:∀ i,i < n→∃ row rs,c.w.cells? 0 (a.add (i * sz)) sz = some row∧S rs∧Reps c false rs row∧∀ v∈row,v.oneCell' = true):
  ∃ cs vs,ShR S n cs∧Reps c false cs vs∧vs.length = n * sz∧(∀ v∈vs,v.oneCell' = true)∧∀ j,j < n * sz→c.w.cell? (a.add j) = vs[j]?:=by
 induction n with
 | zero => exact ⟨[],[],⟨[],rfl,rfl,fun _ h => by cases h⟩,Reps.nil,by simp,(fun v (h:v∈([]:List Value)) => by cases h),fun j hj => by omega⟩
 | succ n ih =>
   obtain ⟨cs,vs,⟨rows,hl,rfl,hS⟩,hR,hlen,h1,hcell⟩:=ih fun i hi => h i (by omega)
   obtain ⟨row,rs,hc,hSr,hRr,h1r⟩:=h n (by omega)
   obtain ⟨_,hrl,hrc⟩:=World.cells?_some hc
   refine ⟨_,vs ++ row,⟨rows ++ [rs],by simp[hl],rfl,?_⟩,?_,?_,?_,?_⟩
   ·intro r hr
    rcases List.mem_append.1 hr with hr | hr
    ·exact hS r hr
    ·rw[List.mem_singleton.1 hr];exact hSr
   ·simp only[List.flatten_append,List.flatten_cons,List.flatten_nil,List.append_nil]
    exact hR.append hRr
   ·rw[List.length_append,hlen,hrl,Nat.succ_mul]
   ·intro v hv
    rcases List.mem_append.1 hv with hv | hv
    ·exact h1 v hv
    ·exact h1r v hv
   ·intro j hj
    rw[Nat.succ_mul] at hj
    by_cases hjn:j < n * sz
    ·rw[List.getElem?_append_left (by omega)];exact hcell j hjn
    ·rw[List.getElem?_append_right (by omega),hlen,←hrc (j - n * sz) (by omega),add_add']
     rw[show n * sz + (j - n * sz) = j by omega]
theorem read_cells (hb:c.base = c.w.heap.size) (hJ:c.J = fun _ => True):∀ (m:Nat) {t:TypeId} {fuel:Nat} {cs:List Value} {x:DataW H × List MemPlace},
  plainB P m t = true→DataW.trod enc P c.w 0 (fun _ => true) true fuel t cs = some x→∃ asx,Sh P m t asx∧Reps c false asx cs∧∀ v∈cs,v.oneCell' = true
 | 0,_,_,_,_,h,_ => by simp[plainB] at h
 | m + 1,t,fuel,cs,x,hp,h => by
   have one:∀ {y:AV} {v:Value},Rep c false y v→v.oneCell' = true→Reps c false [y] [v]∧∀ u∈[v],u.oneCell' = true:=fun hr h1 =>
    ⟨Reps.cons hr Reps.nil,fun u hu => by rw[List.mem_singleton.1 hu];exact h1⟩
   simp only[plainB] at hp
   cases ht:P.underlying t with
   | none => rw[ht] at hp;cases hp
   | some d =>
     rw[ht] at hp
     cases d with
     | bool =>
       obtain ⟨b,rfl,_⟩:=DataW.trod_bool ht h
       exact ⟨[.b b],by simp only[Sh,ht];exact ⟨b,rfl⟩,one (.b b) rfl⟩
     | int k =>
       obtain ⟨n,rfl,_,hw⟩:=DataW.trod_int ht h
       exact ⟨[.i k n],by simp only[Sh,ht];exact ⟨n,rfl,hw⟩,one (.i k n) rfl⟩
     | string =>
       obtain ⟨s,rfl,_,hs⟩:=DataW.trod_string ht h
       exact ⟨[.s s],by simp only[Sh,ht];exact ⟨s,rfl,hs⟩,one (.s s) rfl⟩
     | slice e =>
       rcases DataW.trod_slice ht h with ⟨rfl,_⟩ | ⟨a,len,cap,elems,rest,n,rfl,rfl,_,_,hl,hm,hel,hget,_,_⟩
       ·refine ⟨[.sl [] 0 .non],by simp only[Sh,ht];exact ⟨[],0,rfl,Nat.zero_le _,[],rfl,rfl,fun _ h => by cases h⟩,one ?_ rfl⟩
        exact .sl ⟨0,0,none⟩ [] (Nat.le_refl _) (Nat.zero_le _) (fun h => by cases h) (fun _ _ _ h => by cases h) (fun h => by omega) (fun _ h => by cases h) rfl (fun h => absurd rfl h) (fun j v h => by simp at h) (fun j x v h => by simp at h) (fun _ _ h => by cases h)
       ·obtain ⟨asx,vs,hS,hR,hlen,h1,hcell⟩:=read_rows (c:=c) (S:=Sh P m e) (sz:=P.cellsOf e) (a:=a) (n:=len) fun i hi => by
         have hg:=hget i hi
         cases hc:c.w.cells? 0 (a.add (i * P.cellsOf e)) (P.cellsOf e) with
         | none => rw[hc] at hg;simp at hg;omega
         | some row =>
           rw[hc,Option.bind_some,List.getElem?_eq_getElem (by omega)] at hg
           obtain ⟨rs,h1,h2,h3⟩:=read_cells hb hJ m hp hg
           exact ⟨row,rs,rfl,h1,h2,h3⟩
        have hk:∀ (j:Nat) v,vs[j]? = some v→c.I (a.add j)∧c.w.cell? (a.add j) = some v:=fun j v hv => by
         have hj:j < len * P.cellsOf e:=by rw[←hlen];exact (List.getElem?_eq_some_iff.1 hv).1
         have:=(hcell j hj).trans hv
         exact ⟨I_cell hb hJ this,this⟩
        refine ⟨[.sl asx len .non],by simp only[Sh,ht];exact ⟨asx,len,rfl,by omega,hS⟩,one ?_ rfl⟩
        exact .sl a vs hl hm (fun h => by cases h) (fun _ _ _ h => by cases h) (fun _ => rfl) h1 hR.1 (fun _ => rfl) hk (fun j x v hx hv => hR.2 j x v hx hv) (fun _ _ h => by cases h)
     | pointer e =>
       rcases DataW.trod_pointer ht h with ⟨rfl,_⟩ | ⟨a,cs',y,n,rfl,rfl,_,hc,hd⟩
       ·exact ⟨[.nilp],by simp only[Sh,ht];exact .inl trivial,one .nilp rfl⟩
       ·obtain ⟨rs,h1,h2,h3⟩:=read_cells hb hJ m hp hd
        obtain ⟨_,hl,hcell⟩:=World.cells?_some hc
        have hk:∀ (j:Nat) v,cs'[j]? = some v→c.I (a.add j)∧c.w.cell? (a.add j) = some v:=fun j v hv => by
         have hj:j < P.cellsOf e:=by rw[←hl];exact (List.getElem?_eq_some_iff.1 hv).1
         have:=(hcell j hj).trans hv
         exact ⟨I_cell hb hJ this,this⟩
        exact ⟨[.ptr rs],by simp only[Sh,ht];exact .inr ⟨rs,rfl,h1⟩,one (.ptr a cs' h3 h2.1 hk (fun j x v hx hv => h2.2 j x v hx hv)) rfl⟩
     | struct fs =>
       simp only[Bool.and_eq_true,List.all_eq_true] at hp
       obtain ⟨xs,n,rfl,_,hcl,hxl,hget⟩:=DataW.trod_struct ht h
       have key:∀ (l:List Field) (o:Nat) (i:Nat),fieldsOk P o l (P.cellsOf t) = true→o≤cs.length→(∀ f∈l,plainB P m f.type = true)→(∀ j f,l[j]? = some f→DataW.trod enc P c.w 0 (fun _ => true) true n f.type ((cs.drop f.offset).take (P.cellsOf f.type)) = xs[i + j]?)→i + l.length = xs.length →
         ∃ asx,ShL (Sh P m) (l.map (·.type)) asx∧Reps c false asx (cs.drop o)∧∀ v∈cs.drop o,v.oneCell' = true:=by
        intro l
        induction l with
        | nil =>
          intro o i hf ho _ _ _
          simp only[fieldsOk,beq_iff_eq] at hf
          have:cs.drop o = []:=List.drop_eq_nil_of_le (by omega)
          rw[this]
          exact ⟨[],rfl,Reps.nil,fun _ h => by cases h⟩
        | cons f l ih =>
          intro o i hf ho hpl hg hlen
          simp only[fieldsOk,Bool.and_eq_true,beq_iff_eq] at hf
          obtain ⟨hfo,hf⟩:=hf
          have hg0:=hg 0 f rfl
          simp only[List.length_cons] at hlen
          rw[List.getElem?_eq_getElem (by omega),hfo] at hg0
          obtain ⟨rs,h1,h2,h3⟩:=read_cells hb hJ m (hpl f (List.mem_cons_self ..)) hg0
          have mono:∀ (l:List Field) (o:Nat),fieldsOk P o l (P.cellsOf t) = true→o≤P.cellsOf t:=by
           intro l
           induction l with
           | nil => intro o h;simp only[fieldsOk,beq_iff_eq] at h;omega
           | cons f l ih => intro o h;simp only[fieldsOk,Bool.and_eq_true] at h;have:=ih _ h.2;omega
          have ho2:=mono _ _ hf
          obtain ⟨asx,h4,h5,h6⟩:=ih (o + P.cellsOf f.type) (i + 1) hf (by omega) (fun g hg => hpl g (List.mem_cons_of_mem _ hg)) (fun j g hj => by
           have:=hg (j + 1) g (by simpa using hj)
           rwa [show i + (j + 1) = i + 1 + j by omega] at this) (by omega)
          have hsplit:cs.drop o = (cs.drop o).take (P.cellsOf f.type) ++ cs.drop (o + P.cellsOf f.type):=by
           rw[←List.drop_drop,List.take_append_drop]
          rw[hsplit]
          refine ⟨rs ++ asx,⟨rs,asx,rfl,h1,h4⟩,h2.append h5,fun v hv => ?_⟩
          rcases List.mem_append.1 hv with hv | hv
          ·exact h3 v hv
          ·exact h6 v hv
       obtain ⟨asx,h1,h2,h3⟩:=key fs.toList 0 0 hp.1 (Nat.zero_le _) hp.2 (fun j f hj => by
        have:=hget j f (by simpa using hj)
        rwa [show 0 + j = j by omega]) (by simp[hxl])
       exact ⟨asx,by simp only[Sh,ht];exact h1,by simpa using h2,by simpa using h3⟩
     | array n e =>
       simp only[Bool.and_eq_true,beq_iff_eq] at hp
       obtain ⟨xs,q,rfl,_,hcl,hxl,hget⟩:=DataW.trod_array ht h
       have key:∀ i,i≤n→∃ asx,ShR (Sh P m e) i asx∧Reps c false asx (cs.take (i * P.cellsOf e))∧∀ v∈cs.take (i * P.cellsOf e),v.oneCell' = true:=by
        intro i
        induction i with
        | zero => intro _;exact ⟨[],⟨[],rfl,rfl,fun _ h => by cases h⟩,by simpa using Reps.nil,by simp⟩
        | succ i ih =>
          intro hi
          obtain ⟨asx,⟨rows,hl,rfl,hS⟩,h2,h3⟩:=ih (by omega)
          have hg:=hget i (by omega)
          rw[List.getElem?_eq_getElem (by omega)] at hg
          obtain ⟨rs,h4,h5,h6⟩:=read_cells hb hJ m hp.2 hg
          have hsplit:cs.take ((i + 1) * P.cellsOf e) = cs.take (i * P.cellsOf e) ++ (cs.drop (i * P.cellsOf e)).take (P.cellsOf e):=by
           rw[Nat.succ_mul,List.take_add]
          rw[hsplit]
          refine ⟨_,⟨rows ++ [rs],by simp[hl],rfl,fun r hr => ?_⟩,?_,fun v hv => ?_⟩
          ·rcases List.mem_append.1 hr with hr | hr
           ·exact hS r hr
           ·rw[List.mem_singleton.1 hr];exact h4
          ·simp only[List.flatten_append,List.flatten_cons,List.flatten_nil,List.append_nil]
           exact h2.append h5
          ·rcases List.mem_append.1 hv with hv | hv
           ·exact h3 v hv
           ·exact h6 v hv
       obtain ⟨asx,h1,h2,h3⟩:=key n (Nat.le_refl _)
       have hall:cs.take (n * P.cellsOf e) = cs:=List.take_of_length_le (by omega)
       rw[hall] at h2 h3
       exact ⟨asx,by simp only[Sh,ht];exact h1,h2,h3⟩
     | _ => cases hp
theorem read_one (hb:c.base = c.w.heap.size) (hJ:c.J = fun _ => True) (m:Nat) {t:TypeId} {v:Value} {d:DataW H} {ps:List MemPlace} (hp:plainB P m t = true) (hv:v.cells = #[v]) (h:DataW.Trod enc P c.w 0 (fun _ => true) true t v d ps):
  ∃ x,Sh P m t [x]∧Rep c true x v:=by
 obtain ⟨fuel,hf⟩:=h
 rw[hv] at hf
 obtain ⟨asx,h1,h2,_⟩:=read_cells hb hJ m hp hf
 have hl:asx.length = 1:=by simpa using h2.1
 match asx,hl with
 | [x],_ => exact ⟨x,h1,(h2.2 0 x v rfl rfl).up⟩
end
end Go.Ab
end
section
namespace Go.Ab
def CLe (c d:CS):Prop:=∀ f asx g r,c f asx g = some r→d f asx g = some r
theorem opE_mono {c d:CS} (h:CLe c d) {al:Nat→Bool} {lo id:Nat} {op:AOp} {e:Env} {g:G} {r:AV × G} (hr:opE c al lo id op e g = some r):opE d al lo id op e g = some r:=by
 cases op with
 | call m f args =>
   simp only[opE,vCall] at hr ⊢
   split at hr
   ·cases m with
    | raw => exact h _ _ _ _ hr
    | see =>
      simp only at hr ⊢
      obtain ⟨v,g2⟩:=r
      obtain ⟨g',hc,rfl,hk⟩:=seeR_inv hr
      rw[h _ _ _ _ hc]
      exact seeR_some hk
    | pure =>
      simp only at hr ⊢
      split at hr
      ·cases hr
      ·split at hr
       ·cases hr
       ·rename_i hc
        rw[h _ _ _ _ hc]
        exact hr
    | lock =>
      simp only at hr ⊢
      split at hr
      ·cases hr
      ·split at hr
       ·cases hr
       ·rename_i hc
        rw[h _ _ _ _ hc]
        exact hr
    | thaw =>
      simp only at hr ⊢
      split at hr
      ·cases hr
      ·split at hr
       ·rename_i hc
        rw[h _ _ _ _ hc]
        exact hr
       ·cases hr
    | melt =>
      simp only at hr ⊢
      split at hr
      ·cases hr
      ·split at hr
       ·rename_i hc
        rw[h _ _ _ _ hc]
        exact hr
       ·cases hr
   ·cases hr
 | _ => exact hr
theorem regE_mono {c d:CS} (h:CLe c d) {draw:Bool} {base:Nat}:∀ {os:List AOper} {j:Nat} {e:Env} {g:G} {r},regE c draw base j os e g = some r→regE d draw base j os e g = some r
 | [],_,_,_,_,hr => hr
 | o :: os,j,e,g,r,hr => by
   simp only[regE] at hr ⊢
   split
   ·rename_i hw
    simp only[hw,if_true] at hr
    split at hr
    ·rename_i ho
     rw[opE_mono h ho]
     exact regE_mono h hr
    ·cases hr
   ·rename_i hw
    simp only[hw,Bool.false_eq_true,if_false] at hr
    exact regE_mono h hr
theorem iter_mono {f f':Env→G→Option (Out × Env × G)} (h:∀ e g r,f e g = some r→f' e g = some r):∀ {k k':Nat} {e g r},k≤k'→iter f k e g = some r→iter f' k' e g = some r
 | 0,_,_,_,_,_,hr => by simp[iter] at hr
 | k + 1,k',e,g,r,hk,hr => by
   obtain ⟨k',rfl⟩:∃ j,k' = j + 1:=⟨k' - 1,by omega⟩
   simp only[iter] at hr ⊢
   split at hr
   ·rename_i hf
    rw[h _ _ _ hf]
    exact iter_mono h (by omega) hr
   ·rename_i hn
    cases hf:f e g with
    | none => rw[hf] at hr;cases hr
    | some q =>
      rw[hf] at hr
      obtain rfl:q = r:=Option.some.inj hr
      obtain ⟨o,e',g'⟩:=q
      cases o with
      | nrm => exact absurd hf (hn _ _)
      | ext n => rw[h _ _ _ hf]
      | ret => rw[h _ _ _ hf]
theorem codeE_mono {c d:CS} (h:CLe c d) {k k':Nat} (hk:k≤k'):∀ {x:ACode} {e:Env} {g:G} {r},codeE c k x e g = some r→codeE d k' x e g = some r:=by
 intro x
 induction x with
 | skip => intro e g r hr;exact hr
 | reg draw ops =>
   intro e g r hr
   simp only[codeE] at hr ⊢
   split at hr
   ·rename_i ho
    rw[regE_mono h ho]
    exact hr
   ·cases hr
 | seq a b iha ihb =>
   intro e g r hr
   simp only[codeE] at hr ⊢
   split at hr
   ·rename_i ho
    rw[iha ho]
    exact ihb hr
   ·rename_i hn
    cases hf:codeE c k a e g with
    | none => rw[hf] at hr;cases hr
    | some q =>
      rw[hf] at hr
      obtain rfl:q = r:=Option.some.inj hr
      obtain ⟨o,e',g'⟩:=q
      cases o with
      | nrm => exact absurd hf (hn _ _)
      | ext n => rw[iha hf]
      | ret => rw[iha hf]
 | cond cc t f iht ihf =>
   intro e g r hr
   simp only[codeE] at hr ⊢
   split at hr
   ·split
    ·rename_i hx
     simp only[hx,if_true] at hr
     exact iht hr
    ·rename_i hx
     simp only[hx,Bool.false_eq_true,if_false] at hr
     exact ihf hr
   ·cases hr
 | lck t cc ih =>
   intro e g r hr
   simp only[codeE] at hr ⊢
   exact ih hr
 | lckS t cc ih =>
   intro e g r hr
   simp only[codeE] at hr ⊢
   exact ih hr
 | imm t cc ih =>
   intro e g r hr
   simp only[codeE] at hr ⊢
   cases hf:frz g.hp depth (e t) with
   | none => rw[hf] at hr;cases hr
   | some v => rw[hf] at hr;exact ih hr
 | tmp cc ih =>
   intro e g r hr
   simp only[codeE] at hr ⊢
   cases hf:codeE c k cc e ⟨lock g.hp (List.range g.nx),g.nx⟩ with
   | none => rw[hf] at hr;cases hr
   | some q => rw[hf] at hr;rw[ih hf];exact hr
 | scp cc ih =>
   intro e g r hr
   simp only[codeE] at hr ⊢
   exact ih hr
 | lab =>
   intro e g r hr
   simp only[codeE] at hr ⊢
   exact hr
 | blk id cc ih =>
   intro e g r hr
   simp only[codeE] at hr ⊢
   split at hr
   ·rename_i hf
    rw[ih hf]
    exact hr
   ·rename_i hn
    cases hf:codeE c k cc e g with
    | none => rw[hf] at hr;cases hr
    | some q =>
      rw[hf] at hr
      obtain rfl:q = r:=Option.some.inj hr
      obtain ⟨o,e',g'⟩:=q
      cases o with
      | nrm => rw[ih hf]
      | ext n => exact absurd hf (hn _ _ _)
      | ret => rw[ih hf]
 | loop cc ih =>
   intro e g r hr
   simp only[codeE] at hr ⊢
   exact iter_mono (fun _ _ _ => ih) hk hr
 | ext id => intro e g r hr;exact hr
 | ret => intro e g r hr;exact hr
theorem callE_mono (F:Funs):∀ {k k':Nat},k≤k'→CLe (callE F k) (callE F k')
 | 0,_,_,_,_,_,_,hr => by simp[callE] at hr
 | k + 1,k',hk,f,asx,g,r,hr => by
   obtain ⟨k',rfl⟩:∃ j,k' = j + 1:=⟨k' - 1,by omega⟩
   simp only[callE] at hr ⊢
   split at hr
   ·cases hr
   ·rename_i fn hF
    have hm:=fun {x} => codeE_mono (callE_mono F (show k≤k' by omega)) (show k≤k' by omega) (x:=fn.body) (e:=argEnv asx) (g:=g) (r:=x)
    split at hr
    ·rename_i hc
     rw[hm hc]
     exact hr
    ·rename_i hc
     rw[hm hc]
     exact hr
    ·cases hr
open Classical in
noncomputable def lim {α:Type} (f:Nat→Option α):Option α:=
 if h:∃ r k,f k = some r then some (Classical.choose h) else none
theorem lim_some {α:Type} {f:Nat→Option α} (hm:∀ k k' r,k≤k'→f k = some r→f k' = some r) {r:α}:lim f = some r↔∃ k,f k = some r:=by
 unfold lim
 constructor
 ·intro h
  split at h
  ·rename_i hx
   have:=Classical.choose_spec hx
   rwa [Option.some.inj h] at this
  ·cases h
 ·rintro ⟨k,hk⟩
  rw[dif_pos ⟨r,k,hk⟩]
  obtain ⟨k',hk'⟩:=Classical.choose_spec (⟨r,k,hk⟩:∃ r k,f k = some r)
  have h1:=hm k (max k k') _ (by omega) hk
  have h2:=hm k' (max k k') _ (by omega) hk'
  rw[h1] at h2
  exact congrArg some (Option.some.inj h2).symm
theorem lim_ext {α:Type} {a b:Option α} (h:∀ r,a = some r↔b = some r):a = b:=by
 cases a with
 | none =>
   cases b with
   | none => rfl
   | some r => exact (((h r).2 rfl).symm ▸ rfl:none = some r)
 | some r => exact ((h r).1 rfl).symm
variable (F:Funs)
noncomputable def callS:CS:=fun f asx g => lim fun k => callE F k f asx g
noncomputable def codeS (x:ACode) (e:Env) (g:G):Option (Out × Env × G):=lim fun k => codeE (callE F k) k x e g
theorem callS_some {f asx g r}:callS F f asx g = some r↔∃ k,callE F k f asx g = some r:=
 lim_some fun _ _ _ hk h => callE_mono F hk _ _ _ _ h
theorem codeS_some {x e g r}:codeS F x e g = some r↔∃ k,codeE (callE F k) k x e g = some r:=
 lim_some fun _ _ _ hk h => codeE_mono (callE_mono F hk) hk h
theorem callE_le (k:Nat):CLe (callE F k) (callS F):=fun _ _ _ _ h => (callS_some F).2 ⟨k,h⟩
theorem opE_lim {al lo id op e g r}:opE (callS F) al lo id op e g = some r↔∃ k,opE (callE F k) al lo id op e g = some r:=by
 refine ⟨fun h => ?_,fun ⟨k,h⟩ => opE_mono (callE_le F k) h⟩
 cases op with
 | call m f args =>
   simp only[opE,vCall] at h ⊢
   split at h
   ·cases m with
    | raw => exact (callS_some F).1 h
    | see =>
      simp only at h ⊢
      obtain ⟨v,g2⟩:=r
      obtain ⟨g',hc,rfl,hkp⟩:=seeR_inv h
      obtain ⟨k,hk⟩:=(callS_some F).1 hc
      exact ⟨k,by rw[hk];exact seeR_some hkp⟩
    | pure =>
      simp only at h ⊢
      split at h
      ·cases h
      ·split at h
       ·cases h
       ·rename_i hc
        obtain ⟨k,hk⟩:=(callS_some F).1 hc
        exact ⟨k,by rw[hk];exact h⟩
    | lock =>
      simp only at h ⊢
      split at h
      ·cases h
      ·split at h
       ·cases h
       ·rename_i hc
        obtain ⟨k,hk⟩:=(callS_some F).1 hc
        exact ⟨k,by rw[hk];exact h⟩
    | thaw =>
      simp only at h ⊢
      split at h
      ·cases h
      ·split at h
       ·rename_i hc
        obtain ⟨k,hk⟩:=(callS_some F).1 hc
        exact ⟨k,by rw[hk];exact h⟩
       ·cases h
    | melt =>
      simp only at h ⊢
      split at h
      ·cases h
      ·split at h
       ·rename_i hc
        obtain ⟨k,hk⟩:=(callS_some F).1 hc
        exact ⟨k,by rw[hk];exact h⟩
       ·cases h
   ·cases h
 | _ => exact ⟨0,h⟩
theorem regE_lim {draw base}:∀ {os:List AOper} {j e g r},regE (callS F) draw base j os e g = some r↔∃ k,regE (callE F k) draw base j os e g = some r
 | [],_,_,_,_ => ⟨fun h => ⟨0,h⟩,fun ⟨_,h⟩ => h⟩
 | o :: os,j,e,g,r => by
   refine ⟨fun h => ?_,fun ⟨k,h⟩ => regE_mono (callE_le F k) h⟩
   simp only[regE] at h
   split at h
   ·rename_i hw
    split at h
    ·rename_i ho
     obtain ⟨k1,h1⟩:=(opE_lim F).1 ho
     obtain ⟨k2,h2⟩:=(regE_lim).1 h
     refine ⟨max k1 k2,?_⟩
     simp only[regE]
     rw[if_pos hw,opE_mono (callE_mono F (Nat.le_max_left k1 k2)) h1]
     exact regE_mono (callE_mono F (Nat.le_max_right k1 k2)) h2
    ·cases h
   ·rename_i hw
    obtain ⟨k2,h2⟩:=(regE_lim).1 h
    refine ⟨k2,?_⟩
    simp only[regE]
    rw[if_neg hw]
    exact h2
theorem codeS_skip (e g):codeS F .skip e g = some (.nrm,e,g):=(codeS_some F).2 ⟨0,rfl⟩
theorem codeS_ext (id e g):codeS F (.ext id) e g = some (.ext id,e,g):=(codeS_some F).2 ⟨0,rfl⟩
theorem codeS_ret (e g):codeS F .ret e g = some (.ret,e,g):=(codeS_some F).2 ⟨0,rfl⟩
theorem codeS_reg (draw ops e g):codeS F (.reg draw ops) e g = match regE (callS F) draw g.nx 0 ops e { g with nx:=g.nx + ops.length } with
  | some (e,g) => some (.nrm,e,g)
  | none => none:=by
 refine lim_ext fun r => ?_
 rw[codeS_some]
 constructor
 ·rintro ⟨k,h⟩
  simp only[codeE] at h
  split at h
  ·rename_i ho
   rw[(regE_lim F).2 ⟨k,ho⟩]
   exact h
  ·cases h
 ·intro h
  split at h
  ·rename_i ho
   obtain ⟨k,hk⟩:=(regE_lim F).1 ho
   exact ⟨k,by simp only[codeE];rw[hk];exact h⟩
  ·cases h
theorem codeS_seq (a b e g):codeS F (.seq a b) e g = match codeS F a e g with
  | some (.nrm,e,g) => codeS F b e g
  | r => r:=by
 refine lim_ext fun r => ?_
 rw[codeS_some]
 constructor
 ·rintro ⟨k,h⟩
  simp only[codeE] at h
  split at h
  ·rename_i ho
   rw[(codeS_some F).2 ⟨k,ho⟩]
   exact (codeS_some F).2 ⟨k,h⟩
  ·rename_i hn
   rw[(codeS_some F).2 ⟨k,h⟩]
   obtain ⟨o,e',g'⟩:=r
   cases o with
   | nrm => exact absurd h (hn _ _)
   | ext n => rfl
   | ret => rfl
 ·intro h
  split at h
  ·rename_i ho
   obtain ⟨k1,h1⟩:=(codeS_some F).1 ho
   obtain ⟨k2,h2⟩:=(codeS_some F).1 h
   refine ⟨max k1 k2,?_⟩
   simp only[codeE]
   rw[codeE_mono (callE_mono F (Nat.le_max_left k1 k2)) (Nat.le_max_left k1 k2) h1]
   exact codeE_mono (callE_mono F (Nat.le_max_right k1 k2)) (Nat.le_max_right k1 k2) h2
  ·rename_i hn
   obtain ⟨k1,h1⟩:=(codeS_some F).1 h
   refine ⟨k1,?_⟩
   simp only[codeE]
   rw[h1]
   obtain ⟨o,e',g'⟩:=r
   cases o with
   | nrm => exact absurd h (hn _ _)
   | ext n => rfl
   | ret => rfl
theorem codeS_cond (c t f e g):codeS F (.cond c t f) e g = match c.ev e with
  | .b x => if x then codeS F t e g else codeS F f e g
  | _ => none:=by
 refine lim_ext fun r => ?_
 rw[codeS_some]
 simp only[codeE]
 cases c.ev e with
 | b x =>
   cases x with
   | true => simp only[if_true];exact (codeS_some F).symm
   | false => simp only[Bool.false_eq_true,if_false];exact (codeS_some F).symm
 | _ => simp
theorem codeS_lck (t c e g):codeS F (.lck t c) e g = codeS F c e ⟨lock g.hp (vis g.hp depth (e t)),g.nx⟩:=by
 refine lim_ext fun r => ?_
 rw[codeS_some]
 simp only[codeE]
 exact (codeS_some F).symm
theorem codeS_imm (t c e g):codeS F (.imm t c) e g = match frz g.hp depth (e t) with
  | some v => codeS F c (upd e t v) ⟨lock g.hp (vis g.hp depth (e t)),g.nx⟩
  | none => none:=by
 refine lim_ext fun r => ?_
 rw[codeS_some]
 simp only[codeE]
 cases frz g.hp depth (e t) with
 | none => simp
 | some v => exact (codeS_some F).symm
theorem codeS_scp (c e g):codeS F (.scp c) e g = codeS F c e g:=by
 refine lim_ext fun r => ?_
 rw[codeS_some]
 simp only[codeE]
 exact (codeS_some F).symm
theorem codeS_lab (e g):codeS F .lab e g = some (.nrm,e,g):=by
 refine lim_ext fun r => ?_
 rw[codeS_some]
 simp only[codeE]
 exact ⟨fun ⟨_,h⟩ => h,fun h => ⟨0,h⟩⟩
theorem codeS_blk (id c e g):codeS F (.blk id c) e g = match codeS F c e g with
  | some (.ext n,e,g) => some (if n = id then .nrm else .ext n,e,g)
  | r => r:=by
 refine lim_ext fun r => ?_
 rw[codeS_some]
 constructor
 ·rintro ⟨k,h⟩
  simp only[codeE] at h
  split at h
  ·rename_i ho
   rw[(codeS_some F).2 ⟨k,ho⟩]
   exact h
  ·rename_i hn
   rw[(codeS_some F).2 ⟨k,h⟩]
   obtain ⟨o,e',g'⟩:=r
   cases o with
   | nrm => rfl
   | ext n => exact absurd h (hn _ _ _)
   | ret => rfl
 ·intro h
  split at h
  ·rename_i ho
   obtain ⟨k1,h1⟩:=(codeS_some F).1 ho
   exact ⟨k1,by simp only[codeE];rw[h1];exact h⟩
  ·rename_i hn
   obtain ⟨k1,h1⟩:=(codeS_some F).1 h
   refine ⟨k1,?_⟩
   simp only[codeE]
   rw[h1]
   obtain ⟨o,e',g'⟩:=r
   cases o with
   | nrm => rfl
   | ext n => exact absurd h (hn _ _ _)
   | ret => rfl
theorem codeS_loop (c e g):codeS F (.loop c) e g = match codeS F c e g with
  | some (.nrm,e,g) => codeS F (.loop c) e g
  | r => r:=by
 refine lim_ext fun r => ?_
 rw[codeS_some]
 constructor
 ·rintro ⟨k,h⟩
  simp only[codeE] at h
  cases k with
  | zero => simp[iter] at h
  | succ k =>
    simp only[iter] at h
    split at h
    ·rename_i ho
     rw[(codeS_some F).2 ⟨k + 1,ho⟩]
     refine (codeS_some F).2 ⟨k + 1,?_⟩
     simp only[codeE]
     exact iter_mono (fun _ _ _ h => h) (Nat.le_succ k) h
    ·rename_i hn
     rw[(codeS_some F).2 ⟨k + 1,h⟩]
     obtain ⟨o,e',g'⟩:=r
     cases o with
     | nrm => exact absurd h (hn _ _)
     | ext n => rfl
     | ret => rfl
 ·intro h
  split at h
  ·rename_i ho
   obtain ⟨k1,h1⟩:=(codeS_some F).1 ho
   obtain ⟨k2,h2⟩:=(codeS_some F).1 h
   simp only[codeE] at h2
   refine ⟨max k1 k2 + 1,?_⟩
   simp only[codeE,iter]
   rw[codeE_mono (callE_mono F (by omega:k1≤max k1 k2 + 1)) (by omega:k1≤max k1 k2 + 1) h1]
   exact iter_mono (fun _ _ _ h => codeE_mono (callE_mono F (by omega:k2≤max k1 k2 + 1)) (by omega:k2≤max k1 k2 + 1) h) (by omega) h2
  ·rename_i hn
   obtain ⟨k1,h1⟩:=(codeS_some F).1 h
   refine ⟨k1 + 1,?_⟩
   simp only[codeE,iter]
   rw[codeE_mono (callE_mono F (by omega:k1≤k1 + 1)) (by omega:k1≤k1 + 1) h1]
   obtain ⟨o,e',g'⟩:=r
   cases o with
   | nrm => exact absurd h (hn _ _)
   | ext n => rfl
   | ret => rfl
theorem callS_eq (f asx g):callS F f asx g = match F f with
  | none => none
  | some fn => match codeS F fn.body (argEnv asx) g with
    | some (.nrm,e,g) | some (.ret,e,g) => (resE fn.res e g).map (·,g)
    | _ => none:=by
 refine lim_ext fun r => ?_
 rw[callS_some]
 constructor
 ·rintro ⟨k,h⟩
  cases k with
  | zero => simp[callE] at h
  | succ k =>
    simp only[callE] at h
    split at h
    ·cases h
    ·rename_i fn hF
     rw[hF]
     simp only
     split at h
     ·rename_i hc
      rw[(codeS_some F).2 ⟨k,hc⟩]
      exact h
     ·rename_i hc
      rw[(codeS_some F).2 ⟨k,hc⟩]
      exact h
     ·cases h
 ·intro h
  split at h
  ·cases h
  ·rename_i fn hF
   split at h
   ·rename_i hc
    obtain ⟨k,hk⟩:=(codeS_some F).1 hc
    exact ⟨k + 1,by simp only[callE,hF];rw[hk];exact h⟩
   ·rename_i hc
    obtain ⟨k,hk⟩:=(codeS_some F).1 hc
    exact ⟨k + 1,by simp only[callE,hF];rw[hk];exact h⟩
   ·cases h
end Go.Ab
end
