/- What TermOf rests on, part 2: lemmas, no claim of its own. -/
import Derived.LoopN
import Derived.Scope
import Derived.Shelf.LaysM
import Derived.Shelf.Strconv.Itoa3
import Derived.Test.YtmlfhgdpcjhnpaaDoorProg
import Derived.OpenShut
import Derived.ChangeArms
import Derived.Laws.Rows
import Derived.Test.YtmlfhgdpcjhnpaaDoorPTermOf1
set_option maxRecDepth 100000
set_option maxHeartbeats 16000000
open Nat renaming reduceAdd → qa, reduceMul → qb, reduceSub → qc
section
set_option linter.unusedVariables false
set_option linter.unusedSimpArgs false
namespace Go.Ab
def Opd.names:Opd→List Nat
 | .t n => [n]
 | .c _ => []
def onames:Option Opd→List Nat
 | some x => x.names
 | none => []
def pnames (ps:List (Nat × Nat × Opd)):List Nat:=ps.flatMap fun p => p.2.2.names
def AOp.names:AOp→List Nat
 | .mv x | .box x | .boxI x | .ld _ x | .ldF _ x | .nilck x | .eqs _ x | .clr _ _ x | .un _ x | .conv _ x | .fa _ x | .fld _ _ x | .ext _ x | .len x | .slen x => x.names
 | .pick x y z | .mput x y z => x.names ++ y.names ++ z.names
 | .new _ | .mkmap => []
 | .build _ ps | .bsl _ _ _ ps => pnames ps
 | .st _ x y | .stL _ x y | .stW _ x y | .bin _ x y | .eqb _ x y | .eqn _ x y | .eqa _ _ x y | .mget x y | .mksl _ _ _ x y | .ia _ x y | .iaa _ _ x y | .idx _ _ _ x y | .sidx x y | .mx x y | .mn x y | .app _ _ x y | .appM _ _ x y | .cutM _ x y => x.names ++ y.names
 | .bad => []
 | .ldQ _ x t => x.names ++ [t]
 | .stN _ x y ts => x.names ++ y.names ++ ts
 | .mkfn _ a b => a.flatMap (·.names) ++ b.flatMap (·.names)
 | .slice _ x l h m => x.names ++ onames l ++ onames h ++ onames m
 | .sslice x l h => x.names ++ onames l ++ onames h
 | .call _ f asx => f.names ++ asx.flatMap (·.names)
theorem ev_congr {e e':Env} {x:Opd} (h:∀ t∈x.names,e' t = e t):x.ev e' = x.ev e:=by
 cases x with
 | t n => exact h n (by simp[Opd.names])
 | c v => rfl
theorem evo_congr {e e':Env} {x:Option Opd} (h:∀ t∈onames x,e' t = e t):evo e' x = evo e x:=by
 cases x with
 | none => rfl
 | some x => exact congrArg some (ev_congr h)
theorem evl_congr {e e':Env}:∀ {xs:List Opd},(∀ t∈xs.flatMap (·.names),e' t = e t)→xs.map (·.ev e') = xs.map (·.ev e)
 | [],_ => rfl
 | x :: xs,h => by
   rw[List.map_cons,List.map_cons,ev_congr (fun t ht => h t (by simp[ht])),evl_congr (xs:=xs) (fun t ht => h t (by rw[List.flatMap_cons];exact List.mem_append_right _ ht))]
theorem fill_congr {e e':Env}:∀ {ps:List (Nat × Nat × Opd)} {cs:List AV},(∀ t∈pnames ps,e' t = e t)→fill e' cs ps = fill e cs ps
 | [],_,_ => rfl
 | (off,n,x) :: ps,cs,h => by
   have hx:x.ev e' = x.ev e:=ev_congr (fun t ht => h t (by simp[pnames,ht]))
   simp only[fill,hx]
   split
   ·exact fill_congr (ps:=ps) (fun t ht => h t (by
     unfold pnames at ht ⊢
     rw[List.flatMap_cons]
     exact List.mem_append_right _ ht))
   ·rfl
theorem opE_congr {call:CS} {al:Nat→Bool} {lo id:Nat} {op:AOp} {e e':Env} (h:∀ t∈op.names,e' t = e t) (g:G):opE call al lo id op e' g = opE call al lo id op e g:=by
 have l1:∀ {x:Opd} {ns:List Nat},(∀ t∈x.names ++ ns,e' t = e t)→x.ev e' = x.ev e:=fun h => ev_congr fun t ht => h t (List.mem_append_left _ ht)
 cases op<;>simp only[AOp.names] at h<;>simp only[opE]
 case mv => rw[ev_congr h]
 case pick => rw[ev_congr fun t ht => h t (by simp[ht]),ev_congr fun t ht => h t (by simp[ht]),ev_congr fun t ht => h t (by simp[ht])]
 case box => rw[ev_congr h]
 case boxI => rw[ev_congr h]
 case build => rw[fill_congr h]
 case bsl => rw[fill_congr h]
 case ld => rw[ev_congr h]
 case ldF => rw[ev_congr h]
 case ldQ => rw[ev_congr fun t ht => h t (by simp[ht]),h _ (by simp)]
 case stN =>
  rename_i n a x ts
  have hts:ts.map e' = ts.map e:=List.map_congr_left fun t ht => h t (by simp[ht])
  rw[ev_congr fun t ht => h t (by simp[ht]),ev_congr fun t ht => h t (by simp[ht]),hts]
 case stW => rw[ev_congr fun t ht => h t (by simp[ht]),ev_congr fun t ht => h t (by simp[ht])]
 case st => rw[ev_congr fun t ht => h t (by simp[ht]),ev_congr fun t ht => h t (by simp[ht])]
 case stL => rw[ev_congr fun t ht => h t (by simp[ht]),ev_congr fun t ht => h t (by simp[ht])]
 case nilck => rw[ev_congr h]
 case bin => rw[ev_congr fun t ht => h t (by simp[ht]),ev_congr fun t ht => h t (by simp[ht])]
 case eqb => rw[ev_congr fun t ht => h t (by simp[ht]),ev_congr fun t ht => h t (by simp[ht])]
 case eqn => rw[ev_congr fun t ht => h t (by simp[ht]),ev_congr fun t ht => h t (by simp[ht])]
 case eqs => rw[ev_congr h]
 case clr => rw[ev_congr h]
 case eqa => rw[ev_congr fun t ht => h t (by simp[ht]),ev_congr fun t ht => h t (by simp[ht])]
 case un => rw[ev_congr h]
 case conv => rw[ev_congr h]
 case mkfn => rw[evl_congr fun t ht => h t (List.mem_append_left _ ht),evl_congr fun t ht => h t (List.mem_append_right _ ht)]
 case mput => rw[ev_congr fun t ht => h t (by simp[ht]),ev_congr fun t ht => h t (by simp[ht]),ev_congr fun t ht => h t (by simp[ht])]
 case mget => rw[ev_congr fun t ht => h t (by simp[ht]),ev_congr fun t ht => h t (by simp[ht])]
 case mksl => rw[ev_congr fun t ht => h t (by simp[ht]),ev_congr fun t ht => h t (by simp[ht])]
 case slice => rw[ev_congr fun t ht => h t (by simp[ht]),evo_congr fun t ht => h t (by simp[ht]),evo_congr fun t ht => h t (by simp[ht]),evo_congr fun t ht => h t (by simp[ht])]
 case sslice => rw[ev_congr fun t ht => h t (by simp[ht]),evo_congr fun t ht => h t (by simp[ht]),evo_congr fun t ht => h t (by simp[ht])]
 case fa => rw[ev_congr h]
 case fld => rw[ev_congr h]
 case ia => rw[ev_congr fun t ht => h t (by simp[ht]),ev_congr fun t ht => h t (by simp[ht])]
 case iaa => rw[ev_congr fun t ht => h t (by simp[ht]),ev_congr fun t ht => h t (by simp[ht])]
 case idx => rw[ev_congr fun t ht => h t (by simp[ht]),ev_congr fun t ht => h t (by simp[ht])]
 case sidx => rw[ev_congr fun t ht => h t (by simp[ht]),ev_congr fun t ht => h t (by simp[ht])]
 case ext => rw[ev_congr h]
 case len => rw[ev_congr h]
 case slen => rw[ev_congr h]
 case mx => rw[ev_congr fun t ht => h t (by simp[ht]),ev_congr fun t ht => h t (by simp[ht])]
 case mn => rw[ev_congr fun t ht => h t (by simp[ht]),ev_congr fun t ht => h t (by simp[ht])]
 case app => rw[ev_congr fun t ht => h t (by simp[ht]),ev_congr fun t ht => h t (by simp[ht])]
 case appM => rw[ev_congr fun t ht => h t (by simp[ht]),ev_congr fun t ht => h t (by simp[ht])]
 case cutM => rw[ev_congr fun t ht => h t (by simp[ht]),ev_congr fun t ht => h t (by simp[ht])]
 case call => rw[l1 h,evl_congr fun t ht => h t (List.mem_append_right _ ht)]
inductive Cls where
 | p | r | a | t | s | x
 deriving DecidableEq
def cls:AOp→Cls
 | .ld _ _ | .mget _ _ | .call .pure _ _ => .r
 | .new _ | .box _ | .bsl false _ _ _ | .mkmap | .mksl _ _ _ _ _ | .call .thaw _ _ | .call .melt _ _ => .a
 | .app _ _ _ _ => .t
 | .stL _ _ _ => .s
 | .st _ _ _ | .mput _ _ _ | .call .raw _ _ | .call .see _ _ | .call .lock _ _ | .appM _ _ _ _ | .cutM _ _ _ | .clr _ _ _ | .bad | .ldF _ _ | .stW _ _ _ | .ldQ _ _ _ | .stN _ _ _ _ => .x
 | _ => .p
def CM:Option Blk→Prop
 | some (.cells _ _) | some (.map _) => True
 | _ => False
def isT:Option Blk→Prop
 | some (.tok true) => True
 | _ => False
def Rd (c:Cls) (al:Nat→Bool) (lo:Nat) (g:G) (i:Nat):Prop:=match c with
 | .p => False
 | .r | .a => al i = true∧CM (g.hp i)
 | .t => al i = true∧(CM (g.hp i)∨isT (g.hp i))
 | .s => lo≤i∧al i = true∧CM (g.hp i)
 | .x => True
def Wr (c:Cls) (al:Nat→Bool) (lo id:Nat) (g:G) (i:Nat):Prop:=match c with
 | .p | .r => False
 | .a => i = id
 | .t => i = id∨(al i = true∧isT (g.hp i))
 | .s => lo≤i∧al i = true∧CM (g.hp i)
 | .x => True
open Classical in
structure Foot (call:CS) (al:Nat→Bool) (lo id:Nat) (op:AOp) (e:Env) (g:G) (v:AV) (g1:G):Prop where
 nx:g1.nx = g.nx
 kind:∀ i,i≠id→CM (g1.hp i)→CM (g.hp i)
 foot:∃ W:Nat→Prop,(∀ i,W i→Wr (cls op) al lo id g i)∧(∀ i,¬ W i→g1.hp i = g.hp i) ∧
  ∀ g':G,(∀ i,Rd (cls op) al lo g i→g'.hp i = g.hp i)→opE call al lo id op e g' = some (v,⟨fun i => if W i then g1.hp i else g'.hp i,g'.nx⟩)
theorem foot_none {call:CS} {al:Nat→Bool} {lo id:Nat} {op:AOp} {e:Env} {g:G} {v:AV} (h:∀ g':G,(∀ i,Rd (cls op) al lo g i→g'.hp i = g.hp i)→opE call al lo id op e g' = some (v,g')):Foot call al lo id op e g v g:=
 ⟨rfl,fun _ _ h => h,fun _ => False,fun _ h => h.elim,fun _ _ => rfl,fun g' hg' => by
  rw[h g' hg']
  congr 2
  simp⟩
theorem foot_new {call:CS} {al:Nat→Bool} {lo id:Nat} {op:AOp} {e:Env} {g:G} {v:AV} {b:Blk} (hw:Wr (cls op) al lo id g id) (h:∀ g':G,(∀ i,Rd (cls op) al lo g i→g'.hp i = g.hp i)→opE call al lo id op e g' = some (v,⟨upd g'.hp id (some b),g'.nx⟩)):Foot call al lo id op e g v ⟨upd g.hp id (some b),g.nx⟩:=
 ⟨rfl,fun i hi h => by
  have h:CM (upd g.hp id (some b) i):=h
  rwa [upd,if_neg hi] at h,fun i => i = id,fun i hi => by subst hi;exact hw,fun i hi => by show upd _ _ _ _ = _;rw[upd,if_neg hi],fun g' hg' => by
  rw[h g' hg']
  congr 3
  funext i
  by_cases hi:i = id
  ·subst hi;simp[upd]
  ·simp[upd,hi]⟩
mutual
theorem frz_agree {hp hp':Nat→Option Blk} (h:∀ i,CM (hp i)→hp' i = hp i):∀ (k:Nat) {x y:AV},frz hp k x = some y→frz hp' k x = some y∧vis hp' k x = vis hp k x
 | 0,_,_,hf => by simp[frz] at hf
 | k + 1,x,y,hf => by
   cases x with
   | agg cs =>
     simp only[frz] at hf
     cases hc:frzL hp k cs with
     | none => rw[hc] at hf;cases hf
     | some ds => rw[hc] at hf;obtain ⟨h1,h2⟩:=frzL_agree h k hc;exact ⟨by simp only[frz,h1];exact hf,by simp only[vis,h2]⟩
   | tup cs =>
     simp only[frz] at hf
     cases hc:frzL hp k cs with
     | none => rw[hc] at hf;cases hf
     | some ds => rw[hc] at hf;obtain ⟨h1,h2⟩:=frzL_agree h k hc;exact ⟨by simp only[frz,h1];exact hf,by simp only[vis,h2]⟩
   | fn f asx bs =>
     simp only[frz] at hf
     cases hc:frzL hp k asx with
     | none => rw[hc] at hf;cases hf
     | some ds =>
       cases hd:frzL hp k bs with
       | none => rw[hc,hd] at hf;cases hf
       | some es =>
         rw[hc,hd] at hf
         obtain ⟨h1,h2⟩:=frzL_agree h k hc
         obtain ⟨h3,h4⟩:=frzL_agree h k hd
         exact ⟨by simp only[frz,h1,h3];exact hf,by simp only[vis,h2,h4]⟩
   | ifc t v =>
     simp only[frz] at hf
     cases hc:frz hp k v with
     | none => rw[hc] at hf;cases hf
     | some ds => rw[hc] at hf;obtain ⟨h1,h2⟩:=frz_agree h k hc;exact ⟨by simp only[frz,h1];exact hf,by simp only[vis,h2]⟩
   | mp id off =>
     simp only[frz] at hf
     split at hf
     ·rename_i cs ro hb
      have hb':hp' id = some (.cells cs ro):=by rw[h id (by rw[hb];trivial),hb]
      cases hc:frzL hp k (cs.drop off) with
      | none => rw[hc] at hf;cases hf
      | some ds =>
        rw[hc] at hf
        obtain ⟨h1,h2⟩:=frzL_agree h k hc
        exact ⟨by simp only[frz,hb',h1];exact hf,by simp only[vis,hb',hb,h2]⟩
     ·cases hf
   | ms id off n =>
     simp only[frz] at hf
     split at hf
     ·rename_i cs ro hb
      have hb':hp' id = some (.cells cs ro):=by rw[h id (by rw[hb];trivial),hb]
      cases hc:frzL hp k (cs.drop off) with
      | none => rw[hc] at hf;cases hf
      | some ds =>
        rw[hc] at hf
        obtain ⟨h1,h2⟩:=frzL_agree h k hc
        exact ⟨by simp only[frz,hb',h1];exact hf,by simp only[vis,hb',hb,h2]⟩
     ·cases hf
   | mm id => simp[frz] at hf
   | mc id k e n => simp[frz] at hf
   | undef => exact ⟨by simpa only[frz] using hf,by simp only[vis]⟩
   | b x => exact ⟨by simpa only[frz] using hf,by simp only[vis]⟩
   | i k n => exact ⟨by simpa only[frz] using hf,by simp only[vis]⟩
   | s x => exact ⟨by simpa only[frz] using hf,by simp only[vis]⟩
   | nilp => exact ⟨by simpa only[frz] using hf,by simp only[vis]⟩
   | nilf => exact ⟨by simpa only[frz] using hf,by simp only[vis]⟩
   | nili => exact ⟨by simpa only[frz] using hf,by simp only[vis]⟩
   | sl cs n t => exact ⟨by simpa only[frz] using hf,by simp only[vis]⟩
   | ptr cs => exact ⟨by simpa only[frz] using hf,by simp only[vis]⟩
theorem frzL_agree {hp hp':Nat→Option Blk} (h:∀ i,CM (hp i)→hp' i = hp i):∀ (k:Nat) {cs ds:List AV},frzL hp k cs = some ds→frzL hp' k cs = some ds∧cs.flatMap (vis hp' k) = cs.flatMap (vis hp k)
 | k,[],ds,hf => ⟨by simpa only[frzL] using hf,rfl⟩
 | k,x :: cs,ds,hf => by
   simp only[frzL] at hf
   split at hf
   ·rename_i hx hs
    obtain ⟨h1,h2⟩:=frz_agree h k hx
    obtain ⟨h3,h4⟩:=frzL_agree h k hs
    refine ⟨by simp only[frzL,h1,h3];exact hf,?_⟩
    rw[List.flatMap_cons,List.flatMap_cons,h2,h4]
   ·cases hf
end
theorem rd_agree {al:Nat→Bool} {g g':G} (h:∀ i,(al i = true∧CM (g.hp i))→g'.hp i = g.hp i):∀ i,CM (rd g al i)→rd g' al i = rd g al i:=by
 intro i hi
 unfold rd at hi ⊢
 split at hi
 ·rename_i ha
  rw[if_pos ha,if_pos ha]
  exact h i ⟨ha,hi⟩
 ·cases hi
theorem rd_cells {al:Nat→Bool} {g g':G} (h:∀ i,(al i = true∧CM (g.hp i))→g'.hp i = g.hp i) {i:Nat} {b:Blk} (hb:rd g al i = some b) (hc:CM (some b)):rd g' al i = some b:=by
 rw[rd_agree h i (by rw[hb];exact hc),hb]
def Any (f:G→Option (AV × G)):Prop:=∀ g v g1,f g = some (v,g1)→g1 = g∧∀ g',f g' = some (v,g')
theorem any_pick (c a b:AV):Any (vPick c a b):=by
 intro g v g1 h;cases c<;>simp only[vPick] at h<;>first | (cases h;done) | (cases h;exact ⟨rfl,fun _ => rfl⟩)
theorem any_map (o:Option AV):Any fun g => vMap g o:=by
 intro g v g1 h;cases o<;>simp only[vMap] at h<;>first | (cases h;done) | (cases h;exact ⟨rfl,fun _ => rfl⟩)
theorem any_mapL (f) (o:Option (List AV)):Any fun g => vMapL f g o:=by
 intro g v g1 h;cases o<;>simp only[vMapL] at h<;>first | (cases h;done) | (cases h;exact ⟨rfl,fun _ => rfl⟩)
theorem any_some (x:AV):Any fun g => some (x,g):=by intro g v g1 h;cases h;exact ⟨rfl,fun _ => rfl⟩
theorem any_none:Any fun _ => none:=by intro g v g1 h;cases h
theorem any_ite (c:Prop) [Decidable c] {f k:G→Option (AV × G)} (h1:Any f) (h2:Any k):Any fun g => if c then f g else k g:=by
 by_cases h:c
 ·simpa only[if_pos h] using h1
 ·simpa only[if_neg h] using h2
theorem any_boxI (x:AV):Any (vBoxI x):=by unfold vBoxI;exact any_ite _ (any_mapL _ _) any_none
theorem any_bslI (id n:Nat) (o:Option (List AV)):Any (vBsl id true n o):=by
 cases o with
 | none => exact any_none
 | some cs => exact any_mapL _ _
theorem any_nil (x:AV):Any (vNil x):=by cases x<;>first | exact any_none | exact any_some _
theorem any_conv (k:IntKind) (x:AV):Any (vConv k x):=by cases x<;>first | exact any_none | exact any_some _
theorem any_slice (esz:Nat) (x:AV) (l h m:Option AV):Any (vSlice esz x l h m):=by
 cases x<;>first | exact any_none | skip
 ·rename_i cs n t
  show Any fun g => vSlice esz (.sl cs n t) l h m g
  simp only[vSlice]
  split<;>first | exact any_none | exact any_ite _ (any_some _) any_none
 ·rename_i id off n
  show Any fun g => vSlice esz (.ms id off n) l h m g
  simp only[vSlice]
  split<;>first | exact any_none | exact any_ite _ (any_some _) any_none
theorem any_sslice (x:AV) (l h:Option AV):Any (vSslice x l h):=by
 cases x<;>first | exact any_none | skip
 rename_i s
 show Any fun g => vSslice (.s s) l h g
 simp only[vSslice]
 split<;>first | exact any_none | exact any_ite _ (any_some _) any_none
theorem any_fa (off:Nat) (x:AV):Any (vFa off x):=by cases x<;>first | exact any_none | exact any_some _ | exact any_ite _ (any_some _) any_none
theorem any_fld (off:Nat) (agg) (x:AV):Any (vFld off agg x):=by cases x<;>first | exact any_none | exact any_map _
theorem any_ia (esz:Nat) (x i:AV):Any (vIa esz x i):=by
 cases x<;>cases i<;>first | exact any_none | exact any_ite _ (any_some _) any_none
theorem any_iaa (len esz:Nat) (x i:AV):Any (vIaa len esz x i):=by
 cases x<;>cases i<;>first | exact any_none | exact any_ite _ (any_some _) any_none
theorem any_idx (len esz:Nat) (agg) (x i:AV):Any (vIdx len esz agg x i):=by
 cases x<;>cases i<;>first | exact any_none | exact any_ite _ (any_map _) any_none
theorem any_sidx (x i:AV):Any (vSidx x i):=by
 cases x<;>cases i<;>first | exact any_none | skip
 rename_i s k z
 show Any fun g => vSidx (.s s) (.i k z) g
 simp only[vSidx]
 split<;>first | exact any_none | exact any_some _
theorem any_ext (i:Nat) (x:AV):Any (vExt i x):=by cases x<;>first | exact any_none | exact any_map _
theorem any_len (x:AV):Any (vLen x):=by cases x<;>first | exact any_none | exact any_some _
theorem any_slen (x:AV):Any (vSlen x):=by cases x<;>first | exact any_none | exact any_some _
theorem any_mx (x y:AV):Any (vMx x y):=by cases x<;>cases y<;>first | exact any_none | exact any_some _
theorem any_mn (x y:AV):Any (vMn x y):=by cases x<;>cases y<;>first | exact any_none | exact any_some _
section
variable {call:CS} {al:Nat→Bool} {lo id:Nat} {e:Env} {g:G} {v:AV} {g1:G}
theorem any_p {op:AOp} (hc:cls op = .p):Any (opE call al lo id op e):=by
 cases op
 case mv => exact any_some _
 case pick => exact any_pick _ _ _
 case boxI => exact any_boxI _
 case build => exact any_mapL _ _
 case bsl imm n z ps =>
  cases imm with
  | false => cases hc
  | true => exact any_bslI _ _ _
 case nilck => exact any_nil _
 case bin => exact any_map _
 case eqb => exact any_map _
 case eqn => exact any_map _
 case eqs => exact any_map _
 case eqa => exact any_map _
 case un => exact any_map _
 case conv => exact any_conv _ _
 case mkfn => exact any_some _
 case slice => exact any_slice _ _ _ _ _
 case sslice => exact any_sslice _ _ _
 case fa => exact any_fa _ _
 case fld => exact any_fld _ _ _
 case ia => exact any_ia _ _ _
 case iaa => exact any_iaa _ _ _ _
 case idx => exact any_idx _ _ _ _ _
 case sidx => exact any_sidx _ _
 case ext => exact any_ext _ _
 case len => exact any_len _
 case slen => exact any_slen _
 case mx => exact any_mx _ _
 case mn => exact any_mn _ _
 case call m f asx => cases m<;>cases hc
 all_goals cases hc
theorem foot_p {op:AOp} (hc:cls op = .p) (h:opE call al lo id op e g = some (v,g1)):Foot call al lo id op e g v g1:=by
 obtain ⟨rfl,hk⟩:=any_p hc g v g1 h
 exact foot_none fun g' _ => hk g'
theorem foot_r {op:AOp} (hc:cls op = .r) (h:opE call al lo id op e g = some (v,g1)):Foot call al lo id op e g v g1:=by
 have key:g1 = g∧∀ g':G,(∀ i,Rd (cls op) al lo g i→g'.hp i = g.hp i)→opE call al lo id op e g' = some (v,g'):=by
  rw[hc]
  cases op
  case ld agg x =>
   simp only[opE] at h ⊢
   unfold vLd at h ⊢
   split at h
   ·rename_i cs hx
    obtain ⟨rfl,hk⟩:=any_map _ _ _ _ h
    exact ⟨rfl,fun g' _ => hk g'⟩
   ·rename_i b off hx
    split at h
    ·rename_i cs ro hb
     obtain ⟨rfl,hk⟩:=any_map _ _ _ _ h
     exact ⟨rfl,fun g' hg' => by simp only[rd_cells hg' hb trivial];exact hk g'⟩
    ·cases h
   ·cases h
  case mget m k =>
   simp only[opE] at h ⊢
   unfold vMget at h ⊢
   split at h
   ·rename_i b s hx hy
    split at h
    ·rename_i es hb
     obtain ⟨rfl,hk⟩:=any_map _ _ _ _ h
     exact ⟨rfl,fun g' hg' => by simp only[rd_cells hg' hb trivial];exact hk g'⟩
    ·cases h
   ·cases h
  case call m f asx =>
   cases m with
   | pure =>
     simp only[opE] at h ⊢
     unfold vCall at h ⊢
     split at h
     ·rename_i fid fst caps hx
      simp only at h
      split at h
      ·cases h
      ·rename_i bs hbs
       split at h
       ·cases h
       ·rename_i v' g' hcr
        split at h
        ·cases h
        ·rename_i v2 hfz
         split at h
         ·rename_i hcond
          cases h
          refine ⟨rfl,fun g'' hg' => ?_⟩
          obtain ⟨h1,h2⟩:=frzL_agree (rd_agree hg') depth hbs
          simp only[h1,hcr,hfz,h2,hcond,if_true]
         ·cases h
     ·cases h
   | lock => cases hc
   | thaw => cases hc
   | melt => cases hc
   | raw => cases hc
   | see => cases hc
  case bsl imm n z ps => cases imm<;>cases hc
  all_goals cases hc
 obtain ⟨rfl,hk⟩:=key
 exact foot_none hk
theorem foot_a {op:AOp} (hc:cls op = .a) (h:opE call al lo id op e g = some (v,g1)):Foot call al lo id op e g v g1:=by
 have hw:Wr (cls op) al lo id g id:=by rw[hc];rfl
 cases op
 case new z =>
  simp only[opE] at h;cases h
  exact foot_new hw fun g' _ => rfl
 case box x =>
  simp only[opE] at h
  unfold vBox at h
  split at h
  ·rename_i hh
   cases h
   exact foot_new hw fun g' _ => by simp only[opE,vBox];rw[if_pos hh]
  ·cases h
 case bsl imm n z ps =>
  cases imm with
  | true => cases hc
  | false =>
    simp only[opE] at h
    unfold vBsl at h
    split at h
    ·cases h
    ·rename_i cs hf
     simp only[Bool.false_eq_true,if_false] at h
     cases h
     exact foot_new hw fun g' _ => by simp only[opE,vBsl,hf,Bool.false_eq_true,if_false]
 case mkmap =>
  simp only[opE] at h;cases h
  exact foot_new hw fun g' _ => rfl
 case mksl z esz b l cp =>
  simp only[opE] at h
  unfold vMksl at h
  split at h
  ·rename_i n m hx hy
   split at h
   ·rename_i h1
    split at h
    ·rename_i h2
     cases h
     exact foot_new hw fun g' _ => by simp only[opE,vMksl,hx,hy];rw[if_pos h1,if_pos h2]
    ·rename_i h2
     split at h
     ·rename_i h3
      cases h
      exact foot_new hw fun g' _ => by simp only[opE,vMksl,hx,hy];rw[if_pos h1,if_neg h2,if_pos h3]
     ·cases h
   ·cases h
  ·cases h
 case call m f asx =>
  cases m with
  | thaw =>
    simp only[opE] at h
    unfold vCall at h
    split at h
    ·rename_i fid fst caps hx
     simp only at h
     split at h
     ·cases h
     ·rename_i bs hbs
      split at h
      ·rename_i b g' hcr
       split at h
       ·rename_i cs hb
        split at h
        ·rename_i cs' hfz
         split at h
         ·rename_i hcond
          cases h
          refine foot_new hw fun g'' hg' => ?_
          rw[hc] at hg'
          obtain ⟨h1,h2⟩:=frzL_agree (rd_agree hg') depth hbs
          simp only[opE,vCall,hx,h1,hcr,hb,hfz,h2,hcond,if_true]
         ·cases h
        ·cases h
       ·cases h
      ·cases h
    ·cases h
  | melt =>
    simp only[opE] at h
    unfold vCall at h
    split at h
    ·rename_i fid fst caps hx
     simp only at h
     split at h
     ·cases h
     ·rename_i bs hbs
      split at h
      ·rename_i b n g' hcr
       split at h
       ·rename_i cs hb
        split at h
        ·rename_i cs' hfz
         split at h
         ·rename_i hcond
          cases h
          refine foot_new hw fun g'' hg' => ?_
          rw[hc] at hg'
          obtain ⟨h1,h2⟩:=frzL_agree (rd_agree hg') depth hbs
          simp only[opE,vCall,hx,h1,hcr,hb,hfz,h2,hcond,if_true]
         ·cases h
        ·cases h
       ·cases h
      ·cases h
    ·cases h
  | pure => cases hc
  | lock => cases hc
  | raw => cases hc
  | see => cases hc
 all_goals cases hc
theorem vSrc_agree {esz:Nat} {y:AV} {g g':G} {r:List AV × Nat} (h:∀ i,(al i = true∧CM (g.hp i))→g'.hp i = g.hp i) (hs:vSrc al esz y g = some r):vSrc al esz y g' = some r:=by
 unfold vSrc at hs ⊢
 cases y<;>simp only at hs ⊢<;>first | exact hs | (cases hs;done) | skip
 split at hs
 ·rename_i hb
  simp only[rd_cells h hb trivial]
  exact hs
 ·cases hs
open Classical in
theorem foot_t {op:AOp} (hc:cls op = .t) (h:opE call al lo id op e g = some (v,g1)):Foot call al lo id op e g v g1:=by
 cases op
 case app esz b x y =>
  simp only[opE] at h
  unfold vApp at h
  split at h
  ·rename_i cs n tk hx
   split at h
   ·cases h
   ·rename_i ds m hsrc
    split at h
    ·rename_i hcond
     have hsrc':∀ g':G,(∀ i,Rd (cls (.app esz b x y)) al lo g i→g'.hp i = g.hp i)→vSrc al esz (y.ev e) g' = some (ds,m):=fun g' hg' => vSrc_agree (fun i hi => hg' i ⟨hi.1,.inl hi.2⟩) hsrc
     split at h
     ·cases h
     ·split at h
      ·rename_i hm
       cases h
       exact foot_none fun g' hg' => by simp only[opE,vApp,hx,hsrc' g' hg',if_pos hcond,if_pos hm]
      ·rename_i hm
       cases h
       exact foot_new (.inl rfl) fun g' hg' => by simp only[opE,vApp,hx,hsrc' g' hg',if_pos hcond,if_neg hm]
     ·rename_i τ e'
      split at h
      ·rename_i htk
       split at h
       ·rename_i he'
        cases h
        have hal:al τ = true:=by
         unfold rd at htk;split at htk
         ·assumption
         ·cases htk
        have hhp:=rd_g htk
        refine ⟨rfl,fun i hi h => ?_,fun i => i = id∨i = τ,fun i hi => ?_,fun i hi => ?_,fun g' hg' => ?_⟩
        ·have h:CM (upd (upd g.hp τ (some (.tok false))) id (some (.tok true)) i):=h
         rw[upd,if_neg hi] at h
         by_cases h2:i = τ
         ·subst h2;rw[upd,if_pos rfl] at h;exact h.elim
         ·rwa [upd,if_neg h2] at h
        ·rcases hi with rfl | rfl
         ·exact .inl rfl
         ·exact .inr ⟨hal,by rw[hhp];trivial⟩
        ·show upd _ _ _ _ = _
         rw[upd,if_neg (fun h => hi (.inl h)),upd,if_neg (fun h => hi (.inr h))]
        ·have hrd:rd g' al τ = some (.tok true):=by
          unfold rd;rw[if_pos hal,hg' τ ⟨hal,.inr (by rw[hhp];trivial)⟩,hhp]
         simp only[opE,vApp,hx,hsrc' g' hg',if_pos hcond,hrd,if_pos he']
         congr 3
         funext i
         by_cases h1:i = id
         ·subst h1;simp[upd]
         ·by_cases h2:i = τ
          ·subst h2;simp[upd,h1]
          ·simp[upd,h1,h2]
       ·cases h
      ·cases h
    ·cases h
  ·cases h
 case bsl imm n z ps => cases imm<;>cases hc
 case call m f asx => cases m<;>cases hc
 all_goals cases hc
open Classical in
theorem foot_s {op:AOp} (hc:cls op = .s) (h:opE call al lo id op e g = some (v,g1)):Foot call al lo id op e g v g1:=by
 cases op
 case stL n x y =>
  simp only[opE] at h
  unfold vSt at h
  split at h
  ·rename_i b off hx
   split at h
   ·rename_i cs hb
    split at h
    ·rename_i hcond
     cases h
     have hal:lo≤b∧al b = true:=by
      unfold rd at hb;split at hb
      ·rename_i hh;simpa using hh
      ·cases hb
     have hhp:=rd_g hb
     refine ⟨rfl,fun i hi h => ?_,fun i => i = b,fun i hi => ?_,fun i hi => ?_,fun g' hg' => ?_⟩
     ·by_cases h2:i = b
      ·subst h2;rw[hhp];trivial
      ·have h:CM (upd g.hp b _ i):=h
       rwa [upd,if_neg h2] at h
     ·subst hi;exact ⟨hal.1,hal.2,by rw[hhp];trivial⟩
     ·show upd _ _ _ _ = _
      rw[upd,if_neg hi]
     ·have hrd:rd g' (fun i => decide (lo≤i) && al i) b = some (.cells cs false):=by
       unfold rd;rw[if_pos (by simp[hal.1,hal.2]),hg' b ⟨hal.1,hal.2,by rw[hhp];trivial⟩,hhp]
      simp only[opE,vSt,hx,hrd,if_pos hcond]
      congr 3
      funext i
      by_cases h1:i = b
      ·subst h1;simp[upd]
      ·simp[upd,h1]
    ·cases h
   ·cases h
  ·cases h
 case bsl imm n z ps => cases imm<;>cases hc
 case call m f asx => cases m<;>cases hc
 all_goals cases hc
theorem foot_all {op:AOp} (hc:cls op≠.x) (h:opE call al lo id op e g = some (v,g1)):Foot call al lo id op e g v g1:=by
 cases hcl:cls op with
 | p => exact foot_p hcl h
 | r => exact foot_r hcl h
 | a => exact foot_a hcl h
 | t => exact foot_t hcl h
 | s => exact foot_s hcl h
 | x => exact absurd hcl hc
end
end Go.Ab
end
section
set_option linter.unusedVariables false
set_option linter.unusedSimpArgs false
namespace Go.Ab
open Go.RowKit
def gnames:Option (Nat × Bool)→List Nat
 | none => []
 | some (t,_) => [t]
def AOper.looks (o:AOper):List Nat:=gnames o.grd ++ o.op.names
def dnot (d:Option Nat) (l:List Nat):Bool:=match d with
 | none => true
 | some d => !l.contains d
def ddif (d d':Option Nat):Bool:=match d,d' with
 | some a,some b => a != b
 | _,_ => true
def clsOk0 (k i:Nat) (x y:AOper):Bool:=
 cls x.op == .p || cls y.op == .p || (cls x.op != .x && cls y.op != .x &&
  (!y.pre.contains k && !x.pre.contains i && (!(cls x.op == .s || cls y.op == .s) || x.pre.all (fun p => !y.pre.contains p)) && !(cls x.op == .t && cls y.op == .t)))
def fOp:AOp→Bool
 | .ldF _ _ => true
 | _ => false
def wOp:AOp→Bool
 | .stW _ _ _ => true
 | _ => false
def fwOk (x y:AOp):Bool:=(fOp x && fOp y) || (fOp x && wOp y) || (wOp x && fOp y)
def qnOk (x y:AOp):Bool:=match x,y with
 | .ldQ _ _ _,.ldQ _ _ _ => true
 | .ldQ _ _ t,.stN _ _ _ ts => ts.contains t
 | .stN _ _ _ ts,.ldQ _ _ t => ts.contains t
 | _,_ => false
def seeOk (x y:AOp):Bool:=match x,y with
 | .ld _ _,.call .see _ _ => true
 | _,_ => false
def clsOk (k i:Nat) (x y:AOper):Bool:=seeOk x.op y.op || (qnOk x.op y.op || (fwOk x.op y.op || clsOk0 k i x y))
def swapB (k i:Nat) (x y:AOper):Bool:=
 dnot x.dst y.looks && dnot y.dst x.looks && ddif x.dst y.dst && clsOk k i x y
theorem put_not {d:Option Nat} {l:List Nat} (h:dnot d l = true) (e:Env) (v:AV):∀ t∈l,put e d v t = e t:=by
 intro t ht
 cases d with
 | none => rfl
 | some d =>
   simp only[dnot,Bool.not_eq_true',List.contains_eq_mem,decide_eq_false_iff_not] at h
   have:t≠d:=fun h' => h (h' ▸ ht)
   simp only[put,upd,if_neg this]
theorem put_comm {d d':Option Nat} (h:ddif d d' = true) (e:Env) (v u:AV):put (put e d v) d' u = put (put e d' u) d v:=by
 cases d with
 | none => cases d'<;>rfl
 | some d =>
   cases d' with
   | none => rfl
   | some d' =>
     simp only[ddif,bne_iff_ne,ne_eq] at h
     funext t
     simp only[put,upd]
     by_cases h1:t = d'
     ·subst h1;rw[if_pos rfl,if_neg (fun h2 => h h2.symm),if_pos rfl]
     ·rw[if_neg h1]
      by_cases h2:t = d
      ·rw[if_pos h2,if_pos h2]
      ·rw[if_neg h2,if_neg h2,if_neg h1]
theorem wanted_congr {e e':Env} {grd:Option (Nat × Bool)} (h:∀ t∈gnames grd,e' t = e t):wanted e' grd = wanted e grd:=by
 cases grd with
 | none => rfl
 | some p => obtain ⟨t,w⟩:=p;simp only[wanted];rw[h t (by simp[gnames])]
noncomputable def stepV (call:CS) (base j:Nat) (o:AOper) (e:Env) (g:G):Option (AV × G):=
 if wanted e o.grd then opE call (allow true base o.pre) base (base + j) o.op e g else some (.undef,g)
theorem opStep_V (call:CS) (base j:Nat) (o:AOper) (e:Env) (g:G):opStep call true base j o e g = (stepV call base j o e g).map fun r => (put e o.dst r.1,r.2):=by
 unfold opStep stepV
 by_cases h:wanted e o.grd = true
 ·rw[if_pos h,if_pos h]
  cases opE call (allow true base o.pre) base (base + j) o.op e g with
  | none => rfl
  | some r => rfl
 ·rw[if_neg h,if_neg h];rfl
theorem stepV_congr {call:CS} {base j:Nat} {o:AOper} {e e':Env} (h:∀ t∈o.looks,e' t = e t) (g:G):stepV call base j o e' g = stepV call base j o e g:=by
 unfold stepV
 rw[wanted_congr fun t ht => h t (List.mem_append_left _ ht),opE_congr fun t ht => h t (List.mem_append_right _ ht)]
theorem allow_slot {base k:Nat} {pre:List Nat} (h:allow true base pre (base + k) = true):pre.contains k = true:=by
 simp only[allow,Bool.not_true,Bool.false_or,Bool.or_eq_true,decide_eq_true_eq] at h
 rcases h with h | h
 ·omega
 ·simpa using h
theorem allow_ge {base k:Nat} {pre:List Nat} (h:allow true base pre k = true) (hk:base≤k):pre.contains (k - base) = true:=by
 simp only[allow,Bool.not_true,Bool.false_or,Bool.or_eq_true,decide_eq_true_eq] at h
 rcases h with h | h
 ·omega
 ·exact h
theorem Foot.out {call:CS} {al:Nat→Bool} {lo id:Nat} {op:AOp} {e:Env} {g:G} {v:AV} {g1:G} (F:Foot call al lo id op e g v g1) {i:Nat} (h:¬ Wr (cls op) al lo id g i):g1.hp i = g.hp i:=by
 obtain ⟨_,_,W,h1,h2,_⟩:=F
 exact h2 i fun hw => h (h1 i hw)
open Classical in
theorem opE_swap0 {call:CS} {base k i:Nat} (hki:k≠i) {x y:AOper} (hc:clsOk0 k i x y = true) {e:Env} {g g1 g2:G} {v u:AV}
  (h1:opE call (allow true base x.pre) base (base + k) x.op e g = some (v,g1)) (h2:opE call (allow true base y.pre) base (base + i) y.op e g1 = some (u,g2)):
  ∃ g1',opE call (allow true base y.pre) base (base + i) y.op e g = some (u,g1')∧opE call (allow true base x.pre) base (base + k) x.op e g1' = some (v,g2):=by
 by_cases hx:cls x.op = .p
 ·obtain ⟨rfl,hh⟩:=any_p hx _ _ _ h1
  exact ⟨g2,h2,hh g2⟩
 by_cases hy:cls y.op = .p
 ·obtain ⟨rfl,hh⟩:=any_p hy _ _ _ h2
  exact ⟨g,hh g,h1⟩
 simp only[clsOk0,Bool.or_eq_true,beq_iff_eq,hx,hy,false_or,Bool.and_eq_true,bne_iff_ne,ne_eq,Bool.not_eq_true'] at hc
 obtain ⟨⟨cx,cy⟩,⟨⟨pk,pi⟩,ps⟩,ptt⟩:=hc
 have ak:allow true base y.pre (base + k)≠true:=fun h => by rw[allow_slot h] at pk;cases pk
 have ai:allow true base x.pre (base + i)≠true:=fun h => by rw[allow_slot h] at pi;cases pi
 have pp:(cls x.op = .s∨cls y.op = .s)→∀ m,base≤m→allow true base x.pre m = true→allow true base y.pre m = true→False:=by
  intro hs m hm h3 h4
  rcases ps with ps | ps
  ·simp only[Bool.or_eq_false_iff,beq_eq_false_iff_ne,ne_eq] at ps
   rcases hs with hs | hs
   ·exact ps.1 hs
   ·exact ps.2 hs
  ·have h3:=allow_ge h3 hm
   have h4:=allow_ge h4 hm
   have:=List.all_eq_true.1 ps (m - base) (by simpa using h3)
   rw[h4] at this;cases this
 have tt:¬ (cls x.op = .t∧cls y.op = .t):=by simpa [Bool.and_eq_false_iff] using ptt
 have F:=foot_all cx h1
 have F':=foot_all cy h2
 have out1:∀ m,¬ Wr (cls x.op) (allow true base x.pre) base (base + k) g m→g1.hp m = g.hp m:=fun m hm => F.out hm
 -- what y looks at,x has not turned
 have A:∀ m,Rd (cls y.op) (allow true base y.pre) base g1 m→¬ Wr (cls x.op) (allow true base x.pre) base (base + k) g m:=by
  intro m hr hw
  have hal:allow true base y.pre m = true:=by
   cases hcy:cls y.op<;>rw[hcy] at hr<;>simp only[Rd] at hr
   ·exact hr.1
   ·exact hr.1
   ·exact hr.1
   ·exact hr.2.1
   ·exact absurd hcy cy
  have hne:m≠base + k:=fun h => ak (h ▸ hal)
  cases hcx:cls x.op with
  | p => exact hx hcx
  | r => rw[hcx] at hw;exact hw
  | a => rw[hcx] at hw;exact hne hw
  | t =>
    rw[hcx] at hw
    rcases hw with hw | hw
    ·exact hne hw
    ·have hcm:CM (g1.hp m):=by
      cases hcy:cls y.op<;>rw[hcy] at hr<;>simp only[Rd] at hr
      ·exact hr.2
      ·exact hr.2
      ·exact absurd ⟨hcx,hcy⟩ tt
      ·exact hr.2.2
      ·exact absurd hcy cy
     have:=F.kind m hne hcm
     have h3:=hw.2
     cases hh:g.hp m with
     | none => rw[hh] at h3;exact h3
     | some b => rw[hh] at h3 this;cases b<;>first | exact h3 | exact this
  | s =>
    rw[hcx] at hw
    exact pp (.inl hcx) m hw.1 hw.2.1 hal
  | x => exact cx hcx
 have B:∀ m,Wr (cls y.op) (allow true base y.pre) base (base + i) g1 m→¬ Wr (cls x.op) (allow true base x.pre) base (base + k) g m:=by
  intro m hr hw
  have hor:m = base + i∨Rd (cls y.op) (allow true base y.pre) base g1 m:=by
   cases hcy:cls y.op<;>rw[hcy] at hr<;>simp only[Wr] at hr
   ·exact .inl hr
   ·rcases hr with hr | hr
    ·exact .inl hr
    ·exact .inr ⟨hr.1,.inr hr.2⟩
   ·exact .inr hr
   ·exact absurd hcy cy
  rcases hor with rfl | hr
  ·cases hcx:cls x.op with
   | p => exact hx hcx
   | r => rw[hcx] at hw;exact hw
   | a => rw[hcx] at hw;simp only[Wr] at hw;omega
   | t =>
     rw[hcx] at hw
     rcases hw with hw | hw
     ·omega
     ·exact ai hw.1
   | s => rw[hcx] at hw;exact ai hw.2.1
   | x => exact cx hcx
  ·exact A m hr hw
 have C:∀ m,Rd (cls x.op) (allow true base x.pre) base g m→¬ Wr (cls y.op) (allow true base y.pre) base (base + i) g1 m:=by
  intro m hr hw
  have hal:allow true base x.pre m = true:=by
   cases hcx:cls x.op<;>rw[hcx] at hr<;>simp only[Rd] at hr
   ·exact hr.1
   ·exact hr.1
   ·exact hr.1
   ·exact hr.2.1
   ·exact absurd hcx cx
  have hne:m≠base + i:=fun h => ai (h ▸ hal)
  have hold:g1.hp m = g.hp m:=out1 m (B m hw)
  cases hcy:cls y.op with
  | p => exact hy hcy
  | r => rw[hcy] at hw;exact hw
  | a => rw[hcy] at hw;exact hne hw
  | t =>
    rw[hcy] at hw
    rcases hw with hw | hw
    ·exact hne hw
    ·have h3:=hw.2
     rw[hold] at h3
     have hcm:CM (g.hp m):=by
      cases hcx:cls x.op<;>rw[hcx] at hr<;>simp only[Rd] at hr
      ·exact hr.2
      ·exact hr.2
      ·exact absurd ⟨hcx,hcy⟩ tt
      ·exact hr.2.2
      ·exact absurd hcx cx
     cases hh:g.hp m with
     | none => rw[hh] at h3;exact h3
     | some b => rw[hh] at h3 hcm;cases b<;>first | exact h3 | exact hcm
  | s =>
    rw[hcy] at hw
    exact pp (.inr hcy) m hw.1 hal hw.2.1
  | x => exact cy hcy
 obtain ⟨n1,_,W,w1,w2,w3⟩:=F
 obtain ⟨n2,_,W',w1',w2',w3'⟩:=F'
 have hAg:∀ m,Rd (cls y.op) (allow true base y.pre) base g1 m→g.hp m = g1.hp m:=fun m hm => (out1 m (A m hm)).symm
 refine ⟨_,w3' g hAg,?_⟩
 rw[w3 _ (fun m hm => ?_)]
 ·congr 2
  have:g2 = ⟨g2.hp,g2.nx⟩:=rfl
  rw[this]
  congr 1
  ·funext m
   show (if W m then g1.hp m else if W' m then g2.hp m else g.hp m) = g2.hp m
   by_cases hm:W m
   ·rw[if_pos hm]
    exact (w2' m (fun h' => B m (w1' m h') (w1 m hm))).symm
   ·rw[if_neg hm]
    by_cases hm':W' m
    ·rw[if_pos hm']
    ·rw[if_neg hm',w2' m hm',w2 m hm]
  ·show g.nx = g2.nx
   rw[n2,n1]
 ·show (if W' m then g2.hp m else g.hp m) = g.hp m
  rw[if_neg (fun h' => C m hm (w1' m h'))]
theorem ldF_any {call:CS} {al:Nat→Bool} {lo id:Nat} {op:AOp} (ho:fOp op = true) {e:Env} {g g1:G} {v:AV} (h:opE call al lo id op e g = some (v,g1)):
  g1 = g∧∀ g':G,(∀ i cs,g.hp i = some (.cells cs true)→g'.hp i = g.hp i)→opE call al lo id op e g' = some (v,g'):=by
 cases op<;>first | (cases ho;done) | skip
 rename_i agg x
 simp only[opE] at h ⊢
 unfold vLdF at h ⊢
 split at h
 ·obtain ⟨rfl,hk⟩:=any_map _ _ _ _ h
  exact ⟨rfl,fun g' _ => hk g'⟩
 ·rename_i b off hx
  split at h
  ·rename_i cs hb
   obtain ⟨rfl,hk⟩:=any_map _ _ _ _ h
   refine ⟨rfl,fun g' hg' => ?_⟩
   have hrd:rd g' al b = some (.cells cs true):=by
    unfold rd at hb ⊢
    split at hb
    ·rename_i ha
     rw[if_pos ha,hg' b cs hb];exact hb
    ·cases hb
   simp only[hrd]
   exact hk g'
  ·cases h
 ·cases h
theorem stW_keeps {call:CS} {al:Nat→Bool} {lo id:Nat} {op:AOp} (ho:wOp op = true) {e:Env} {g g1:G} {v:AV} (h:opE call al lo id op e g = some (v,g1)):
  (∀ i cs,g.hp i = some (.cells cs true)→g1.hp i = g.hp i)∧(∀ i cs,g1.hp i = some (.cells cs true)→g.hp i = g1.hp i):=by
 cases op<;>first | (cases ho;done) | skip
 rename_i n a x
 simp only[opE] at h
 unfold vSt at h
 split at h
 ·rename_i b off hx
  split at h
  ·rename_i cs hb
   split at h
   ·cases h
    have hhp:g.hp b = some (.cells cs false):=by
     unfold rd at hb
     split at hb
     ·exact hb
     ·cases hb
    refine ⟨fun i ds hi => ?_,fun i ds hi => ?_⟩
    ·have hne:i≠b:=fun h => by subst h;rw[hhp] at hi;cases hi
     show upd _ _ _ _ = _
     rw[upd,if_neg hne]
    ·have hne:i≠b:=fun h => by
      subst h
      have hi:upd g.hp i _ i = _:=hi
      rw[upd,if_pos rfl] at hi
      cases hi
     show _ = upd _ _ _ _
     rw[upd,if_neg hne]
   ·cases h
  ·cases h
 ·cases h
theorem ldQ_any {call:CS} {al:Nat→Bool} {lo id:Nat} {agg:Option Nat} {x:Opd} {t:Nat} {e:Env} {g g1:G} {v:AV} (h:opE call al lo id (.ldQ agg x t) e g = some (v,g1)):
  g1 = g∧∀ g':G,(∀ i,i∈ids1 (e t)→g'.hp i = g.hp i)→opE call al lo id (.ldQ agg x t) e g' = some (v,g'):=by
 simp only[opE] at h ⊢
 unfold vLdQ at h ⊢
 split at h
 ·rename_i b off hx
  split at h
  ·rename_i hb0
   split at h
   ·rename_i cs ro hb
    obtain ⟨rfl,hk⟩:=any_map _ _ _ _ h
    refine ⟨rfl,fun g' hg' => ?_⟩
    have hrd:rd g' al b = some (.cells cs ro):=by
     unfold rd at hb ⊢
     split at hb
     ·rename_i ha
      rw[if_pos ha,hg' b (by simpa using hb0)];exact hb
     ·cases hb
    rw[if_pos hb0]
    simp only[hrd]
    exact hk g'
   ·cases h
  ·cases h
 ·cases h
theorem stN_keeps {call:CS} {al:Nat→Bool} {lo id:Nat} {n:Nat} {a x:Opd} {ts:List Nat} {e:Env} {g g1:G} {v:AV} (h:opE call al lo id (.stN n a x ts) e g = some (v,g1)) {t:Nat} (ht:t∈ts) {i:Nat} (hi:i∈ids1 (e t)):g1.hp i = g.hp i:=by
 simp only[opE] at h
 unfold vStN at h
 split at h
 ·rename_i hall
  unfold vSt at h
  split at h
  ·rename_i b off hx
   split at h
   ·split at h
    ·cases h
     have hne:i≠b:=by
      intro hib
      subst hib
      rw[hx] at hall
      have h1:=List.all_eq_true.1 hall i (by simp[ids1])
      have h2:i∈(ts.map e).flatMap ids1:=List.mem_flatMap.2 ⟨e t,List.mem_map.2 ⟨t,ht,rfl⟩,hi⟩
      have h3:((ts.map e).flatMap ids1).contains i = true:=by simpa using h2
      rw[h3] at h1
      cases h1
     show upd _ _ _ _ = _
     rw[upd,if_neg hne]
    ·cases h
   ·cases h
  ·cases h
 ·cases h
theorem opE_swapQ {call:CS} {base k i:Nat} {x y:AOper} (hc:qnOk x.op y.op = true) {e:Env} {g g1 g2:G} {v u:AV}
  (h1:opE call (allow true base x.pre) base (base + k) x.op e g = some (v,g1)) (h2:opE call (allow true base y.pre) base (base + i) y.op e g1 = some (u,g2)):
  ∃ g1',opE call (allow true base y.pre) base (base + i) y.op e g = some (u,g1')∧opE call (allow true base x.pre) base (base + k) x.op e g1' = some (v,g2):=by
 unfold qnOk at hc
 split at hc
 ·rename_i hx hy
  rw[hx] at h1 ⊢
  rw[hy] at h2 ⊢
  obtain ⟨rfl,_⟩:=ldQ_any h1
  obtain ⟨rfl,_⟩:=ldQ_any h2
  exact ⟨g2,h2,h1⟩
 ·rename_i hx hy
  rw[hx] at h1 ⊢
  rw[hy] at h2 ⊢
  obtain ⟨rfl,k1⟩:=ldQ_any h1
  exact ⟨g2,h2,k1 g2 fun j hj => stN_keeps h2 (by simpa using hc) hj⟩
 ·rename_i hx hy
  rw[hx] at h1 ⊢
  rw[hy] at h2 ⊢
  obtain ⟨rfl,k2⟩:=ldQ_any h2
  exact ⟨g,k2 g fun j hj => (stN_keeps h1 (by simpa using hc) hj).symm,h1⟩
 ·cases hc
theorem ld_any {call:CS} {al:Nat→Bool} {lo id:Nat} {agg:Option Nat} {x:Opd} {e:Env} {g g1:G} {v:AV} (h:opE call al lo id (.ld agg x) e g = some (v,g1)):
  g1 = g∧∀ g':G,(∀ i b,g.hp i = some b→g'.hp i = some b)→opE call al lo id (.ld agg x) e g' = some (v,g'):=by
 have F:=foot_all (fun h => by cases h) h
 obtain ⟨hnx,_,W,h1,h2,h3⟩:=F
 have hW:∀ i,¬ W i:=fun i hi => h1 i hi
 have hg:g1 = g:=by
  obtain ⟨hp,nx⟩:=g
  obtain ⟨hp1,nx1⟩:=g1
  simp only at hnx h2
  subst hnx
  congr 1
  funext i
  exact h2 i (hW i)
 refine ⟨hg,fun g' hk => ?_⟩
 rw[h3 g' fun i hi => by
  have hc:CM (g.hp i):=hi.2
  cases hb:g.hp i with
  | none => rw[hb] at hc;exact hc.elim
  | some b => exact hk i b hb]
 congr 2
 obtain ⟨hp',nx'⟩:=g'
 congr 1
 funext i
 exact if_neg (hW i)
theorem opE_swapS {call:CS} {base k i:Nat} {x y:AOper} (hc:seeOk x.op y.op = true) {e:Env} {g g1 g2:G} {v u:AV}
  (h1:opE call (allow true base x.pre) base (base + k) x.op e g = some (v,g1)) (h2:opE call (allow true base y.pre) base (base + i) y.op e g1 = some (u,g2)):
  ∃ g1',opE call (allow true base y.pre) base (base + i) y.op e g = some (u,g1')∧opE call (allow true base x.pre) base (base + k) x.op e g1' = some (v,g2):=by
 unfold seeOk at hc
 split at hc
 ·rename_i hx hy
  rw[hx] at h1 ⊢
  rw[hy] at h2 ⊢
  obtain ⟨rfl,k1⟩:=ld_any h1
  refine ⟨g2,h2,k1 g2 ?_⟩
  simp only[opE,vCall] at h2
  split at h2
  ·obtain ⟨g',hce,h3,hkp⟩:=seeR_inv h2
   simp only at h3
   rw[h3]
   exact hkp
  ·cases h2
 ·cases hc
theorem opE_swap {call:CS} {base k i:Nat} (hki:k≠i) {x y:AOper} (hc:clsOk k i x y = true) {e:Env} {g g1 g2:G} {v u:AV}
  (h1:opE call (allow true base x.pre) base (base + k) x.op e g = some (v,g1)) (h2:opE call (allow true base y.pre) base (base + i) y.op e g1 = some (u,g2)):
  ∃ g1',opE call (allow true base y.pre) base (base + i) y.op e g = some (u,g1')∧opE call (allow true base x.pre) base (base + k) x.op e g1' = some (v,g2):=by
 unfold clsOk at hc
 rw[Bool.or_eq_true,Bool.or_eq_true,Bool.or_eq_true] at hc
 rcases hc with hc | hc | hc | hc
 ·exact opE_swapS hc h1 h2
 ·exact opE_swapQ hc h1 h2
 ·unfold fwOk at hc
  simp only[Bool.or_eq_true,Bool.and_eq_true] at hc
  rcases hc with (⟨hx,hy⟩ | ⟨hx,hy⟩) | ⟨hx,hy⟩
  ·obtain ⟨rfl,k1⟩:=ldF_any hx h1
   obtain ⟨rfl,k2⟩:=ldF_any hy h2
   exact ⟨g2,h2,h1⟩
  ·obtain ⟨rfl,k1⟩:=ldF_any hx h1
   exact ⟨g2,h2,k1 g2 (stW_keeps hy h2).1⟩
  ·obtain ⟨rfl,k2⟩:=ldF_any hy h2
   exact ⟨g,k2 g (stW_keeps hx h1).2,h1⟩
 ·exact opE_swap0 hki hc h1 h2
theorem stepV_swap {call:CS} {base k i:Nat} (hki:k≠i) {x y:AOper} (hc:clsOk k i x y = true) {e:Env} {g g1 g2:G} {v u:AV}
  (h1:stepV call base k x e g = some (v,g1)) (h2:stepV call base i y e g1 = some (u,g2)):∃ g1',stepV call base i y e g = some (u,g1')∧stepV call base k x e g1' = some (v,g2):=by
 unfold stepV at *
 by_cases hx:wanted e x.grd = true
 ·rw[if_pos hx] at h1
  by_cases hy:wanted e y.grd = true
  ·rw[if_pos hy] at h2
   obtain ⟨g1',h3,h4⟩:=opE_swap hki hc h1 h2
   exact ⟨g1',by rw[if_pos hy];exact h3,by rw[if_pos hx];exact h4⟩
  ·rw[if_neg hy] at h2
   cases h2
   exact ⟨g,by rw[if_neg hy],by rw[if_pos hx];exact h1⟩
 ·rw[if_neg hx] at h1
  cases h1
  exact ⟨g2,h2,by rw[if_neg hx]⟩
theorem opStep_swap {call:CS} {base k i:Nat} (hki:k≠i) {x y:AOper} (hc:swapB k i x y = true) {e e1 e2:Env} {g g1 g2:G}
  (h1:opStep call true base k x e g = some (e1,g1)) (h2:opStep call true base i y e1 g1 = some (e2,g2)):
  ∃ e1' g1',opStep call true base i y e g = some (e1',g1')∧opStep call true base k x e1' g1' = some (e2,g2):=by
 simp only[swapB,Bool.and_eq_true] at hc
 obtain ⟨⟨⟨d1,d2⟩,d3⟩,d4⟩:=hc
 rw[opStep_V] at h1 h2
 cases hv:stepV call base k x e g with
 | none => rw[hv] at h1;cases h1
 | some r =>
   obtain ⟨v,g1⟩:=r
   rw[hv] at h1
   cases h1
   rw[stepV_congr (put_not d1 e v)] at h2
   cases hu:stepV call base i y e g1 with
   | none => rw[hu] at h2;cases h2
   | some r =>
     obtain ⟨u,g2⟩:=r
     rw[hu] at h2
     cases h2
     obtain ⟨g1',h3,h4⟩:=stepV_swap hki d4 hv hu
     refine ⟨put e y.dst u,g1',by rw[opStep_V,h3];rfl,?_⟩
     rw[opStep_V,stepV_congr (put_not d2 e u),h4]
     show some _ = some _
     rw[put_comm d3]
noncomputable def runL (call:CS) (base:Nat) (aos:List AOper):List Nat→Env→G→Option (Env × G)
 | [],e,g => some (e,g)
 | i :: is,e,g => match aos[i]? with
   | some o => match opStep call true base i o e g with
     | some (e',g') => runL call base aos is e' g'
     | none => none
   | none => none
theorem runL_text (call:CS) (base:Nat) (aos:List AOper):∀ (os:List AOper) (j:Nat) (e:Env) (g:G),(∀ i o,os[i]? = some o→aos[j + i]? = some o)→runL call base aos (List.range' j os.length) e g = regE call true base j os e g
 | [],j,e,g,_ => rfl
 | o :: os,j,e,g,h => by
   rw[regE_step,List.length_cons,List.range'_succ]
   have h0:aos[j]? = some o:=by simpa using h 0 o rfl
   simp only[runL,h0]
   cases opStep call true base j o e g with
   | none => rfl
   | some r =>
     obtain ⟨e',g'⟩:=r
     exact runL_text call base aos os (j + 1) e' g' (fun i o' hi => by have:=h (i + 1) o' (by simpa using hi);rwa [show j + (i + 1) = j + 1 + i by omega] at this)
theorem runL_front {call:CS} {base:Nat} {aos:List AOper} {i:Nat} {y:AOper} (hy:aos[i]? = some y):∀ (pre post:List Nat) (e e':Env) (g g':G),(∀ k∈pre,k≠i∧∀ x,aos[k]? = some x→swapB k i x y = true) →
  runL call base aos (pre ++ i :: post) e g = some (e',g')→runL call base aos (i :: (pre ++ post)) e g = some (e',g')
 | [],post,e,e',g,g',_,h => h
 | k :: pre,post,e,e',g,g',hp,h => by
   rw[List.cons_append] at h
   simp only[runL] at h
   split at h
   ·rename_i x hx
    split at h
    ·rename_i e1 g1 hst
     have:=runL_front hy pre post e1 e' g1 g' (fun m hm => hp m (List.mem_cons_of_mem _ hm)) h
     simp only[runL,hy] at this
     split at this
     ·rename_i e2 g2 hst2
      obtain ⟨hne,hsw⟩:=hp k (List.mem_cons_self ..)
      obtain ⟨e1',g1',h3,h4⟩:=opStep_swap hne (hsw x hx) hst hst2
      simp only[runL,hy,h3,List.cons_append,hx,h4]
      exact this
     ·cases this
    ·cases h
   ·cases h
def cloAt (es:Array Edge) (clo:List Nat):Nat:=
 es.foldl (fun b e => if Region.binds .any e then b ||| (1 <<< e.on) ||| (clo.getD e.on 0) else b) 0
def clos:List Oper→List Nat→List Nat
 | [],clo => clo
 | o :: os,clo => clos os (clo ++ [cloAt o.after clo])
def edgesB:Nat→List Oper→Bool
 | _,[] => true
 | j,o :: os => o.after.all (fun e => !Region.binds .any e || decide (e.on < j)) && edgesB (j + 1) os
def pairsB (clo:Nat) (i:Nat) (y:AOper):Nat→List AOper→Bool
 | _,[] => true
 | k,x :: xs => (clo.testBit k || swapB k i x y) && pairsB clo i y (k + 1) xs
def drawB (aos:List AOper):Nat→List AOper→List Nat→Bool
 | _,[],_ => true
 | i,y :: ys,clo :: cs => pairsB clo i y 0 (aos.take i) && drawB aos (i + 1) ys cs
 | _,_ :: _,[] => false
end Go.Ab
end
section
set_option linter.unusedVariables false
set_option linter.unusedSimpArgs false
set_option linter.unnecessarySimpa false
namespace Go.Ab
open Go.RowKit
theorem testBit_fold (es:List Edge) (clo:List Nat) (k:Nat):∀ b:Nat,(es.foldl (fun b e => if Region.binds .any e then b ||| (1 <<< e.on) ||| (clo.getD e.on 0) else b) b).testBit k = true →
  b.testBit k = true∨∃ e∈es,Region.binds .any e = true∧(k = e.on∨(clo.getD e.on 0).testBit k = true):=by
 induction es with
 | nil => intro b h;exact .inl h
 | cons e es ih =>
   intro b h
   rw[List.foldl_cons] at h
   rcases ih _ h with h1 | ⟨e',he',h2⟩
   ·by_cases hb:Region.binds .any e = true
    ·rw[if_pos hb] at h1
     simp only[Nat.testBit_or,Bool.or_eq_true] at h1
     rcases h1 with (h1 | h1) | h1
     ·exact .inl h1
     ·refine .inr ⟨e,List.mem_cons_self ..,hb,.inl ?_⟩
      rw[Nat.testBit_shiftLeft] at h1
      simp only[Bool.and_eq_true,decide_eq_true_eq] at h1
      have h2:Nat.testBit 1 (k - e.on) = true:=h1.2
      have h3:k - e.on = 0:=by
       cases hz:k - e.on with
       | zero => rfl
       | succ z => rw[hz] at h2;simp[Nat.testBit_succ] at h2
      omega
     ·exact .inr ⟨e,List.mem_cons_self ..,hb,.inr h1⟩
    ·rw[if_neg hb] at h1
     exact .inl h1
   ·exact .inr ⟨e',List.mem_cons_of_mem _ he',h2⟩
def cloB (clo:List Nat):List Oper→List Nat→Bool
 | [],[] => true
 | o :: os,c :: cs => (cloAt o.after clo == c) && cloB clo os cs
 | _,_ => false
theorem cloB_get {clo:List Nat}:∀ {os:List Oper} {cs:List Nat},cloB clo os cs = true→os.length = cs.length∧∀ (i:Nat) o,os[i]? = some o→cs[i]? = some (cloAt o.after clo)
 | [],[],_ => ⟨rfl,fun _ _ h => by simp at h⟩
 | [],_ :: _,h => by simp[cloB] at h
 | _ :: _,[],h => by simp[cloB] at h
 | o :: os,c :: cs,h => by
   simp only[cloB,Bool.and_eq_true,beq_iff_eq] at h
   obtain ⟨h1,h2⟩:=cloB_get h.2
   refine ⟨by simp[h1],fun i o' hi => ?_⟩
   cases i with
   | zero => simp at hi;subst hi;simp[h.1]
   | succ i => simp at hi ⊢;exact h2 i o' hi
theorem edgesB_get:∀ {os:List Oper} {j:Nat},edgesB j os = true→∀ (i:Nat) o,os[i]? = some o→∀ e∈o.after,Region.binds .any e = true→e.on < j + i
 | [],_,_,_,_,h => by simp at h
 | o :: os,j,h,i,o',hi => by
   simp only[edgesB,Bool.and_eq_true] at h
   cases i with
   | zero =>
     simp at hi;subst hi
     intro e he hb
     have:=Array.all_eq_true_iff_forall_mem.1 h.1 e he
     rw[hb] at this
     simpa using this
   | succ i =>
     simp at hi
     intro e he hb
     have:=edgesB_get h.2 i o' hi e he hb
     omega
def Closed (ops:List Oper) (L:Nat→Bool):Prop:=∀ (i:Nat) o,ops[i]? = some o→L i = true→∀ e∈o.after,Region.binds .any e = true→L e.on = true
theorem clo_sound {ops:List Oper} {clo:List Nat} (hc:cloB clo ops clo = true) (he:edgesB 0 ops = true) {L:Nat→Bool} (hL:Closed ops L):∀ (i:Nat) (o:Oper),ops[i]? = some o→(∀ e∈o.after,Region.binds .any e = true→L e.on = true)→∀ k,(clo.getD i 0).testBit k = true→L k = true:=by
 intro i
 induction i using Nat.strongRecOn with
 | _ i ih =>
   intro o ho hp k hk
   obtain ⟨hl,hg⟩:=cloB_get hc
   have h1:clo.getD i 0 = cloAt o.after clo:=by rw[List.getD_eq_getElem?_getD,hg i o ho];rfl
   rw[h1] at hk
   unfold cloAt at hk
   rw[←Array.foldl_toList] at hk
   rcases testBit_fold _ _ _ _ hk with h2 | ⟨e,hm,hb,h2⟩
   ·simp at h2
   ·have hm':e∈o.after:=Array.mem_toList_iff.1 hm
    rcases h2 with rfl | h2
    ·exact hp e hm' hb
    ·have hlt:=edgesB_get he i o ho e hm' hb
     cases ho':ops[e.on]? with
     | none =>
       rw[List.getElem?_eq_none_iff] at ho'
       rw[List.getD_eq_getElem?_getD,List.getElem?_eq_none (by omega)] at h2
       simp at h2
     | some o' => exact ih e.on (by omega) o' ho' (fun e' he' hb' => hL e.on o' ho' (hp e hm' hb) e' he' hb') k h2
theorem pairsB_get {clo i:Nat} {y:AOper}:∀ {xs:List AOper} {j:Nat},pairsB clo i y j xs = true→∀ (k:Nat) x,xs[k]? = some x→clo.testBit (j + k) = true∨swapB (j + k) i x y = true
 | [],_,_,_,_,h => by simp at h
 | x :: xs,j,h,k,x',hk => by
   simp only[pairsB,Bool.and_eq_true,Bool.or_eq_true] at h
   cases k with
   | zero => simp at hk;subst hk;exact h.1
   | succ k =>
     simp at hk
     have:=pairsB_get h.2 k x' hk
     rwa [show j + 1 + k = j + (k + 1) by omega] at this
theorem drawB_get {aos:List AOper}:∀ {ys:List AOper} {cs:List Nat} {j:Nat},drawB aos j ys cs = true→∀ (i:Nat) y,ys[i]? = some y→pairsB (cs.getD i 0) (j + i) y 0 (aos.take (j + i)) = true
 | [],_,_,_,_,_,h => by simp at h
 | y :: ys,[],_,h,_,_,_ => by simp[drawB] at h
 | y :: ys,c :: cs,j,h,i,y',hi => by
   simp only[drawB,Bool.and_eq_true] at h
   cases i with
   | zero => simp at hi;subst hi;simpa using h.1
   | succ i =>
     simp at hi
     have:=drawB_get h.2 i y' hi
     rw[show j + 1 + i = j + (i + 1) by omega] at this
     simpa using this
theorem opersB_get {P:Program} {nm:Nat→Nat} {N:Nat} {ops:Array Oper}:∀ {os:List Oper} {aos:List AOper},opersB P nm N ops os aos = true→os.length = aos.length∧∀ (i:Nat) o,os[i]? = some o→∃ ao,aos[i]? = some ao∧operB P nm N ops o ao = true
 | [],[],_ => ⟨rfl,fun _ _ h => by simp at h⟩
 | [],_ :: _,h => by simp[opersB] at h
 | _ :: _,[],h => by simp[opersB] at h
 | o :: os,ao :: aos,h => by
   simp only[opersB,Bool.and_eq_true] at h
   obtain ⟨h1,h2⟩:=opersB_get h.2
   refine ⟨by simp[h1],fun i o' hi => ?_⟩
   cases i with
   | zero => simp at hi;subst hi;exact ⟨ao,rfl,h.1⟩
   | succ i => simp at hi ⊢;exact h2 i o' hi
def regB (P:Program) (nm:Nat→Nat) (N:Nat) (ops:Array Oper) (draw:Bool) (aos:List AOper):Bool:=
 opersB P nm N ops ops.toList aos && (!draw || (edgesB 0 ops.toList && (let clo:=clos ops.toList [];cloB clo ops.toList clo && drawB aos 0 aos clo)))
def pend (ops:Array Oper) (listed:Array Bool):List Nat:=(List.range ops.size).filter fun i => !listed.getD i true
theorem ready_some {ops:Array Oper} {listed:Array Bool} (he:edgesB 0 ops.toList = true) (hs:listed.size = ops.size):∀ i,i < ops.size→listed.getD i true = false→Region.ready .any ops listed≠[]:=by
 intro i
 induction i using Nat.strongRecOn with
 | _ i ih =>
   intro hi hl hr
   have ho:ops[i]? = some ops[i]:=Array.getElem?_eq_getElem hi
   by_cases hall:(ops[i].after.all fun e => !Region.binds .any e || listed.getD e.on false) = true
   ·have:i∈Region.ready .any ops listed:=by
     unfold Region.ready
     rw[List.mem_filter]
     exact ⟨List.mem_range.2 hi,by rw[hl,ho];simpa using hall⟩
    rw[hr] at this
    cases this
   ·rw[Array.all_eq_true_iff_forall_mem] at hall
    simp only[Bool.or_eq_true,Bool.not_eq_true'] at hall
    have:∃ e∈ops[i].after,Region.binds .any e = true∧listed.getD e.on false≠true:=by
     refine Classical.byContradiction fun hn => hall fun e hm => ?_
     by_cases hb:Region.binds .any e = true
     ·by_cases hl:listed.getD e.on false = true
      ·exact .inr hl
      ·exact absurd ⟨e,hm,hb,hl⟩ hn
     ·exact .inl (by simpa using hb)
    obtain ⟨e,hm,hb,hne⟩:=this
    have hlt:=edgesB_get he i ops[i] (by simpa using ho) e hm hb
    have hlt':e.on < ops.size:=by omega
    refine ih e.on (by omega) hlt' ?_ hr
    have h1:e.on < listed.size:=by omega
    simp only[Array.getD_eq_getD_getElem?,Array.getElem?_eq_getElem h1,Option.getD_some] at hne ⊢
    simpa using hne
section
variable {P:Program} {call:CS} {N:Nat}
theorem any_wp {num:Nat→Nat} (hcall:CallOk P num call) (hk:CallKeep call) {ops:Array Oper} {aos:List AOper} (hb:regB P num N ops true aos = true) {Q:Exit→Act→World→Prop} {base:Nat} {e':Env} {g':G}:
  ∀ (fuel:Nat) (listed:Array Bool) {c:Cx} {e:Env} {g:G} {a:Act},listed.size = ops.size→(pend ops listed).length = fuel→Closed ops.toList (fun i => listed.getD i false)→c.num = num→St N c e g a→base + ops.size≤g.nx →
  (∀ i∈pend ops listed,g.hp (base + i) = none)→runL call base aos (pend ops listed) e g = some (e',g')→(∀ c' a',Evo c c'→St N c' e' g' a'→Q .normal a' c'.w)→wpAny P .any ops Q fuel listed a c.w
 | 0,listed,c,e,g,a,hs,hl,hc,hn,S,hnx,hf,hr,hQ => by
   have hp:pend ops listed = []:=List.eq_nil_of_length_eq_zero hl
   refine ⟨?_,?_⟩
   ·refine List.eq_nil_iff_forall_not_mem.2 fun i hi => ?_
    have:i∈pend ops listed:=by
     unfold Region.ready at hi
     rw[List.mem_filter] at hi
     unfold pend
     rw[List.mem_filter]
     exact ⟨hi.1,by have:=hi.2;simp only[Bool.and_eq_true] at this;exact this.1⟩
    rw[hp] at this;cases this
   ·rw[hp] at hr
    simp only[runL] at hr
    cases hr
    exact hQ c a (Evo.refl c) S
 | fuel + 1,listed,c,e,g,a,hs,hl,hc,hn,S,hnx,hf,hr,hQ => by
   simp only[regB,Bool.and_eq_true,Bool.not_true,Bool.false_or] at hb
   obtain ⟨hb1,hb2,hb3,hb4⟩:=hb
   refine ⟨fun h0 => ?_,fun i hi => ?_⟩
   ·exfalso
    cases hp:pend ops listed with
    | nil => rw[hp] at hl;simp at hl
    | cons m ms =>
      have hm:m∈pend ops listed:=by rw[hp];exact List.mem_cons_self ..
      unfold pend at hm
      rw[List.mem_filter] at hm
      exact ready_some hb2 hs m (List.mem_range.1 hm.1) (by simpa using hm.2) h0
   ·have hi':=hi
    unfold Region.ready at hi'
    rw[List.mem_filter] at hi'
    obtain ⟨hir,hiu⟩:=hi'
    have hilt:i < ops.size:=List.mem_range.1 hir
    simp only[Bool.and_eq_true,Bool.not_eq_true'] at hiu
    obtain ⟨hul,hpre⟩:=hiu
    have ho:ops[i]? = some ops[i]:=Array.getElem?_eq_getElem hilt
    rw[ho] at hpre
    simp only[Option.map_some,Option.getD_some] at hpre
    have hpre':∀ ed∈ops[i].after,Region.binds .any ed = true→listed.getD ed.on false = true:=by
     intro ed hm hbd
     have:=Array.all_eq_true_iff_forall_mem.1 hpre ed hm
     rw[hbd] at this
     simpa using this
    have him:i∈pend ops listed:=by
     unfold pend;rw[List.mem_filter];exact ⟨hir,by rw[hul];rfl⟩
    obtain ⟨pre,post,hsplit⟩:=List.append_of_mem him
    have hsort:(pend ops listed).Pairwise (· < ·):=List.Pairwise.filter _ List.pairwise_lt_range
    rw[hsplit,List.pairwise_append] at hsort
    obtain ⟨s1,s2,s3⟩:=hsort
    rw[List.pairwise_cons] at s2
    obtain ⟨hlen,hget⟩:=opersB_get hb1
    obtain ⟨y,hy,hoy⟩:=hget i ops[i] (by simpa using ho)
    have hmem:∀ k,k∈pre∨k∈post→k∈pend ops listed:=by
     intro k hk;rw[hsplit]
     rcases hk with hk | hk
     ·exact List.mem_append_left _ hk
     ·exact List.mem_append_right _ (List.mem_cons_of_mem _ hk)
    have hfront:=runL_front hy pre post e e' g g' (fun k hk => by
     have hki:k < i:=s3 k hk i (List.mem_cons_self ..)
     refine ⟨by omega,fun x hx => ?_⟩
     have hpb:=drawB_get hb4 i y hy
     rw[Nat.zero_add] at hpb
     have:=pairsB_get hpb k x (by rw[List.getElem?_take_of_lt hki];exact hx)
     rw[Nat.zero_add] at this
     rcases this with h1 | h1
     ·exfalso
      have hL:=clo_sound hb3 hb2 hc i ops[i] (by simpa using ho) hpre' k h1
      have hkm:=hmem k (.inl hk)
      unfold pend at hkm
      rw[List.mem_filter] at hkm
      have hkl:k < listed.size:=by rw[hs];exact List.mem_range.1 hkm.1
      have h2:=hkm.2
      simp only[Array.getD_eq_getD_getElem?,Array.getElem?_eq_getElem hkl,Option.getD_some] at hL h2
      rw[hL] at h2;cases h2
     ·exact h1) (by rw[hsplit] at hr;exact hr)
    simp only[runL,hy] at hfront
    have hpend':pend ops (listed.setIfInBounds i true) = pre ++ post:=by
     have h1:pend ops (listed.setIfInBounds i true) = (pend ops listed).filter (fun k => k != i):=by
      unfold pend
      rw[List.filter_filter]
      refine List.filter_congr fun k hk => ?_
      have hkl:k < listed.size:=by rw[hs];exact List.mem_range.1 hk
      by_cases hki:k = i
      ·subst hki
       rw[Array.getD_eq_getD_getElem?,Array.getElem?_setIfInBounds_self_of_lt hkl]
       simp
      ·rw[Array.getD_eq_getD_getElem?,Array.getElem?_setIfInBounds_ne (fun h => hki h.symm),Array.getD_eq_getD_getElem?]
       simp[hki]
     rw[h1,hsplit,List.filter_append,List.filter_cons]
     have f1:pre.filter (fun k => k != i) = pre:=List.filter_eq_self.2 fun k hk => by
      have:=s3 k hk i (List.mem_cons_self ..)
      simp;omega
     have f2:post.filter (fun k => k != i) = post:=List.filter_eq_self.2 fun k hk => by
      have:=s2.1 k hk
      simp;omega
     rw[f1,f2]
     simp
    split at hfront
    ·rename_i e1 g1 hst
     have hkp:=opStep_keep hk hst
     refine opStep_wp (hn ▸ hcall) S ho (hn ▸ hoy) (hf i him) (by omega) hst (fun c1 a1 E1 S1 => ?_)
     have hb:regB P num N ops true aos = true:=by
      simp only[regB,Bool.and_eq_true,Bool.not_true,Bool.false_or]
      exact ⟨hb1,hb2,hb3,hb4⟩
     refine any_wp hcall hk hb fuel (listed.setIfInBounds i true) (by simpa using hs) (by
       rw[hpend']
       rw[hsplit] at hl
       simp at hl ⊢
       omega) ?_ (E1.num.trans hn) S1 (Nat.le_trans hnx hkp.1) ?_ (by rw[hpend'];exact hfront) (fun c' a' E' S' => hQ c' a' (E1.trans E') S')
     ·intro m o hm hlm ed hed hbd
      have hset:∀ k,listed.getD k false = true→(listed.setIfInBounds i true).getD k false = true:=by
       intro k hk
       by_cases hki:k = i
       ·subst hki
        have hkl:k < listed.size:=by omega
        rw[Array.getD_eq_getD_getElem?,Array.getElem?_setIfInBounds_self_of_lt hkl];rfl
       ·rw[Array.getD_eq_getD_getElem?,Array.getElem?_setIfInBounds_ne (fun h => hki h.symm),←Array.getD_eq_getD_getElem?];exact hk
      refine hset _ ?_
      by_cases hmi:m = i
      ·subst hmi
       have:o = ops[m]:=by
        have h2:ops[m]? = some o:=by simpa using hm
        rw[ho] at h2;cases h2;rfl
       subst this
       exact hpre' ed hed hbd
      ·have hlm':listed.getD m false = true:=by
        have h3:(listed.setIfInBounds i true).getD m false = true:=hlm
        rw[Array.getD_eq_getD_getElem?,Array.getElem?_setIfInBounds_ne (fun h => hmi h.symm),←Array.getD_eq_getD_getElem?] at h3
        exact h3
       exact hc m o hm hlm' ed hed hbd
     ·intro k hk
      rw[hpend'] at hk
      have hkm:=hmem k (List.mem_append.1 hk)
      have hki:k≠i:=by
       rcases List.mem_append.1 hk with hk | hk
       ·have:=s3 k hk i (List.mem_cons_self ..);omega
       ·have:=s2.1 k hk;omega
      have hklt:k < ops.size:=by
       unfold pend at hkm;rw[List.mem_filter] at hkm;exact List.mem_range.1 hkm.1
      exact hkp.2 _ (by omega) (by omega) (hf k hkm)
    ·cases hfront
theorem region_wp {num:Nat→Nat} (hcall:CallOk P num call) (hk:CallKeep call) (hm:P.follows .mixedOrders = true) {ops:Array Oper} {draw:Bool} {aos:List AOper} (hb:regB P num N ops draw aos = true) {Q:Exit→Act→World→Prop} {id:Nat}
  {c:Cx} {e e':Env} {g g':G} {a:Act} (hn:c.num = num) (S:St N c e g a) (h:regE call draw g.nx 0 aos e { g with nx:=g.nx + aos.length } = some (e',g')) (hQ:∀ c' a',Evo c c'→St N c' e' g' a'→Q .normal a' c'.w):(Code.region id ops draw).wp P Q a c.w:=by
 have hb':=hb
 simp only[regB,Bool.and_eq_true] at hb'
 obtain ⟨hlen,_⟩:=opersB_get hb'.1
 have hlen':ops.size = aos.length:=by simpa using hlen
 have S':St N c e { g with nx:=g.nx + aos.length } a:=⟨S.env,⟨S.ok.basele,S.ok.cells,S.ok.maps,S.ok.toks,S.ok.inj,fun id hid => S.ok.fresh id (by have:g.nx + aos.length≤id:=hid;omega),S.ok.gl⟩,S.hp,S.size,S.defers⟩
 have hfree:∀ i,i < ops.size→g.hp (g.nx + i) = none:=fun i _ => by rw[←S.hp];exact S.ok.fresh _ (by omega)
 cases draw with
 | false =>
   refine wp_region ?_
   rw[List.range_eq_range']
   have:=reg_wp (Q:=Q) hcall hk (draw:=false) (base:=g.nx) (n:=ops.size) ops.toList aos 0 hn (fun i o hi => by simpa using hi) hb'.1 (by simp) S' (by simp[hlen']) (fun i _ hi => hfree i hi) h hQ
   simpa using this
 | true =>
   refine wp_region_any hm ?_
   have hpend:pend ops (Array.replicate ops.size false) = List.range ops.size:=by
    unfold pend
    refine List.filter_eq_self.2 fun i hi => ?_
    have hi:=List.mem_range.1 hi
    rw[Array.getD_eq_getD_getElem?,Array.getElem?_replicate,if_pos hi];rfl
   refine any_wp (c:=c.drew) (base:=g.nx) hcall hk hb ops.size (Array.replicate ops.size false) (by simp) (by rw[hpend];simp) ?_ hn ⟨S'.env.evo (Evo.drew c),S'.ok.drew,S'.hp,S'.size,S'.defers⟩ (by show g.nx + ops.size≤g.nx + aos.length;omega) (fun i hi => ?_) ?_ (fun c' a' E Sc => hQ c' a' ((Evo.drew c).trans E) Sc)
   ·intro i o _ hl
    have hl:(Array.replicate ops.size false).getD i false = true:=hl
    rw[Array.getD_eq_getD_getElem?,Array.getElem?_replicate] at hl
    split at hl<;>cases hl
   ·rw[hpend] at hi
    exact hfree i (List.mem_range.1 hi)
   ·rw[hpend,List.range_eq_range',hlen']
    rw[runL_text call g.nx aos aos 0 e _ (fun i o hi => by simpa using hi)]
    exact h
end
end Go.Ab
end
section
set_option linter.unusedVariables false
set_option linter.unusedSimpArgs false
set_option linter.unnecessarySimpa false
namespace Go.Ab
open Go.RowKit
def codeB (P:Program) (nm:Nat→Nat) (N:Nat):Code→ACode→Bool
 | .skip,.skip => true
 | .region _ ops d,.reg d' aos => (d == d') && regB P nm N ops d aos
 | .seq a b,.seq a' b' => codeB P nm N a a' && codeB P nm N b b'
 | .cond c t f,.cond c' t' f' => opdB nm c c' && codeB P nm N t t' && codeB P nm N f f'
 | .block i c,.blk i' c' => (i == i') && codeB P nm N c c'
 | cd,.lck _ c' => codeB P nm N cd c'
 | cd,.lckS _ c' => codeB P nm N cd c'
 | cd,.imm _ c' => codeB P nm N cd c'
 | cd,.tmp c' => codeB P nm N cd c'
 | .scope c,.scp c' => codeB P nm N c c'
 | .label _,.lab => true
 | .loop c,.loop c' => codeB P nm N c c'
 | .exit i,.ext i' => i == i'
 | .ret,.ret => true
 | _,_ => false
def Keeps (g g':G):Prop:=g.nx≤g'.nx∧∀ i,i < g.nx→g.hp i = none→g'.hp i = none
theorem Keeps.refl (g:G):Keeps g g:=⟨Nat.le_refl _,fun _ _ h => h⟩
theorem Keeps.trans {g g1 g2:G} (h:Keeps g g1) (k:Keeps g1 g2):Keeps g g2:=⟨Nat.le_trans h.1 k.1,fun i hi hn => k.2 i (Nat.lt_of_lt_of_le hi h.1) (h.2 i hi hn)⟩
theorem regE_keep {call:CS} (hk:CallKeep call) {draw:Bool} {base:Nat} {e':Env} {g':G}:∀ (aos:List AOper) (j:Nat) {e:Env} {g:G},regE call draw base j aos e g = some (e',g')→g.nx≤g'.nx∧∀ i,i < base→i < g.nx→g.hp i = none→g'.hp i = none
 | [],j,e,g,h => by simp only[regE] at h;cases h;exact ⟨Nat.le_refl _,fun _ _ _ h => h⟩
 | o :: os,j,e,g,h => by
   rw[regE_step] at h
   split at h
   ·rename_i e1 g1 hst
    have h1:=opStep_keep hk hst
    have h2:=regE_keep hk os (j + 1) h
    exact ⟨Nat.le_trans h1.1 h2.1,fun i hb hi hn => h2.2 i hb (Nat.lt_of_lt_of_le hi h1.1) (h1.2 i hi (by omega) hn)⟩
   ·cases h
theorem iter_keep {f:Env→G→Option (Out × Env × G)} (hf:∀ e g o e' g',f e g = some (o,e',g')→Keeps g g'):∀ (k:Nat) {e:Env} {g:G} {o:Out} {e':Env} {g':G},iter f k e g = some (o,e',g')→Keeps g g'
 | 0,_,_,_,_,_,h => by simp[iter] at h
 | k + 1,e,g,o,e',g',h => by
   simp only[iter] at h
   split at h
   ·rename_i e1 g1 h1
    exact (hf _ _ _ _ _ h1).trans (iter_keep hf k h)
   ·exact hf _ _ _ _ _ h
theorem primE_keep {f:List AV→(Nat→Option Blk)→Option (AV × Option (Nat × List AV))} {asx:List AV} {g g':G} {v:AV} (h:primE f asx g = some (v,g')):Keeps g g':=by
 unfold primE at h
 split at h
 ·cases h
 ·cases h;exact Keeps.refl _
 ·rename_i v0 id cs hf
  split at h
  ·rename_i cs0 hid
   cases h
   refine ⟨Nat.le_refl _,fun i hi hn => ?_⟩
   by_cases he:i = id
   ·subst he;rw[hid] at hn;cases hn
   ·show upd g.hp id _ i = none
    unfold upd;rw[if_neg he];exact hn
  ·cases h
theorem codeE_keep {call:CS} (hk:CallKeep call) (k:Nat):∀ (c:ACode) {e:Env} {g:G} {o:Out} {e':Env} {g':G},codeE call k c e g = some (o,e',g')→Keeps g g'
 | .skip,_,_,_,_,_,h => by simp only[codeE] at h;cases h;exact Keeps.refl _
 | .reg draw ops,e,g,_,_,_,h => by
   simp only[codeE] at h
   split at h
   ·rename_i e1 g1 h1
    cases h
    have:=regE_keep hk ops 0 h1
    exact ⟨Nat.le_trans (Nat.le_add_right _ _) this.1,fun i hi hn => this.2 i hi (Nat.lt_of_lt_of_le hi (Nat.le_add_right _ _)) hn⟩
   ·cases h
 | .seq a b,_,_,_,_,_,h => by
   simp only[codeE] at h
   split at h
   ·rename_i e1 g1 h1
    exact (codeE_keep hk k a h1).trans (codeE_keep hk k b h)
   ·exact codeE_keep hk k a h
 | .cond c t f,e,g,_,_,_,h => by
   simp only[codeE] at h
   split at h
   ·split at h
    ·exact codeE_keep hk k t h
    ·exact codeE_keep hk k f h
   ·cases h
 | .blk id c,_,_,_,_,_,h => by
   simp only[codeE] at h
   split at h
   ·rename_i n e1 g1 h1
    cases h
    exact codeE_keep hk k c h1
   ·exact codeE_keep hk k c h
 | .scp c,_,_,_,_,_,h => by
   simp only[codeE] at h
   exact codeE_keep hk k c h
 | .lab,_,_,_,_,_,h => by simp only[codeE] at h;cases h;exact Keeps.refl _
 | .tmp c,e0,gg,_,_,_,h => by
   simp only[codeE] at h
   split at h
   ·rename_i o e2 g2 h1
    split at h
    ·cases h
     exact ⟨(codeE_keep hk k c h1).1,fun _ _ hn => hn⟩
    ·cases h
   ·cases h
 | .imm t c,e0,gg,_,_,_,h => by
   simp only[codeE] at h
   split at h
   ·rename_i v hv
    have h2:=codeE_keep hk k c h
    refine Keeps.trans (g1:=⟨Ab.lock gg.hp (vis gg.hp depth (e0 t)),gg.nx⟩) ⟨Nat.le_refl _,fun i hi hn => ?_⟩ h2
    show Ab.lock _ _ _ = none
    rcases lock_cases _ _ i with h' | ⟨_,cs,ro,h1,_⟩
    ·rw[h'];exact hn
    ·rw[hn] at h1;cases h1
   ·cases h
 | .lckS t c,e0,gg,_,_,_,h => by
   simp only[codeE] at h
   have h2:=codeE_keep hk k c h
   refine Keeps.trans (g1:=⟨Ab.lock gg.hp (ids1 (e0 t)),gg.nx⟩) ⟨Nat.le_refl _,fun i hi hn => ?_⟩ h2
   show Ab.lock _ _ _ = none
   rcases lock_cases _ _ i with h' | ⟨_,cs,ro,h1,_⟩
   ·rw[h'];exact hn
   ·rw[hn] at h1;cases h1
 | .lck t c,e0,gg,_,_,_,h => by
   simp only[codeE] at h
   have h2:=codeE_keep hk k c h
   refine Keeps.trans (g1:=⟨Ab.lock gg.hp (vis gg.hp depth (e0 t)),gg.nx⟩) ⟨Nat.le_refl _,fun i hi hn => ?_⟩ h2
   show Ab.lock _ _ _ = none
   rcases lock_cases _ _ i with h' | ⟨_,cs,ro,h1,_⟩
   ·rw[h'];exact hn
   ·rw[hn] at h1;cases h1
 | .loop c,_,_,_,_,_,h => by
   simp only[codeE] at h
   exact iter_keep (fun e g o e' g' h => codeE_keep hk k c h) k h
 | .ext _,_,_,_,_,_,h => by simp only[codeE] at h;cases h;exact Keeps.refl _
 | .ret,_,_,_,_,_,h => by simp only[codeE] at h;cases h;exact Keeps.refl _
 | .prim n f,_,_,_,_,_,h => by
   simp only[codeE] at h
   split at h
   ·rename_i v g1 hp
    cases h
    exact primE_keep hp
   ·cases h
theorem St.lock {N:Nat} {c:Cx} {e:Env} {g:G} {a:Act} (S:St N c e g a) (ids:List Nat):St N (c.lock ids) e ⟨Ab.lock g.hp ids,g.nx⟩ a:=
 ⟨S.env.evo (Evo.lock c ids),S.ok.lock ids,by show Ab.lock c.hp ids = _;rw[S.hp],S.size,S.defers⟩
theorem tmpOk_at {hp hp2:Nat→Option Blk} {n i:Nat} (h:tmpOk hp hp2 n = true) (hi:i < n):(∀ es,hp i≠some (.map es))∧(hp i = some (.tok true)→hp2 i = some (.tok true))∧(∀ cs ro,hp i = some (.cells cs ro)→∃ cs' ro',hp2 i = some (.cells cs' ro')):=by
 have:=List.all_eq_true.1 h i (List.mem_range.2 hi)
 refine ⟨fun es he => ?_,fun he => ?_,fun cs ro he => ?_⟩
 ·rw[he] at this;cases this
 ·rw[he] at this
  simp only at this
  split at this
  ·assumption
  ·cases this
 ·rw[he] at this
  simp only at this
  split at this
  ·exact ⟨_,_,by assumption⟩
  ·cases this
theorem lock_isSome {hp:Nat→Option Blk} {ids:List Nat} {i:Nat} (h:(hp i).isSome):(Ab.lock hp ids i).isSome:=by
 rcases lock_cases hp ids i with h1 | ⟨_,cs,ro,_,h1⟩
 ·rw[h1];exact h
 ·rw[h1];rfl
def Cx.unl (c1:Cx) (hp:Nat→Option Blk):Cx:={ c1 with hp:=hp }
section
variable {c c1:Cx} {nx nx2:Nat}
theorem id_lt (K:Ok c nx) {i:Nat} (h:(c.hp i).isSome):i < nx:=by
 by_cases hi:i < nx
 ·exact hi
 ·rw[K.fresh i (by omega)] at h;cases h
theorem Evo.unl (K:Ok c nx) (E1:Evo (c.lock (List.range nx)) c1) (hk:tmpOk c.hp c1.hp nx = true):Evo c (c1.unl c.hp) where
 num:=E1.num
 base:=E1.base
 J:=E1.J
 below:=E1.below
 imm:=fun ad hI => by
  have h1:=E1.imm ad ((Evo.lock c (List.range nx)).imm ad hI).1
  refine ⟨?_,fun v hv => h1.2 v hv⟩
  have hb:c1.base = c.base:=E1.base
  rcases hI with ⟨a1,a2⟩ | ⟨a1,a2,a3⟩
  ·refine .inl ⟨by show _ < c1.base;rw[hb];exact a1,?_⟩
   have:c1.J = c.J:=E1.J
   show c1.J ad
   rw[this];exact a2
  ·refine .inr ⟨by show c1.base≤_;rw[hb];exact a1,Nat.lt_of_lt_of_le a2 E1.below.size,fun hw => a3 ?_⟩
   rcases hw with ⟨i,cs,hi,hl⟩ | ⟨i,hi,hl,ho⟩
   ·have hi':c.hp i = some (.cells cs false):=hi
    have e:=(E1.ids i (lock_isSome (by show (c.hp i).isSome;rw[hi'];rfl))).2
    have hl':(c1.loc i).1 = ad.block:=hl
    rw[e] at hl'
    exact .inl ⟨i,cs,hi',hl'⟩
   ·have hi':c.hp i = some (.tok true):=hi
    have e:=(E1.ids i (lock_isSome (by show (c.hp i).isSome;rw[hi'];rfl))).2
    have hl':(c1.loc i).1 = ad.block:=hl
    have ho':(c1.loc i).2≤ad.off:=ho
    rw[e] at hl' ho'
    exact .inr ⟨i,hi',hl',ho'⟩
 ids:=fun i hi => ⟨hi,(E1.ids i (lock_isSome hi)).2⟩
 tok:=fun i hi ht => by
  have ht:c.hp i = some (.tok true):=ht
  refine ⟨ht,?_⟩
  exact (E1.tok i (lock_isSome hi) ((tmpOk_at hk (id_lt K hi)).2.1 ht)).2
 cel:=fun i cs ro hi hc => by
  have hc:c.hp i = some (.cells cs ro):=hc
  obtain ⟨cs',ro',h1⟩:=(tmpOk_at hk (id_lt K hi)).2.2 cs ro hc
  obtain ⟨_,_,_,_,h2⟩:=E1.cel i cs' ro' (lock_isSome hi) h1
  exact ⟨cs,ro,hc,rfl,h2⟩
theorem Ok.unl (K:Ok c nx) (E1:Evo (c.lock (List.range nx)) c1) (hk:tmpOk c.hp c1.hp nx = true) (K1:Ok c1 nx2) (hn:nx≤nx2):Ok (c1.unl c.hp) nx2:=by
 have E:=Evo.unl K E1 hk
 have hloc:∀ i,(c.hp i).isSome→c1.loc i = c.loc i:=fun i hi => (E.ids i hi).2
 refine ⟨K1.basele,?_,?_,?_,?_,?_,K.gl.evo E⟩
 ·intro i cs ro hi
  have hi:c.hp i = some (.cells cs ro):=hi
  have hs:(c.hp i).isSome:=by rw[hi];rfl
  obtain ⟨cs1,ro1,h1⟩:=(tmpOk_at hk (id_lt K hs)).2.2 cs ro hi
  obtain ⟨k1,vs1,us1,ty1,k2,k3,_⟩:=K1.cells i cs1 ro1 h1
  obtain ⟨cs0,ro0,h0,hl0,_⟩:=E1.cel i cs1 ro1 (lock_isSome hs) h1
  obtain ⟨j1,vs,us,ty,j2,j3,j4⟩:=K.cells i cs ro hi
  have hcl:cs.length = cs1.length:=by
   rcases lock_cases c.hp (List.range nx) i with h | ⟨_,cs2,ro2,h3,h4⟩
   ·have h0':Ab.lock c.hp (List.range nx) i = some (.cells cs0 ro0):=h0
    rw[h,hi] at h0';cases h0';exact hl0
   ·have h0':Ab.lock c.hp (List.range nx) i = some (.cells cs0 ro0):=h0
    rw[h4] at h0'
    rw[hi] at h3
    cases h3;cases h0';exact hl0
  have hvl:vs.length = vs1.length:=by rw[←j3.1,hcl,k3.1]
  have hv:vs1 = vs:=by
   refine List.ext_getElem? fun j => ?_
   by_cases hj:j < vs.length
   ·have hc0:c.w.cell? ⟨(c.loc i).1,j,none⟩ = some vs[j]:=by
     rw[cell_of_heap j2]
     simp[List.getElem?_append_left hj]
    have hI:(c.lock (List.range nx)).I ⟨(c.loc i).1,j,none⟩:=by
     refine .inr ⟨j1,(Array.getElem?_eq_some_iff.1 j2).1,fun hw => ?_⟩
     rcases hw with ⟨i',cs',hi',hl'⟩ | ⟨i',hi',hl',ho'⟩
     ·have hi':Ab.lock c.hp (List.range nx) i' = some (.cells cs' false):=hi'
      rcases lock_cases c.hp (List.range nx) i' with h | ⟨_,cs2,ro2,h3,h4⟩
      ·rw[h] at hi'
       have hlt:=id_lt K (i:=i') (by rw[hi'];rfl)
       have:Ab.lock c.hp (List.range nx) i' = some (.cells cs' true):=by
        unfold Ab.lock
        rw[if_pos (by simpa using hlt),hi']
       rw[h,hi'] at this
       cases this
      ·rw[h4] at hi';cases hi'
     ·have hi':Ab.lock c.hp (List.range nx) i' = some (.tok true):=hi'
      have hi2:c.hp i' = some (.tok true):=by
       rcases lock_cases c.hp (List.range nx) i' with h | ⟨_,cs2,ro2,h3,h4⟩
       ·rw[←h];exact hi'
       ·rw[h4] at hi';cases hi'
      have hne:i'≠i:=fun h => by rw[h,hi] at hi2;cases hi2
      exact K.inj i' i hne ⟨_,hi2,by simp⟩ ⟨_,hi,by simp⟩ hl'
    have h2:=(E1.imm _ hI).2 _ hc0
    rw[←hloc i hs,cell_of_heap k2] at h2
    have hj1:j < vs1.length:=hvl ▸ hj
    have h3:(vs1 ++ us1)[j]? = some vs[j]:=by simpa using h2
    rw[List.getElem?_append_left hj1] at h3
    rw[h3,List.getElem?_eq_getElem hj]
   ·rw[List.getElem?_eq_none (by omega),List.getElem?_eq_none (by omega)]
  subst hv
  exact ⟨k1,vs1,us1,ty1,k2,j3.evo E,j4⟩
 ·intro i es hi
  have hi:c.hp i = some (.map es):=hi
  exact absurd hi ((tmpOk_at hk (id_lt K (by rw[hi];rfl))).1 es)
 ·intro i hi
  have hi:c.hp i = some (.tok true):=hi
  exact K1.toks i ((tmpOk_at hk (id_lt K (by rw[hi];rfl))).2.1 hi)
 ·intro i j hij hi hj
  have hi:c.live i:=hi
  have hj:c.live j:=hj
  have si:(c.hp i).isSome:=by obtain ⟨b,hb,_⟩:=hi;rw[hb];rfl
  have sj:(c.hp j).isSome:=by obtain ⟨b,hb,_⟩:=hj;rw[hb];rfl
  show (c1.loc i).1≠(c1.loc j).1
  rw[hloc i si,hloc j sj]
  exact K.inj i j hij hi hj
 ·intro i hi
  exact K.fresh i (by omega)
theorem rigid_rep {hp:Nat→Option Blk} {x:AV} {v:Value} (h:Rep c1 true x v):Rep (c1.unl hp) true (rigid hp x) v:=by
 unfold rigid
 by_cases hf:flat x = true
 ·rw[if_pos hf];exact rep_flat hf h
 ·rw[if_neg hf]
  cases h with
  | undef v hb => exact .undef v hb
  | b x => exact absurd rfl hf
  | i k n => exact absurd rfl hf
  | s x => exact absurd rfl hf
  | nilp => exact absurd rfl hf
  | nilf => exact absurd rfl hf
  | nili => exact absurd rfl hf
  | agg vs hl h => exact .undef _ (fun x h => by cases h)
  | tup vs hl h => exact .undef _ (fun x h => by cases h)
  | sl ad vs hc hm hr ho hz h1 hl ha hk h ht => exact .undef _ (fun x h => by cases h)
  | ptr ad vs h1 hl hk h => exact .undef _ (fun x h => by cases h)
  | mp id off h =>
    simp only
    by_cases hs:(hp id).isSome = true
    ·rw[if_pos hs];exact Rep.mp (c:=c1.unl hp) id off hs
    ·rw[if_neg hs];exact .undef _ (fun x h => by cases h)
  | ms id off n cap h hc hm hp => exact .undef _ (fun x h => by cases h)
  | mc id k e n cap h hk hc hm hp => exact .undef _ (fun x h => by cases h)
  | fn vs us hl hl' h h' => exact .undef _ (fun x h => by cases h)
  | mm id h => exact .undef _ (fun x h => by cases h)
end
theorem St.unl {N:Nat} {c c1:Cx} {e2:Env} {g g2:G} {a1:Act} (K:Ok c g.nx) (hg:c.hp = g.hp) (E1:Evo (c.lock (List.range g.nx)) c1) (S1:St N c1 e2 g2 a1) (hk:tmpOk g.hp g2.hp g.nx = true) (hn:g.nx≤g2.nx):St N (c1.unl g.hp) (tmpEnv g.hp e2) ⟨g.hp,g2.nx⟩ a1:=by
 rw[←hg] at hk ⊢
 rw[←S1.hp] at hk
 exact ⟨fun t => rigid_rep (S1.env t),Ok.unl K E1 hk S1.ok hn,rfl,S1.size,S1.defers⟩
def exOf:Out→Exit
 | .nrm => .normal
 | .ext n => .exit n
 | .ret => .ret
section
variable {P:Program} {call:CS} {N:Nat}
theorem rounds_wp {num:Nat→Nat} {cd:Code} {f:Env→G→Option (Out × Env × G)} {Q:Exit→Act→World→Prop}
  (hf:∀ {Q:Exit→Act→World→Prop} {c:Cx} {e e':Env} {g g':G} {a:Act} {o:Out},c.num = num→St N c e g a→f e g = some (o,e',g')→(∀ c' a',Evo c c'→St N c' e' g' a'→Q (exOf o) a' c'.w)→cd.wp P Q a c.w):
  ∀ (k:Nat) {c:Cx} {e e':Env} {g g':G} {a:Act} {o:Out},c.num = num→St N c e g a→iter f k e g = some (o,e',g')→(∀ c' a',Evo c c'→St N c' e' g' a'→Q (exOf o) a' c'.w)→(o = .nrm→False)→Code.rounds P cd Q k a c.w
 | 0,_,_,_,_,_,_,_,_,_,h,_,_ => by simp[iter] at h
 | k + 1,c,e,e',g,g',a,o,hn,S,h,hQ,hno => by
   simp only[iter] at h
   rw[rounds_succ]
   split at h
   ·rename_i e1 g1 h1
    exact hf hn S h1 fun c1 a1 E1 S1 => rounds_wp hf k (E1.num.trans hn) S1 h (fun c' a' E' S' => hQ c' a' (E1.trans E') S') hno
   ·refine hf hn S h fun c1 a1 E1 S1 => ?_
    have:=hQ c1 a1 E1 S1
    cases o with
    | nrm => exact (hno rfl).elim
    | ext n => exact this
    | ret => exact this
theorem iter_out {f:Env→G→Option (Out × Env × G)}:∀ (k:Nat) {e e':Env} {g g':G} {o:Out},iter f k e g = some (o,e',g')→o = .nrm→False
 | 0,_,_,_,_,_,h,_ => by simp[iter] at h
 | k + 1,e,e',g,g',o,h,ho => by
   simp only[iter] at h
   split at h
   ·exact iter_out k h ho
   ·rename_i hne
    subst ho
    exact hne _ _ h
theorem code_wp {num:Nat→Nat} (hcall:CallOk P num call) (hk:CallKeep call) (hm:P.follows .mixedOrders = true) (k:Nat):∀ (ac:ACode) {cd:Code} {Q:Exit→Act→World→Prop} {c:Cx} {e e':Env} {g g':G} {a:Act} {o:Out},
  codeB P num N cd ac = true→c.num = num→St N c e g a→codeE call k ac e g = some (o,e',g')→(∀ c' a',Evo c c'→St N c' e' g' a'→Q (exOf o) a' c'.w)→cd.wp P Q a c.w
 | .skip,cd,Q,c,e,e',g,g',a,o,hb,hn,S,h,hQ => by
   cases cd<;>simp only[codeB,Bool.false_eq_true] at hb
   simp only[codeE] at h;cases h
   exact wp_skip (hQ c a (Evo.refl c) S)
 | .reg d aos,cd,Q,c,e,e',g,g',a,o,hb,hn,S,h,hQ => by
   cases cd<;>simp only[codeB,Bool.false_eq_true] at hb
   simp only[Bool.and_eq_true,beq_iff_eq] at hb
   obtain ⟨rfl,hb⟩:=hb
   simp only[codeE] at h
   split at h
   ·rename_i e1 g1 h1
    cases h
    exact region_wp hcall hk hm hb hn S h1 hQ
   ·cases h
 | .seq x y,cd,Q,c,e,e',g,g',a,o,hb,hn,S,h,hQ => by
   cases cd<;>simp only[codeB,Bool.false_eq_true] at hb
   simp only[Bool.and_eq_true] at hb
   simp only[codeE] at h
   refine wp_seq ?_
   split at h
   ·rename_i e1 g1 h1
    exact code_wp hcall hk hm k x hb.1 hn S h1 fun c1 a1 E1 S1 => code_wp hcall hk hm k y hb.2 (E1.num.trans hn) S1 h fun c' a' E' S' => hQ c' a' (E1.trans E') S'
   ·rename_i hne
    refine code_wp hcall hk hm k x hb.1 hn S h fun c1 a1 E1 S1 => ?_
    have:=hQ c1 a1 E1 S1
    cases o with
    | nrm => exact (hne _ _ h).elim
    | ext n => exact this
    | ret => exact this
 | .cond x t f,cd,Q,c,e,e',g,g',a,o,hb,hn,S,h,hQ => by
   cases cd<;>simp only[codeB,Bool.false_eq_true] at hb
   simp only[Bool.and_eq_true] at hb
   obtain ⟨⟨h1,h2⟩,h3⟩:=hb
   have hr:=opdB_rep S.env (hn ▸ h1)
   simp only[codeE] at h
   split at h
   ·rename_i b hx
    rw[hx] at hr
    refine wp_cond (t:=b) (by
     generalize a.eval _ = u at hr
     cases hr;rfl) ?_
    cases b with
    | true =>
      simp only[if_true] at h ⊢
      exact code_wp hcall hk hm k t h2 hn S h hQ
    | false =>
      simp only[Bool.false_eq_true,if_false] at h ⊢
      exact code_wp hcall hk hm k f h3 hn S h hQ
   ·cases h
 | .blk i x,cd,Q,c,e,e',g,g',a,o,hb,hn,S,h,hQ => by
   cases cd<;>simp only[codeB,Bool.false_eq_true] at hb
   simp only[Bool.and_eq_true,beq_iff_eq] at hb
   obtain ⟨rfl,hb⟩:=hb
   simp only[codeE] at h
   refine wp_block ?_
   split at h
   ·rename_i n e1 g1 h1
    cases h
    refine code_wp hcall hk hm k x hb hn S h1 fun c1 a1 E1 S1 => ?_
    have:=hQ c1 a1 E1 S1
    show if _ then _ else _
    split
    ·rename_i hni;rw[if_pos hni] at this;exact this
    ·rename_i hni;rw[if_neg hni] at this;exact this
   ·rename_i hne
    refine code_wp hcall hk hm k x hb hn S h fun c1 a1 E1 S1 => ?_
    have:=hQ c1 a1 E1 S1
    cases o with
    | nrm => exact this
    | ext n => exact (hne _ _ _ h).elim
    | ret => exact this
 | .scp x,cd,Q,c,e,e',g,g',a,o,hb,hn,S,h,hQ => by
   cases cd<;>simp only[codeB,Bool.false_eq_true] at hb
   simp only[codeE] at h
   refine wp_scope_straight (code_wp hcall hk hm k x hb hn S h fun c1 a1 E1 S1 => ?_)
   have:=hQ c1 a1 E1 S1
   cases o<;>exact this
 | .lab,cd,Q,c,e,e',g,g',a,o,hb,hn,S,h,hQ => by
   cases cd<;>simp only[codeB,Bool.false_eq_true] at hb
   simp only[codeE] at h;cases h
   exact wp_label (hQ c a (Evo.refl c) S)
 | .tmp x,cd,Q,c,e,e',g,g',a,o,hb,hn,S,h,hQ => by
   have hb:codeB P num N cd x = true:=by cases cd<;>simpa only[codeB] using hb
   simp only[codeE] at h
   split at h
   ·rename_i o2 e2 g2 h1
    split at h
    ·rename_i hk2
     cases h
     have E:=Evo.lock c (List.range g.nx)
     refine code_wp hcall hk hm k x (c:=c.lock (List.range g.nx)) hb (E.num.trans hn) (S.lock _) h1 fun c1 a1 E1 S1 => ?_
     have hk3:tmpOk c.hp c1.hp g.nx = true:=by rw[S.hp,S1.hp];exact hk2
     have hQ1:=hQ (c1.unl g.hp) a1 (by have:=Evo.unl S.ok E1 hk3;rwa [S.hp] at this) (St.unl S.ok S.hp E1 S1 hk2 (codeE_keep hk k x h1).1)
     exact hQ1
    ·cases h
   ·cases h
 | .imm t x,cd,Q,c,e,e',g,g',a,o,hb,hn,S,h,hQ => by
   have hb:codeB P num N cd x = true:=by cases cd<;>simpa only[codeB] using hb
   simp only[codeE] at h
   split at h
   ·rename_i v hv
    have E:=Evo.lock c (vis g.hp depth (e t))
    have S1:=S.lock (vis g.hp depth (e t))
    have hr:=frz_rep S.ok (hp:=g.hp) (ids:=vis g.hp depth (e t)) (fun i b hib => by rw[S.hp];exact hib) depth hv (fun _ h => h) (S.env t)
    have S2:St N (c.lock (vis g.hp depth (e t))) (upd e t v) ⟨Ab.lock g.hp (vis g.hp depth (e t)),g.nx⟩ a:=by
     refine ⟨fun t' => ?_,S1.ok,S1.hp,S1.size,S1.defers⟩
     unfold upd
     split
     ·rename_i ht;subst ht;exact hr.up
     ·exact S1.env t'
    exact code_wp hcall hk hm k x (c:=c.lock (vis g.hp depth (e t))) hb (E.num.trans hn) S2 h fun c1 a1 E1 S1 => hQ c1 a1 (E.trans E1) S1
   ·cases h
 | .lckS t x,cd,Q,c,e,e',g,g',a,o,hb,hn,S,h,hQ => by
   have hb:codeB P num N cd x = true:=by cases cd<;>simpa only[codeB] using hb
   simp only[codeE] at h
   have E:=Evo.lock c (ids1 (e t))
   exact code_wp hcall hk hm k x (c:=c.lock (ids1 (e t))) hb (E.num.trans hn) (S.lock _) h fun c1 a1 E1 S1 => hQ c1 a1 (E.trans E1) S1
 | .lck t x,cd,Q,c,e,e',g,g',a,o,hb,hn,S,h,hQ => by
   have hb:codeB P num N cd x = true:=by cases cd<;>simpa only[codeB] using hb
   simp only[codeE] at h
   have E:=Evo.lock c (vis g.hp depth (e t))
   exact code_wp hcall hk hm k x (c:=c.lock (vis g.hp depth (e t))) hb (E.num.trans hn) (S.lock _) h fun c1 a1 E1 S1 => hQ c1 a1 (E.trans E1) S1
 | .loop x,cd,Q,c,e,e',g,g',a,o,hb,hn,S,h,hQ => by
   cases cd<;>simp only[codeB,Bool.false_eq_true] at hb
   simp only[codeE] at h
   exact wp_loop_rounds k (rounds_wp (fun hn S h hQ => code_wp hcall hk hm k x hb hn S h hQ) k hn S h hQ (iter_out k h))
 | .ext i,cd,Q,c,e,e',g,g',a,o,hb,hn,S,h,hQ => by
   cases cd<;>simp only[codeB,Bool.false_eq_true] at hb
   simp only[beq_iff_eq] at hb
   subst hb
   simp only[codeE] at h;cases h
   exact wp_exit (hQ c a (Evo.refl c) S)
 | .ret,cd,Q,c,e,e',g,g',a,o,hb,hn,S,h,hQ => by
   cases cd<;>simp only[codeB,Bool.false_eq_true] at hb
   simp only[codeE] at h;cases h
   exact wp_ret (hQ c a (Evo.refl c) S)
 | .prim n f,cd,Q,c,e,e',g,g',a,o,hb,hn,S,h,hQ => by
   cases cd<;>simp only[codeB,Bool.false_eq_true] at hb
end
def resB (P:Program):List ResultVar→List ARes→Bool
 | [],[] => true
 | .tmp t :: rs,.t t' :: rs' => (t == t') && resB P rs rs'
 | .cell a t :: rs,.cell a' agg :: rs' => (a == a') && aggB P t agg && resB P rs rs'
 | _,_ => false
def funB (P:Program) (nm:Nat→Nat) (fn:Func) (A:AFun):Bool:=
 (match fn.body with
  | some cd => codeB P nm fn.ntmps cd A.body
  | none => false) && resB P fn.results.toList A.res && !(fn.name == "runtime.NumGoroutine")
def resVar (tmps:Array Value):ResultVar→Sem Value
 | .tmp t => pure (tmps.getD t undef)
 | .cell a t => do loadVar t (← asAddr (tmps.getD a undef))
theorem results_eq (fn:Func) (tmps:Array Value):results fn tmps = (fn.results.mapM (resVar tmps) >>= fun vs => pure (if h:vs.size = 1 then vs[0] else .tuple vs)):=by
 unfold results
 congr 1
theorem resB_ok {P:Program} {c:Cx} {e:Env} {a:Act} {g:G} (he:EnvOk c e a) (K:Ok c g.nx) (hg:c.hp = g.hp):∀ {rs:List ResultVar} {asx:List ARes} {vs:List AV},resB P rs asx = true→resAll e g asx = some vs→∃ us:List Value,(rs.mapM (resVar a.tmps)).run P c.w = .ok us c.w∧Reps c true vs us
 | [],[],vs,_,h => by
   simp only[resAll] at h;cases h
   exact ⟨[],rfl,Reps.nil⟩
 | .tmp t :: rs,.t t' :: asx,vs,hb,h => by
   simp only[resB,Bool.and_eq_true,beq_iff_eq] at hb
   obtain ⟨rfl,hb⟩:=hb
   simp only[resAll,resOne] at h
   split at h
   ·rename_i v vs' h1 h2
    cases h1;cases h
    obtain ⟨us,hu,hr⟩:=resB_ok he K hg hb h2
    refine ⟨a.tmps.getD t undef :: us,?_,Reps.cons (he t) hr⟩
    rw[List.mapM_cons,Sem.run_bind]
    show Result.andThen (.ok (a.tmps.getD t undef) c.w) _ = _
    rw[Result.andThen_ok,Sem.run_bind,hu]
    rfl
   ·cases h
 | .cell q t :: rs,.cell q' agg :: asx,vs,hb,h => by
   simp only[resB,Bool.and_eq_true,beq_iff_eq] at hb
   obtain ⟨⟨rfl,hagg⟩,hb⟩:=hb
   simp only[resAll] at h
   split at h
   ·rename_i v vs' h1 h2
    cases h
    obtain ⟨us,hu,hr⟩:=resB_ok he K hg hb h2
    simp only[resOne] at h1
    split at h1
    ·rename_i b off hq
     split at h1
     ·rename_i cs ro hbk
      have hrq:=he q
      rw[hq] at hrq
      have hv:=rep_mp hrq
      have hbk':c.hp b = some (.cells cs ro):=by rw[hg];exact hbk
      obtain ⟨_,ws,rs,ty,g2,g3,_⟩:=K.cells b cs ro hbk'
      obtain ⟨val,hrun,hval⟩:=run_loadVar_ab (P:=P) (w:=c.w) hagg g3 h1 (ad:=⟨(c.loc b).1,off,none⟩) (fun j u hu => by rw[add_mk,cell_of_heap g2,List.getElem?_toArray,List.getElem?_append_left (List.getElem?_eq_some_iff.1 hu).1];exact hu)
      refine ⟨val :: us,?_,Reps.cons hval hr⟩
      have hone:(resVar a.tmps (.cell q t)).run P c.w = .ok val c.w:=by
       simp only[resVar,hv]
       exact hrun
      rw[List.mapM_cons,Sem.run_bind,hone,Result.andThen_ok,Sem.run_bind,hu]
      rfl
     ·cases h1
    ·cases h1
   ·cases h
 | [],_ :: _,_,h,_ => by simp[resB] at h
 | .tmp _ :: _,[],_,h,_ => by simp[resB] at h
 | .tmp _ :: _,.cell _ _ :: _,_,h,_ => by simp[resB] at h
 | .cell _ _ :: _,[],_,h,_ => by simp[resB] at h
 | .cell _ _ :: _,.t _ :: _,_,h,_ => by simp[resB] at h
theorem res_ok {P:Program} {c:Cx} {e:Env} {a:Act} {g:G} (he:EnvOk c e a) (K:Ok c g.nx) (hg:c.hp = g.hp) {fn:Func} {asx:List ARes} {v:AV} (hb:resB P fn.results.toList asx = true) (h:resE asx e g = some v):∃ u,(results fn a.tmps).run P c.w = .ok u c.w∧Rep c true v u:=by
 unfold resE at h
 have key:∀ vs,resAll e g asx = some vs→∃ us:List Value,(results fn a.tmps).run P c.w = .ok (if h:us.toArray.size = 1 then us.toArray[0] else .tuple us.toArray) c.w∧Reps c true vs us:=by
  intro vs hv
  obtain ⟨us,hu,hr⟩:=resB_ok (P:=P) he K hg hb hv
  refine ⟨us,?_,hr⟩
  rw[results_eq,Array.mapM_eq_mapM_toList,Sem.run_bind,Sem.run_map,hu]
  rfl
 split at h
 ·rename_i v' hv
  cases h
  obtain ⟨us,hu,hr⟩:=key _ hv
  obtain ⟨u,us',rfl,h1,h2⟩:=Reps.cons_inv hr
  have:=Reps.nil_inv h2
  subst this
  exact ⟨u,by simpa using hu,h1⟩
 ·rename_i vs hne hv
  cases h
  obtain ⟨us,hu,hr⟩:=key _ hv
  refine ⟨_,hu,?_⟩
  rw[dif_neg]
  ·exact .tup us hr.1 hr.2
  ·intro hs
   have hl:vs.length = 1:=by rw[hr.1];simpa using hs
   match vs,hl,hne with
   | [v],_,hne => exact hne v rfl
 ·cases h
theorem argEnv_ok {c:Cx} {asx:List AV} {vs:List Value} (h:Reps c true asx vs) (n:Nat):EnvOk c (argEnv asx) { tmps:=vs.toArray ++ Array.replicate n undef,defers:=[] }:=by
 intro t
 unfold argEnv
 rw[List.getD_eq_getElem?_getD]
 show Rep c true _ ((vs.toArray ++ Array.replicate n undef).getD t undef)
 rw[Array.getD_eq_getD_getElem?,Array.getElem?_append]
 by_cases ht:t < vs.length
 ·rw[if_pos (by simpa using ht)]
  have ht':t < asx.length:=by rw[h.1];exact ht
  rw[List.getElem?_eq_getElem ht',List.getElem?_toArray,List.getElem?_eq_getElem ht]
  exact h.2 t _ _ (List.getElem?_eq_getElem ht') (List.getElem?_eq_getElem ht)
 ·rw[if_neg (by simpa using ht),List.getElem?_eq_none (by have:=h.1;omega)]
  rw[Array.getElem?_replicate]
  split<;>exact Rep.undef0
def PrimOk (P:Program) (num:Nat→Nat) (f:Nat) (A:AFun):Prop:=∃ n h,A.res = [.t 0]∧A.body = .prim n h∧(∃ fn,P.funcs[num f]? = some fn∧fn.body.isSome∧(fn.name == "runtime.NumGoroutine") = false) ∧
 ∀ asx g v g',asx.length = n→primE h ((List.range n).map (argEnv asx)) g = some (v,g')→∀ (c:Cx) (vargs:List Value),c.num = num→c.hp = g.hp→Ok c g.nx→Reps c true asx vargs →
   Calls P (num f) vargs.toArray c.w (fun en w' => ∃ val c',en = .returned val∧c'.w = w'∧Evo c c'∧Ok c' g'.nx∧c'.hp = g'.hp∧Rep c' true v val)
def Table (P:Program) (num:Nat→Nat) (F:Funs):Prop:=∀ f A,F f = some A→(∃ fn,P.funcs[num f]? = some fn∧funB P num fn A = true)∨PrimOk P num f A
theorem callE_ok {P:Program} {num:Nat→Nat} {F:Funs} (hT:Table P num F) (hm:P.follows .mixedOrders = true):∀ k,CallKeep (callE F k)∧CallOk P num (callE F k)
 | 0 => ⟨fun f asx g v g' h => by simp[callE] at h,fun f asx g v g' h => by simp[callE] at h⟩
 | k + 1 => by
   obtain ⟨hk,hcall⟩:=callE_ok hT hm k
   have keep:CallKeep (callE F (k + 1)):=by
    intro f asx g v g' h
    simp only[callE] at h
    split at h
    ·cases h
    ·rename_i fn hF
     cases har:arB fn asx with
     | false => rw[har] at h;cases h
     | true =>
     rw[har] at h
     simp only at h
     split at h
     ·rename_i e1 g1 h1
      have:=codeE_keep hk k _ h1
      cases hr:resE fn.res e1 g1 with
      | none => rw[hr] at h;cases h
      | some x => rw[hr] at h;cases h;exact this
     ·rename_i e1 g1 h1
      have:=codeE_keep hk k _ h1
      cases hr:resE fn.res e1 g1 with
      | none => rw[hr] at h;cases h
      | some x => rw[hr] at h;cases h;exact this
     ·cases h
   refine ⟨keep,fun f asx g v g' h => ⟨keep f asx g v g' h,fun c vargs hn hg K hr => ?_⟩⟩
   simp only[callE] at h
   split at h
   ·cases h
   ·rename_i A hF
    cases har:arB A asx with
    | false => rw[har] at h;cases h
    | true =>
    rw[har] at h
    simp only at h
    rcases hT f A hF with ⟨fn,hfn,hb⟩ | ⟨n,h0,hres,hbody,hfn,hok⟩
    case inr =>
     refine ⟨?_,hfn⟩
     have hlen:asx.length = n:=by
      unfold arB at har
      rw[hbody] at har
      simpa using har
     rw[hres,hbody] at h
     simp only[codeE] at h
     cases hp:primE h0 ((List.range n).map (argEnv asx)) g with
     | none => rw[hp] at h;cases h
     | some r =>
       obtain ⟨v1,g1⟩:=r
       rw[hp] at h
       have h:some (upd (argEnv asx) 0 v1 0,g1) = some (v,g'):=h
       simp only[upd,if_true] at h
       cases h
       exact hok asx g _ _ hlen hp c vargs hn hg K hr
    simp only[funB,Bool.and_eq_true,Bool.not_eq_true'] at hb
    obtain ⟨⟨hb1,hb2⟩,hb3⟩:=hb
    split at hb1
    ·rename_i cd hbody
     refine ⟨?_,fn,hfn,by rw[hbody];rfl,hb3⟩
     have S:St fn.ntmps c (argEnv asx) g { tmps:=vargs.toArray ++ Array.replicate (fn.ntmps - vargs.toArray.size) undef,defers:=[] }:=
      ⟨argEnv_ok hr _,K,hg,by simp;omega,rfl⟩
     have fin:∀ o e1 g1,(o = .nrm∨o = .ret)→codeE (callE F k) k A.body (argEnv asx) g = some (o,e1,g1)→(resE A.res e1 g1).map (·,g1) = some (v,g')→Calls P (num f) vargs.toArray c.w (fun en w' => ∃ val c',en = .returned val∧c'.w = w'∧Evo c c'∧Ok c' g'.nx∧c'.hp = g'.hp∧Rep c' true v val):=by
      intro o e1 g1 ho h1 h2
      cases hre:resE A.res e1 g1 with
      | none => rw[hre] at h2;cases h2
      | some x =>
        rw[hre] at h2;cases h2
        refine calls_of_wp hfn hbody (code_wp hcall hk hm k A.body hb1 hn S h1 fun c' a' E S' => ?_)
        obtain ⟨u,hu,hru⟩:=res_ok (P:=P) S'.env S'.ok S'.hp hb2 hre
        have:a'.defers = []∧∃ v',(results fn a'.tmps).run P c'.w = .ok v' c'.w∧(fun (en:Ending) (w':World) => ∃ val c'',en = .returned val∧c''.w = w'∧Evo c c''∧Ok c'' g'.nx∧c''.hp = g'.hp∧Rep c'' true v val) (.returned v') c'.w:=
         ⟨S'.defers,u,hu,u,c',rfl,rfl,E,S'.ok,S'.hp,hru⟩
        rcases ho with rfl | rfl
        ·exact this
        ·exact this
     split at h
     ·rename_i e1 g1 h1;exact fin .nrm e1 g1 (.inl rfl) h1 h
     ·rename_i e1 g1 h1;exact fin .ret e1 g1 (.inr rfl) h1 h
     ·cases h
    ·cases hb1
end Go.Ab
end
section
namespace Go.Proofs
open Go.Shelf
def Tryd.laysM171_ren:Go.Shelf.Ren:=⟨fun | 171 => 39 | 243 => 58 | 246 => 68 | 283 => 78 | 284 => 79 | 285 => 80 | 286 => 81 | 129 => 95 | 317 => 94 | 318 => 96 | 319 => 97 | 320 => 98 | 337 => 101 | 338 => 102 | n => n,fun | 3 => 3 | 9 => 9 | 2 => 2 | 4 => 4 | 171 => 120 | 0 => 0 | 53 => 82 | 37 => 123 | 5 => 5 | 173 => 124 | 212 => 132 | 51 => 133 | 20 => 20 | 213 => 134 | 46 => 58 | 232 => 146 | 233 => 147 | n => n,fun | 17 => 0 | 18 => 1 | 19 => 2 | n => n⟩
theorem Tryd.laysM171:Go.Proofs.LaysM.n171 Tryd.prog Tryd.laysM171_ren:={
 mixed:=by kernel_rfl
 f129:=Tryd.func95.trans (congrArg some (by kernel_rfl))
 f171:=Tryd.func39.trans (congrArg some (by kernel_rfl))
 f243:=Tryd.func58.trans (congrArg some (by kernel_rfl))
 f246:=Tryd.func68.trans (congrArg some (by kernel_rfl))
 f283:=Tryd.func78.trans (congrArg some (by kernel_rfl))
 f284:=Tryd.func79.trans (congrArg some (by kernel_rfl))
 f285:=Tryd.func80.trans (congrArg some (by kernel_rfl))
 f286:=Tryd.func81.trans (congrArg some (by kernel_rfl))
 f317:=Tryd.func94.trans (congrArg some (by kernel_rfl))
 f318:=Tryd.func96.trans (congrArg some (by kernel_rfl))
 f319:=Tryd.func97.trans (congrArg some (by kernel_rfl))
 f320:=Tryd.func98.trans (congrArg some (by kernel_rfl))
 f337:=Tryd.func101.trans (congrArg some (by kernel_rfl))
 f338:=Tryd.func102.trans (congrArg some (by kernel_rfl))
 t0:=Tryd.underlying0
 a0:=Tryd.isAgg0
 z0:=Tryd.sizeOf0
 v0:=Tryd.zeroValue0
 t2:=Tryd.underlying2
 a2:=Tryd.isAgg2
 z2:=Tryd.sizeOf2
 v2:=Tryd.zeroValue2
 t3:=Tryd.underlying3
 a3:=Tryd.isAgg3
 z3:=Tryd.sizeOf3
 v3:=Tryd.zeroValue3
 t4:=Tryd.underlying4
 a4:=Tryd.isAgg4
 z4:=Tryd.sizeOf4
 v4:=Tryd.zeroValue4
 t5:=Tryd.underlying5
 a5:=Tryd.isAgg5
 z5:=Tryd.sizeOf5
 v5:=Tryd.zeroValue5
 t9:=Tryd.underlying9
 a9:=Tryd.isAgg9
 z9:=Tryd.sizeOf9
 v9:=Tryd.zeroValue9
 t20:=Tryd.underlying20
 a20:=Tryd.isAgg20
 z20:=Tryd.sizeOf20
 v20:=Tryd.zeroValue20
 t37:=Tryd.underlying123
 a37:=Tryd.isAgg123
 z37:=Tryd.sizeOf123
 v37:=Tryd.zeroValue123
 t46:=Tryd.underlying58
 a46:=Tryd.isAgg58
 z46:=Tryd.sizeOf58
 v46:=Tryd.zeroValue58
 t51:=Tryd.underlying133
 a51:=Tryd.isAgg133
 z51:=Tryd.sizeOf133
 v51:=Tryd.zeroValue133
 t53:=Tryd.underlying82
 a53:=Tryd.isAgg82
 z53:=Tryd.sizeOf82
 v53:=Tryd.zeroValue82
 t171:=Tryd.underlying120
 a171:=Tryd.isAgg120
 z171:=Tryd.sizeOf120
 v171:=Tryd.zeroValue120
 t173:=Tryd.underlying124
 a173:=Tryd.isAgg124
 z173:=Tryd.sizeOf124
 v173:=Tryd.zeroValue124
 t212:=Tryd.underlying132
 a212:=Tryd.isAgg132
 z212:=Tryd.sizeOf132
 v212:=Tryd.zeroValue132
 t213:=Tryd.underlying134
 a213:=Tryd.isAgg134
 z213:=Tryd.sizeOf134
 t232:=Tryd.underlying146
 a232:=Tryd.isAgg146
 z232:=Tryd.sizeOf146
 v232:=Tryd.zeroValue146
 t233:=Tryd.underlying147
 a233:=Tryd.isAgg147
 z233:=Tryd.sizeOf147
 v233:=Tryd.zeroValue147
 g17:=by kernel_rfl
 g18:=by kernel_rfl
 g19:=by kernel_rfl
 i0:=by kernel_rfl
 i2:=by kernel_rfl
 i3:=by kernel_rfl
 i4:=by kernel_rfl
 i5:=by kernel_rfl
 i9:=by kernel_rfl
 i20:=by kernel_rfl
 i37:=by kernel_rfl
 i46:=by kernel_rfl
 i51:=by kernel_rfl
 i53:=by kernel_rfl
 i171:=by kernel_rfl
 i173:=by kernel_rfl
 i212:=by kernel_rfl
 i232:=by kernel_rfl
 i233:=by kernel_rfl
 m17:=by kernel_rfl
 m18:=by kernel_rfl
 m19:=by kernel_rfl }
end Go.Proofs
end
section
set_option linter.unusedVariables false
set_option linter.unusedSimpArgs false
namespace Go.Ab
open Go.RowKit
def ShR (S:List AV→Prop) (n:Nat) (asx:List AV):Prop:=∃ rows:List (List AV),rows.length = n∧asx = rows.flatten∧∀ r∈rows,S r
def ShL (S:TypeId→List AV→Prop):List TypeId→List AV→Prop
 | [],asx => asx = []
 | t :: ts,asx => ∃ a b,asx = a ++ b∧S t a∧ShL S ts b
def Sh (P:Program):Nat→TypeId→List AV→Prop
 | 0,_,_ => False
 | m + 1,t,asx => match P.underlying t with
   | some .bool => ∃ b,asx = [.b b]
   | some (.int k) => ∃ n,asx = [.i k n]∧(Lit.int k n).wf = true
   | some .string => ∃ s,asx = [.s s]∧s.size≤maxLen
   | some (.slice e) => ∃ cs n,asx = [.sl cs n .non]∧n≤maxLen∧ShR (Sh P m e) n cs
   | some (.pointer e) => asx = [.nilp]∨∃ cs,asx = [.ptr cs]∧Sh P m e cs
   | some (.struct fs) => ShL (Sh P m) (fs.toList.map (·.type)) asx
   | some (.array n e) => ShR (Sh P m e) n asx
   | _ => False
def fieldsOk (P:Program):Nat→List Field→Nat→Bool
 | o,[],n => o == n
 | o,f :: fs,n => (f.offset == o) && fieldsOk P (o + P.cellsOf f.type) fs n
def plainB (P:Program):Nat→TypeId→Bool
 | 0,_ => false
 | m + 1,t => match P.underlying t with
   | some .bool | some (.int _) | some .string => true
   | some (.slice e) => plainB P m e
   | some (.pointer e) => plainB P m e
   | some (.struct fs) => fieldsOk P 0 fs.toList (P.cellsOf t) && fs.toList.all (fun f => plainB P m f.type)
   | some (.array n e) => (P.cellsOf t == n * P.cellsOf e) && plainB P m e
   | _ => false
section
variable {H:Type} {enc:TypeId × Value→H} {P:Program} {c:Cx}
theorem add_add' (a:Addr) (m n:Nat):(a.add m).add n = a.add (m + n):=by
 unfold Addr.add
 by_cases hm:m = 0<;>by_cases hn:n = 0<;>simp[hm,hn,Nat.add_assoc]
theorem I_cell (hb:c.base = c.w.heap.size) (hJ:c.J = fun _ => True) {a:Addr} {v:Value} (h:c.w.cell? a = some v):c.I a:=.inl ⟨by rw[hb];exact block_lt_of_cell h,by rw[hJ];trivial⟩
theorem read_rows {S:List AV→Prop} {sz:Nat} {a:Addr} {n:Nat}
  (h:∀ i,i < n→∃ row rs,c.w.cells? 0 (a.add (i * sz)) sz = some row∧S rs∧Reps c false rs row∧∀ v∈row,v.oneCell' = true):
  ∃ cs vs,ShR S n cs∧Reps c false cs vs∧vs.length = n * sz∧(∀ v∈vs,v.oneCell' = true)∧∀ j,j < n * sz→c.w.cell? (a.add j) = vs[j]?:=by
 induction n with
 | zero => exact ⟨[],[],⟨[],rfl,rfl,fun _ h => by cases h⟩,Reps.nil,by simp,(fun v (h:v∈([]:List Value)) => by cases h),fun j hj => by omega⟩
 | succ n ih =>
   obtain ⟨cs,vs,⟨rows,hl,rfl,hS⟩,hR,hlen,h1,hcell⟩:=ih fun i hi => h i (by omega)
   obtain ⟨row,rs,hc,hSr,hRr,h1r⟩:=h n (by omega)
   obtain ⟨_,hrl,hrc⟩:=World.cells?_some hc
   refine ⟨_,vs ++ row,⟨rows ++ [rs],by simp[hl],rfl,?_⟩,?_,?_,?_,?_⟩
   ·intro r hr
    rcases List.mem_append.1 hr with hr | hr
    ·exact hS r hr
    ·rw[List.mem_singleton.1 hr];exact hSr
   ·simp only[List.flatten_append,List.flatten_cons,List.flatten_nil,List.append_nil]
    exact hR.append hRr
   ·rw[List.length_append,hlen,hrl,Nat.succ_mul]
   ·intro v hv
    rcases List.mem_append.1 hv with hv | hv
    ·exact h1 v hv
    ·exact h1r v hv
   ·intro j hj
    rw[Nat.succ_mul] at hj
    by_cases hjn:j < n * sz
    ·rw[List.getElem?_append_left (by omega)];exact hcell j hjn
    ·rw[List.getElem?_append_right (by omega),hlen,←hrc (j - n * sz) (by omega),add_add']
     rw[show n * sz + (j - n * sz) = j by omega]
theorem read_cells (hb:c.base = c.w.heap.size) (hJ:c.J = fun _ => True):∀ (m:Nat) {t:TypeId} {fuel:Nat} {cs:List Value} {x:DataW H × List MemPlace},
  plainB P m t = true→DataW.trod enc P c.w 0 (fun _ => true) true fuel t cs = some x→∃ asx,Sh P m t asx∧Reps c false asx cs∧∀ v∈cs,v.oneCell' = true
 | 0,_,_,_,_,h,_ => by simp[plainB] at h
 | m + 1,t,fuel,cs,x,hp,h => by
   have one:∀ {y:AV} {v:Value},Rep c false y v→v.oneCell' = true→Reps c false [y] [v]∧∀ u∈[v],u.oneCell' = true:=fun hr h1 =>
    ⟨Reps.cons hr Reps.nil,fun u hu => by rw[List.mem_singleton.1 hu];exact h1⟩
   simp only[plainB] at hp
   cases ht:P.underlying t with
   | none => rw[ht] at hp;cases hp
   | some d =>
     rw[ht] at hp
     cases d with
     | bool =>
       obtain ⟨b,rfl,_⟩:=DataW.trod_bool ht h
       exact ⟨[.b b],by simp only[Sh,ht];exact ⟨b,rfl⟩,one (.b b) rfl⟩
     | int k =>
       obtain ⟨n,rfl,_,hw⟩:=DataW.trod_int ht h
       exact ⟨[.i k n],by simp only[Sh,ht];exact ⟨n,rfl,hw⟩,one (.i k n) rfl⟩
     | string =>
       obtain ⟨s,rfl,_,hs⟩:=DataW.trod_string ht h
       exact ⟨[.s s],by simp only[Sh,ht];exact ⟨s,rfl,hs⟩,one (.s s) rfl⟩
     | slice e =>
       rcases DataW.trod_slice ht h with ⟨rfl,_⟩ | ⟨a,len,cap,elems,rest,n,rfl,rfl,_,_,hl,hm,hel,hget,_,_⟩
       ·refine ⟨[.sl [] 0 .non],by simp only[Sh,ht];exact ⟨[],0,rfl,Nat.zero_le _,[],rfl,rfl,fun _ h => by cases h⟩,one ?_ rfl⟩
        exact .sl ⟨0,0,none⟩ [] (Nat.le_refl _) (Nat.zero_le _) (fun h => by cases h) (fun _ _ _ h => by cases h) (fun h => by omega) (fun _ h => by cases h) rfl (fun h => absurd rfl h) (fun j v h => by simp at h) (fun j x v h => by simp at h) (fun _ _ h => by cases h)
       ·obtain ⟨asx,vs,hS,hR,hlen,h1,hcell⟩:=read_rows (c:=c) (S:=Sh P m e) (sz:=P.cellsOf e) (a:=a) (n:=len) fun i hi => by
         have hg:=hget i hi
         cases hc:c.w.cells? 0 (a.add (i * P.cellsOf e)) (P.cellsOf e) with
         | none => rw[hc] at hg;simp at hg;omega
         | some row =>
           rw[hc,Option.bind_some,List.getElem?_eq_getElem (by omega)] at hg
           obtain ⟨rs,h1,h2,h3⟩:=read_cells hb hJ m hp hg
           exact ⟨row,rs,rfl,h1,h2,h3⟩
        have hk:∀ (j:Nat) v,vs[j]? = some v→c.I (a.add j)∧c.w.cell? (a.add j) = some v:=fun j v hv => by
         have hj:j < len * P.cellsOf e:=by rw[←hlen];exact (List.getElem?_eq_some_iff.1 hv).1
         have:=(hcell j hj).trans hv
         exact ⟨I_cell hb hJ this,this⟩
        refine ⟨[.sl asx len .non],by simp only[Sh,ht];exact ⟨asx,len,rfl,by omega,hS⟩,one ?_ rfl⟩
        exact .sl a vs hl hm (fun h => by cases h) (fun _ _ _ h => by cases h) (fun _ => rfl) h1 hR.1 (fun _ => rfl) hk (fun j x v hx hv => hR.2 j x v hx hv) (fun _ _ h => by cases h)
     | pointer e =>
       rcases DataW.trod_pointer ht h with ⟨rfl,_⟩ | ⟨a,cs',y,n,rfl,rfl,_,hc,hd⟩
       ·exact ⟨[.nilp],by simp only[Sh,ht];exact .inl trivial,one .nilp rfl⟩
       ·obtain ⟨rs,h1,h2,h3⟩:=read_cells hb hJ m hp hd
        obtain ⟨_,hl,hcell⟩:=World.cells?_some hc
        have hk:∀ (j:Nat) v,cs'[j]? = some v→c.I (a.add j)∧c.w.cell? (a.add j) = some v:=fun j v hv => by
         have hj:j < P.cellsOf e:=by rw[←hl];exact (List.getElem?_eq_some_iff.1 hv).1
         have:=(hcell j hj).trans hv
         exact ⟨I_cell hb hJ this,this⟩
        exact ⟨[.ptr rs],by simp only[Sh,ht];exact .inr ⟨rs,rfl,h1⟩,one (.ptr a cs' h3 h2.1 hk (fun j x v hx hv => h2.2 j x v hx hv)) rfl⟩
     | struct fs =>
       simp only[Bool.and_eq_true,List.all_eq_true] at hp
       obtain ⟨xs,n,rfl,_,hcl,hxl,hget⟩:=DataW.trod_struct ht h
       have key:∀ (l:List Field) (o:Nat) (i:Nat),fieldsOk P o l (P.cellsOf t) = true→o≤cs.length→(∀ f∈l,plainB P m f.type = true)→(∀ j f,l[j]? = some f→DataW.trod enc P c.w 0 (fun _ => true) true n f.type ((cs.drop f.offset).take (P.cellsOf f.type)) = xs[i + j]?)→i + l.length = xs.length →
         ∃ asx,ShL (Sh P m) (l.map (·.type)) asx∧Reps c false asx (cs.drop o)∧∀ v∈cs.drop o,v.oneCell' = true:=by
        intro l
        induction l with
        | nil =>
          intro o i hf ho _ _ _
          simp only[fieldsOk,beq_iff_eq] at hf
          have:cs.drop o = []:=List.drop_eq_nil_of_le (by omega)
          rw[this]
          exact ⟨[],rfl,Reps.nil,fun _ h => by cases h⟩
        | cons f l ih =>
          intro o i hf ho hpl hg hlen
          simp only[fieldsOk,Bool.and_eq_true,beq_iff_eq] at hf
          obtain ⟨hfo,hf⟩:=hf
          have hg0:=hg 0 f rfl
          simp only[List.length_cons] at hlen
          rw[List.getElem?_eq_getElem (by omega),hfo] at hg0
          obtain ⟨rs,h1,h2,h3⟩:=read_cells hb hJ m (hpl f (List.mem_cons_self ..)) hg0
          have mono:∀ (l:List Field) (o:Nat),fieldsOk P o l (P.cellsOf t) = true→o≤P.cellsOf t:=by
           intro l
           induction l with
           | nil => intro o h;simp only[fieldsOk,beq_iff_eq] at h;omega
           | cons f l ih => intro o h;simp only[fieldsOk,Bool.and_eq_true] at h;have:=ih _ h.2;omega
          have ho2:=mono _ _ hf
          obtain ⟨asx,h4,h5,h6⟩:=ih (o + P.cellsOf f.type) (i + 1) hf (by omega) (fun g hg => hpl g (List.mem_cons_of_mem _ hg)) (fun j g hj => by
           have:=hg (j + 1) g (by simpa using hj)
           rwa [show i + (j + 1) = i + 1 + j by omega] at this) (by omega)
          have hsplit:cs.drop o = (cs.drop o).take (P.cellsOf f.type) ++ cs.drop (o + P.cellsOf f.type):=by
           rw[←List.drop_drop,List.take_append_drop]
          rw[hsplit]
          refine ⟨rs ++ asx,⟨rs,asx,rfl,h1,h4⟩,h2.append h5,fun v hv => ?_⟩
          rcases List.mem_append.1 hv with hv | hv
          ·exact h3 v hv
          ·exact h6 v hv
       obtain ⟨asx,h1,h2,h3⟩:=key fs.toList 0 0 hp.1 (Nat.zero_le _) hp.2 (fun j f hj => by
        have:=hget j f (by simpa using hj)
        rwa [show 0 + j = j by omega]) (by simp[hxl])
       exact ⟨asx,by simp only[Sh,ht];exact h1,by simpa using h2,by simpa using h3⟩
     | array n e =>
       simp only[Bool.and_eq_true,beq_iff_eq] at hp
       obtain ⟨xs,q,rfl,_,hcl,hxl,hget⟩:=DataW.trod_array ht h
       have key:∀ i,i≤n→∃ asx,ShR (Sh P m e) i asx∧Reps c false asx (cs.take (i * P.cellsOf e))∧∀ v∈cs.take (i * P.cellsOf e),v.oneCell' = true:=by
        intro i
        induction i with
        | zero => intro _;exact ⟨[],⟨[],rfl,rfl,fun _ h => by cases h⟩,by simpa using Reps.nil,by simp⟩
        | succ i ih =>
          intro hi
          obtain ⟨asx,⟨rows,hl,rfl,hS⟩,h2,h3⟩:=ih (by omega)
          have hg:=hget i (by omega)
          rw[List.getElem?_eq_getElem (by omega)] at hg
          obtain ⟨rs,h4,h5,h6⟩:=read_cells hb hJ m hp.2 hg
          have hsplit:cs.take ((i + 1) * P.cellsOf e) = cs.take (i * P.cellsOf e) ++ (cs.drop (i * P.cellsOf e)).take (P.cellsOf e):=by
           rw[Nat.succ_mul,List.take_add]
          rw[hsplit]
          refine ⟨_,⟨rows ++ [rs],by simp[hl],rfl,fun r hr => ?_⟩,?_,fun v hv => ?_⟩
          ·rcases List.mem_append.1 hr with hr | hr
           ·exact hS r hr
           ·rw[List.mem_singleton.1 hr];exact h4
          ·simp only[List.flatten_append,List.flatten_cons,List.flatten_nil,List.append_nil]
           exact h2.append h5
          ·rcases List.mem_append.1 hv with hv | hv
           ·exact h3 v hv
           ·exact h6 v hv
       obtain ⟨asx,h1,h2,h3⟩:=key n (Nat.le_refl _)
       have hall:cs.take (n * P.cellsOf e) = cs:=List.take_of_length_le (by omega)
       rw[hall] at h2 h3
       exact ⟨asx,by simp only[Sh,ht];exact h1,h2,h3⟩
     | _ => cases hp
theorem read_one (hb:c.base = c.w.heap.size) (hJ:c.J = fun _ => True) (m:Nat) {t:TypeId} {v:Value} {d:DataW H} {ps:List MemPlace} (hp:plainB P m t = true) (hv:v.cells = #[v]) (h:DataW.Trod enc P c.w 0 (fun _ => true) true t v d ps):
  ∃ x,Sh P m t [x]∧Rep c true x v:=by
 obtain ⟨fuel,hf⟩:=h
 rw[hv] at hf
 obtain ⟨asx,h1,h2,_⟩:=read_cells hb hJ m hp hf
 have hl:asx.length = 1:=by simpa using h2.1
 match asx,hl with
 | [x],_ => exact ⟨x,h1,(h2.2 0 x v rfl rfl).up⟩
end
end Go.Ab
end
section
namespace Go.Ab
def CLe (c d:CS):Prop:=∀ f asx g r,c f asx g = some r→d f asx g = some r
theorem opE_mono {c d:CS} (h:CLe c d) {al:Nat→Bool} {lo id:Nat} {op:AOp} {e:Env} {g:G} {r:AV × G} (hr:opE c al lo id op e g = some r):opE d al lo id op e g = some r:=by
 cases op with
 | call m f args =>
   simp only[opE,vCall] at hr ⊢
   split at hr
   ·cases m with
    | raw => exact h _ _ _ _ hr
    | see =>
      simp only at hr ⊢
      obtain ⟨v,g2⟩:=r
      obtain ⟨g',hc,rfl,hk⟩:=seeR_inv hr
      rw[h _ _ _ _ hc]
      exact seeR_some hk
    | pure =>
      simp only at hr ⊢
      split at hr
      ·cases hr
      ·split at hr
       ·cases hr
       ·rename_i hc
        rw[h _ _ _ _ hc]
        exact hr
    | lock =>
      simp only at hr ⊢
      split at hr
      ·cases hr
      ·split at hr
       ·cases hr
       ·rename_i hc
        rw[h _ _ _ _ hc]
        exact hr
    | thaw =>
      simp only at hr ⊢
      split at hr
      ·cases hr
      ·split at hr
       ·rename_i hc
        rw[h _ _ _ _ hc]
        exact hr
       ·cases hr
    | melt =>
      simp only at hr ⊢
      split at hr
      ·cases hr
      ·split at hr
       ·rename_i hc
        rw[h _ _ _ _ hc]
        exact hr
       ·cases hr
   ·cases hr
 | _ => exact hr
theorem regE_mono {c d:CS} (h:CLe c d) {draw:Bool} {base:Nat}:∀ {os:List AOper} {j:Nat} {e:Env} {g:G} {r},regE c draw base j os e g = some r→regE d draw base j os e g = some r
 | [],_,_,_,_,hr => hr
 | o :: os,j,e,g,r,hr => by
   simp only[regE] at hr ⊢
   split
   ·rename_i hw
    simp only[hw,if_true] at hr
    split at hr
    ·rename_i ho
     rw[opE_mono h ho]
     exact regE_mono h hr
    ·cases hr
   ·rename_i hw
    simp only[hw,Bool.false_eq_true,if_false] at hr
    exact regE_mono h hr
theorem iter_mono {f f':Env→G→Option (Out × Env × G)} (h:∀ e g r,f e g = some r→f' e g = some r):∀ {k k':Nat} {e g r},k≤k'→iter f k e g = some r→iter f' k' e g = some r
 | 0,_,_,_,_,_,hr => by simp[iter] at hr
 | k + 1,k',e,g,r,hk,hr => by
   obtain ⟨k',rfl⟩:∃ j,k' = j + 1:=⟨k' - 1,by omega⟩
   simp only[iter] at hr ⊢
   split at hr
   ·rename_i hf
    rw[h _ _ _ hf]
    exact iter_mono h (by omega) hr
   ·rename_i hn
    cases hf:f e g with
    | none => rw[hf] at hr;cases hr
    | some q =>
      rw[hf] at hr
      obtain rfl:q = r:=Option.some.inj hr
      obtain ⟨o,e',g'⟩:=q
      cases o with
      | nrm => exact absurd hf (hn _ _)
      | ext n => rw[h _ _ _ hf]
      | ret => rw[h _ _ _ hf]
theorem codeE_mono {c d:CS} (h:CLe c d) {k k':Nat} (hk:k≤k'):∀ {x:ACode} {e:Env} {g:G} {r},codeE c k x e g = some r→codeE d k' x e g = some r:=by
 intro x
 induction x with
 | skip => intro e g r hr;exact hr
 | reg draw ops =>
   intro e g r hr
   simp only[codeE] at hr ⊢
   split at hr
   ·rename_i ho
    rw[regE_mono h ho]
    exact hr
   ·cases hr
 | seq a b iha ihb =>
   intro e g r hr
   simp only[codeE] at hr ⊢
   split at hr
   ·rename_i ho
    rw[iha ho]
    exact ihb hr
   ·rename_i hn
    cases hf:codeE c k a e g with
    | none => rw[hf] at hr;cases hr
    | some q =>
      rw[hf] at hr
      obtain rfl:q = r:=Option.some.inj hr
      obtain ⟨o,e',g'⟩:=q
      cases o with
      | nrm => exact absurd hf (hn _ _)
      | ext n => rw[iha hf]
      | ret => rw[iha hf]
 | cond cc t f iht ihf =>
   intro e g r hr
   simp only[codeE] at hr ⊢
   split at hr
   ·split
    ·rename_i hx
     simp only[hx,if_true] at hr
     exact iht hr
    ·rename_i hx
     simp only[hx,Bool.false_eq_true,if_false] at hr
     exact ihf hr
   ·cases hr
 | lck t cc ih =>
   intro e g r hr
   simp only[codeE] at hr ⊢
   exact ih hr
 | lckS t cc ih =>
   intro e g r hr
   simp only[codeE] at hr ⊢
   exact ih hr
 | imm t cc ih =>
   intro e g r hr
   simp only[codeE] at hr ⊢
   cases hf:frz g.hp depth (e t) with
   | none => rw[hf] at hr;cases hr
   | some v => rw[hf] at hr;exact ih hr
 | tmp cc ih =>
   intro e g r hr
   simp only[codeE] at hr ⊢
   cases hf:codeE c k cc e ⟨lock g.hp (List.range g.nx),g.nx⟩ with
   | none => rw[hf] at hr;cases hr
   | some q => rw[hf] at hr;rw[ih hf];exact hr
 | scp cc ih =>
   intro e g r hr
   simp only[codeE] at hr ⊢
   exact ih hr
 | lab =>
   intro e g r hr
   simp only[codeE] at hr ⊢
   exact hr
 | blk id cc ih =>
   intro e g r hr
   simp only[codeE] at hr ⊢
   split at hr
   ·rename_i hf
    rw[ih hf]
    exact hr
   ·rename_i hn
    cases hf:codeE c k cc e g with
    | none => rw[hf] at hr;cases hr
    | some q =>
      rw[hf] at hr
      obtain rfl:q = r:=Option.some.inj hr
      obtain ⟨o,e',g'⟩:=q
      cases o with
      | nrm => rw[ih hf]
      | ext n => exact absurd hf (hn _ _ _)
      | ret => rw[ih hf]
 | loop cc ih =>
   intro e g r hr
   simp only[codeE] at hr ⊢
   exact iter_mono (fun _ _ _ => ih) hk hr
 | ext id => intro e g r hr;exact hr
 | ret => intro e g r hr;exact hr
 | prim n h => intro e g r hr;exact hr
theorem callE_mono (F:Funs):∀ {k k':Nat},k≤k'→CLe (callE F k) (callE F k')
 | 0,_,_,_,_,_,_,hr => by simp[callE] at hr
 | k + 1,k',hk,f,asx,g,r,hr => by
   obtain ⟨k',rfl⟩:∃ j,k' = j + 1:=⟨k' - 1,by omega⟩
   simp only[callE] at hr ⊢
   split at hr
   ·cases hr
   ·rename_i fn hF
    cases har:arB fn asx with
    | false => rw[har] at hr;cases hr
    | true =>
    rw[har] at hr
    simp only at hr ⊢
    have hm:=fun {x} => codeE_mono (callE_mono F (show k≤k' by omega)) (show k≤k' by omega) (x:=fn.body) (e:=argEnv asx) (g:=g) (r:=x)
    split at hr
    ·rename_i hc
     rw[hm hc]
     exact hr
    ·rename_i hc
     rw[hm hc]
     exact hr
    ·cases hr
open Classical in
noncomputable def lim {α:Type} (f:Nat→Option α):Option α:=
 if h:∃ r k,f k = some r then some (Classical.choose h) else none
theorem lim_some {α:Type} {f:Nat→Option α} (hm:∀ k k' r,k≤k'→f k = some r→f k' = some r) {r:α}:lim f = some r↔∃ k,f k = some r:=by
 unfold lim
 constructor
 ·intro h
  split at h
  ·rename_i hx
   have:=Classical.choose_spec hx
   rwa [Option.some.inj h] at this
  ·cases h
 ·rintro ⟨k,hk⟩
  rw[dif_pos ⟨r,k,hk⟩]
  obtain ⟨k',hk'⟩:=Classical.choose_spec (⟨r,k,hk⟩:∃ r k,f k = some r)
  have h1:=hm k (max k k') _ (by omega) hk
  have h2:=hm k' (max k k') _ (by omega) hk'
  rw[h1] at h2
  exact congrArg some (Option.some.inj h2).symm
theorem lim_ext {α:Type} {a b:Option α} (h:∀ r,a = some r↔b = some r):a = b:=by
 cases a with
 | none =>
   cases b with
   | none => rfl
   | some r => exact (((h r).2 rfl).symm ▸ rfl:none = some r)
 | some r => exact ((h r).1 rfl).symm
variable (F:Funs)
noncomputable def callS:CS:=fun f asx g => lim fun k => callE F k f asx g
noncomputable def codeS (x:ACode) (e:Env) (g:G):Option (Out × Env × G):=lim fun k => codeE (callE F k) k x e g
theorem callS_some {f asx g r}:callS F f asx g = some r↔∃ k,callE F k f asx g = some r:=
 lim_some fun _ _ _ hk h => callE_mono F hk _ _ _ _ h
theorem codeS_some {x e g r}:codeS F x e g = some r↔∃ k,codeE (callE F k) k x e g = some r:=
 lim_some fun _ _ _ hk h => codeE_mono (callE_mono F hk) hk h
theorem callE_le (k:Nat):CLe (callE F k) (callS F):=fun _ _ _ _ h => (callS_some F).2 ⟨k,h⟩
theorem opE_lim {al lo id op e g r}:opE (callS F) al lo id op e g = some r↔∃ k,opE (callE F k) al lo id op e g = some r:=by
 refine ⟨fun h => ?_,fun ⟨k,h⟩ => opE_mono (callE_le F k) h⟩
 cases op with
 | call m f args =>
   simp only[opE,vCall] at h ⊢
   split at h
   ·cases m with
    | raw => exact (callS_some F).1 h
    | see =>
      simp only at h ⊢
      obtain ⟨v,g2⟩:=r
      obtain ⟨g',hc,rfl,hkp⟩:=seeR_inv h
      obtain ⟨k,hk⟩:=(callS_some F).1 hc
      exact ⟨k,by rw[hk];exact seeR_some hkp⟩
    | pure =>
      simp only at h ⊢
      split at h
      ·cases h
      ·split at h
       ·cases h
       ·rename_i hc
        obtain ⟨k,hk⟩:=(callS_some F).1 hc
        exact ⟨k,by rw[hk];exact h⟩
    | lock =>
      simp only at h ⊢
      split at h
      ·cases h
      ·split at h
       ·cases h
       ·rename_i hc
        obtain ⟨k,hk⟩:=(callS_some F).1 hc
        exact ⟨k,by rw[hk];exact h⟩
    | thaw =>
      simp only at h ⊢
      split at h
      ·cases h
      ·split at h
       ·rename_i hc
        obtain ⟨k,hk⟩:=(callS_some F).1 hc
        exact ⟨k,by rw[hk];exact h⟩
       ·cases h
    | melt =>
      simp only at h ⊢
      split at h
      ·cases h
      ·split at h
       ·rename_i hc
        obtain ⟨k,hk⟩:=(callS_some F).1 hc
        exact ⟨k,by rw[hk];exact h⟩
       ·cases h
   ·cases h
 | _ => exact ⟨0,h⟩
theorem regE_lim {draw base}:∀ {os:List AOper} {j e g r},regE (callS F) draw base j os e g = some r↔∃ k,regE (callE F k) draw base j os e g = some r
 | [],_,_,_,_ => ⟨fun h => ⟨0,h⟩,fun ⟨_,h⟩ => h⟩
 | o :: os,j,e,g,r => by
   refine ⟨fun h => ?_,fun ⟨k,h⟩ => regE_mono (callE_le F k) h⟩
   simp only[regE] at h
   split at h
   ·rename_i hw
    split at h
    ·rename_i ho
     obtain ⟨k1,h1⟩:=(opE_lim F).1 ho
     obtain ⟨k2,h2⟩:=(regE_lim).1 h
     refine ⟨max k1 k2,?_⟩
     simp only[regE]
     rw[if_pos hw,opE_mono (callE_mono F (Nat.le_max_left k1 k2)) h1]
     exact regE_mono (callE_mono F (Nat.le_max_right k1 k2)) h2
    ·cases h
   ·rename_i hw
    obtain ⟨k2,h2⟩:=(regE_lim).1 h
    refine ⟨k2,?_⟩
    simp only[regE]
    rw[if_neg hw]
    exact h2
theorem codeS_skip (e g):codeS F .skip e g = some (.nrm,e,g):=(codeS_some F).2 ⟨0,rfl⟩
theorem codeS_ext (id e g):codeS F (.ext id) e g = some (.ext id,e,g):=(codeS_some F).2 ⟨0,rfl⟩
theorem codeS_ret (e g):codeS F .ret e g = some (.ret,e,g):=(codeS_some F).2 ⟨0,rfl⟩
theorem codeS_reg (draw ops e g):codeS F (.reg draw ops) e g = match regE (callS F) draw g.nx 0 ops e { g with nx:=g.nx + ops.length } with
  | some (e,g) => some (.nrm,e,g)
  | none => none:=by
 refine lim_ext fun r => ?_
 rw[codeS_some]
 constructor
 ·rintro ⟨k,h⟩
  simp only[codeE] at h
  split at h
  ·rename_i ho
   rw[(regE_lim F).2 ⟨k,ho⟩]
   exact h
  ·cases h
 ·intro h
  split at h
  ·rename_i ho
   obtain ⟨k,hk⟩:=(regE_lim F).1 ho
   exact ⟨k,by simp only[codeE];rw[hk];exact h⟩
  ·cases h
theorem codeS_seq (a b e g):codeS F (.seq a b) e g = match codeS F a e g with
  | some (.nrm,e,g) => codeS F b e g
  | r => r:=by
 refine lim_ext fun r => ?_
 rw[codeS_some]
 constructor
 ·rintro ⟨k,h⟩
  simp only[codeE] at h
  split at h
  ·rename_i ho
   rw[(codeS_some F).2 ⟨k,ho⟩]
   exact (codeS_some F).2 ⟨k,h⟩
  ·rename_i hn
   rw[(codeS_some F).2 ⟨k,h⟩]
   obtain ⟨o,e',g'⟩:=r
   cases o with
   | nrm => exact absurd h (hn _ _)
   | ext n => rfl
   | ret => rfl
 ·intro h
  split at h
  ·rename_i ho
   obtain ⟨k1,h1⟩:=(codeS_some F).1 ho
   obtain ⟨k2,h2⟩:=(codeS_some F).1 h
   refine ⟨max k1 k2,?_⟩
   simp only[codeE]
   rw[codeE_mono (callE_mono F (Nat.le_max_left k1 k2)) (Nat.le_max_left k1 k2) h1]
   exact codeE_mono (callE_mono F (Nat.le_max_right k1 k2)) (Nat.le_max_right k1 k2) h2
  ·rename_i hn
   obtain ⟨k1,h1⟩:=(codeS_some F).1 h
   refine ⟨k1,?_⟩
   simp only[codeE]
   rw[h1]
   obtain ⟨o,e',g'⟩:=r
   cases o with
   | nrm => exact absurd h (hn _ _)
   | ext n => rfl
   | ret => rfl
theorem codeS_cond (c t f e g):codeS F (.cond c t f) e g = match c.ev e with
  | .b x => if x then codeS F t e g else codeS F f e g
  | _ => none:=by
 refine lim_ext fun r => ?_
 rw[codeS_some]
 simp only[codeE]
 cases c.ev e with
 | b x =>
   cases x with
   | true => simp only[if_true];exact (codeS_some F).symm
   | false => simp only[Bool.false_eq_true,if_false];exact (codeS_some F).symm
 | _ => simp
theorem codeS_prim (n h e g):codeS F (.prim n h) e g = match primE h ((List.range n).map e) g with
  | some (v,g) => some (.ret,upd e 0 v,g)
  | none => none:=by
 refine lim_ext fun r => ?_
 rw[codeS_some]
 simp only[codeE]
 exact ⟨fun ⟨_,h⟩ => h,fun h => ⟨0,h⟩⟩
theorem codeS_scp (c e g):codeS F (.scp c) e g = codeS F c e g:=by
 refine lim_ext fun r => ?_
 rw[codeS_some]
 simp only[codeE]
 exact (codeS_some F).symm
theorem codeS_lab (e g):codeS F .lab e g = some (.nrm,e,g):=by
 refine lim_ext fun r => ?_
 rw[codeS_some]
 simp only[codeE]
 exact ⟨fun ⟨_,h⟩ => h,fun h => ⟨0,h⟩⟩
theorem codeS_blk (id c e g):codeS F (.blk id c) e g = match codeS F c e g with
  | some (.ext n,e,g) => some (if n = id then .nrm else .ext n,e,g)
  | r => r:=by
 refine lim_ext fun r => ?_
 rw[codeS_some]
 constructor
 ·rintro ⟨k,h⟩
  simp only[codeE] at h
  split at h
  ·rename_i ho
   rw[(codeS_some F).2 ⟨k,ho⟩]
   exact h
  ·rename_i hn
   rw[(codeS_some F).2 ⟨k,h⟩]
   obtain ⟨o,e',g'⟩:=r
   cases o with
   | nrm => rfl
   | ext n => exact absurd h (hn _ _ _)
   | ret => rfl
 ·intro h
  split at h
  ·rename_i ho
   obtain ⟨k1,h1⟩:=(codeS_some F).1 ho
   exact ⟨k1,by simp only[codeE];rw[h1];exact h⟩
  ·rename_i hn
   obtain ⟨k1,h1⟩:=(codeS_some F).1 h
   refine ⟨k1,?_⟩
   simp only[codeE]
   rw[h1]
   obtain ⟨o,e',g'⟩:=r
   cases o with
   | nrm => rfl
   | ext n => exact absurd h (hn _ _ _)
   | ret => rfl
theorem codeS_loop (c e g):codeS F (.loop c) e g = match codeS F c e g with
  | some (.nrm,e,g) => codeS F (.loop c) e g
  | r => r:=by
 refine lim_ext fun r => ?_
 rw[codeS_some]
 constructor
 ·rintro ⟨k,h⟩
  simp only[codeE] at h
  cases k with
  | zero => simp[iter] at h
  | succ k =>
    simp only[iter] at h
    split at h
    ·rename_i ho
     rw[(codeS_some F).2 ⟨k + 1,ho⟩]
     refine (codeS_some F).2 ⟨k + 1,?_⟩
     simp only[codeE]
     exact iter_mono (fun _ _ _ h => h) (Nat.le_succ k) h
    ·rename_i hn
     rw[(codeS_some F).2 ⟨k + 1,h⟩]
     obtain ⟨o,e',g'⟩:=r
     cases o with
     | nrm => exact absurd h (hn _ _)
     | ext n => rfl
     | ret => rfl
 ·intro h
  split at h
  ·rename_i ho
   obtain ⟨k1,h1⟩:=(codeS_some F).1 ho
   obtain ⟨k2,h2⟩:=(codeS_some F).1 h
   simp only[codeE] at h2
   refine ⟨max k1 k2 + 1,?_⟩
   simp only[codeE,iter]
   rw[codeE_mono (callE_mono F (by omega:k1≤max k1 k2 + 1)) (by omega:k1≤max k1 k2 + 1) h1]
   exact iter_mono (fun _ _ _ h => codeE_mono (callE_mono F (by omega:k2≤max k1 k2 + 1)) (by omega:k2≤max k1 k2 + 1) h) (by omega) h2
  ·rename_i hn
   obtain ⟨k1,h1⟩:=(codeS_some F).1 h
   refine ⟨k1 + 1,?_⟩
   simp only[codeE,iter]
   rw[codeE_mono (callE_mono F (by omega:k1≤k1 + 1)) (by omega:k1≤k1 + 1) h1]
   obtain ⟨o,e',g'⟩:=r
   cases o with
   | nrm => exact absurd h (hn _ _)
   | ext n => rfl
   | ret => rfl
theorem callS_eq (f asx g):callS F f asx g = match F f with
  | none => none
  | some fn => match arB fn asx with
    | false => none
    | true => match codeS F fn.body (argEnv asx) g with
      | some (.nrm,e,g) | some (.ret,e,g) => (resE fn.res e g).map (·,g)
      | _ => none:=by
 refine lim_ext fun r => ?_
 rw[callS_some]
 constructor
 ·rintro ⟨k,h⟩
  cases k with
  | zero => simp[callE] at h
  | succ k =>
    simp only[callE] at h
    split at h
    ·cases h
    ·rename_i fn hF
     rw[hF]
     simp only
     cases har:arB fn asx with
     | false => rw[har] at h;cases h
     | true =>
     rw[har] at h
     simp only at h ⊢
     split at h
     ·rename_i hc
      rw[(codeS_some F).2 ⟨k,hc⟩]
      exact h
     ·rename_i hc
      rw[(codeS_some F).2 ⟨k,hc⟩]
      exact h
     ·cases h
 ·intro h
  split at h
  ·cases h
  ·rename_i fn hF
   cases har:arB fn asx with
   | false => rw[har] at h;cases h
   | true =>
   rw[har] at h
   simp only at h
   split at h
   ·rename_i hc
    obtain ⟨k,hk⟩:=(codeS_some F).1 hc
    exact ⟨k + 1,by simp only[callE,hF,har];rw[hk];exact h⟩
   ·rename_i hc
    obtain ⟨k,hk⟩:=(codeS_some F).1 hc
    exact ⟨k + 1,by simp only[callE,hF,har];rw[hk];exact h⟩
   ·cases h
end Go.Ab
end
section
namespace Go.Ab
theorem upd_same {α:Type} (e:Nat→α) (d:Nat) (v:α):upd e d v d = v:=if_pos rfl
theorem upd_ne {α:Type} (e:Nat→α) {d k:Nat} (v:α) (h:k≠d):upd e d v k = e k:=if_neg h
theorem put_some (e:Env) (d:Nat) (v:AV):put e (some d) v = upd e d v:=rfl
theorem put_none (e:Env) (v:AV):put e none v = e:=rfl
theorem allow_no (base:Nat) (pre:List Nat) (id:Nat):allow false base pre id = true:=rfl
theorem allow_lt {base id:Nat} (pre:List Nat) (h:id < base):allow true base pre id = true:=by simp[allow,h]
section
variable (c:CS) (d:Bool) (b j:Nat) (dst:Option Nat) (os:List AOper) (e:Env)
noncomputable def bindR (r:Option (AV × G)):Option (Env × G):=
 match r with
 | some (v,g) => regE c d b j os (put e dst v) g
 | none => none
noncomputable def selR (w:Bool) (op:AOp) (pre:List Nat) (g:G):Option (Env × G):=
 if w then bindR c d b (j + 1) dst os e (opE c (allow d b pre) b (b + j) op e g) else regE c d b (j + 1) os (put e dst .undef) g
theorem selR_true (op pre g):selR c d b j dst os e true op pre g = bindR c d b (j + 1) dst os e (opE c (allow d b pre) b (b + j) op e g):=rfl
theorem regE_nil (g:G):regE c d b j [] e g = some (e,g):=rfl
theorem regE_cons (op:AOp) (grd:Option (Nat × Bool)) (pre:List Nat) (g:G):
  regE c d b j ({ dst,op,grd,pre } :: os) e g = selR c d b j dst os e (wanted e grd) op pre g:=by
 simp only[regE,selR,bindR]
 rfl
end
section
variable (F:Funs)
noncomputable def thenS (x:ACode) (r:Option (Out × Env × G)):Option (Out × Env × G):=
 match r with
 | some (.nrm,e,g) => codeS F x e g
 | r => r
noncomputable def selS (t f:ACode) (e:Env) (g:G) (v:AV):Option (Out × Env × G):=
 match v with
 | .b c => if c then codeS F t e g else codeS F f e g
 | _ => none
def normS (r:Option (Env × G)):Option (Out × Env × G):=
 match r with
 | some (e,g) => some (.nrm,e,g)
 | none => none
def blkS (id:Nat) (r:Option (Out × Env × G)):Option (Out × Env × G):=
 match r with
 | some (.ext n,e,g) => some (if n = id then .nrm else .ext n,e,g)
 | r => r
theorem cS_reg (draw ops e g):codeS F (.reg draw ops) e g = normS (regE (callS F) draw g.nx 0 ops e ⟨g.hp,g.nx + ops.length⟩):=codeS_reg F draw ops e g
theorem cS_seq (a b e g):codeS F (.seq a b) e g = thenS F b (codeS F a e g):=codeS_seq F a b e g
theorem cS_cond (c t f e g):codeS F (.cond c t f) e g = selS F t f e g (c.ev e):=codeS_cond F c t f e g
theorem cS_blk (id c e g):codeS F (.blk id c) e g = blkS id (codeS F c e g):=codeS_blk F id c e g
theorem cS_loop (c e g):codeS F (.loop c) e g = thenS F (.loop c) (codeS F c e g):=codeS_loop F c e g
end
def wantV (v:AV) (w:Bool):Bool:=match v with | .b x => x == w | _ => false
theorem wanted_none (e:Env):wanted e none = true:=rfl
theorem wanted_some (e:Env) (t:Nat) (w:Bool):wanted e (some (t,w)) = wantV (e t) w:=rfl
theorem wantV_1 (x:Bool):wantV (.b x) true = x:=by cases x<;>rfl
theorem wantV_0 (x:Bool):wantV (.b x) false = !x:=by cases x<;>rfl
theorem wantV_undef (w:Bool):wantV .undef w = false:=rfl
section
variable {c:CS} {al:Nat→Bool} {lo id:Nat} {e:Env} {g:G}
theorem ev_t (n:Nat):Opd.ev e (.t n) = e n:=rfl
theorem ev_c (v:AV):Opd.ev e (.c v) = v:=rfl
theorem o_mv (x:Opd):opE c al lo id (.mv x) e g = some (x.ev e,g):=rfl
theorem o_pick (x y z:Opd):opE c al lo id (.pick x y z) e g = vPick (x.ev e) (y.ev e) (z.ev e) g:=rfl
theorem vPick_t (a b:AV) (g:G):vPick (.b true) a b g = some (a,g):=rfl
theorem vPick_f (a b:AV) (g:G):vPick (.b false) a b g = some (b,g):=rfl
theorem o_new (z:List AV):opE c al lo id (.new z) e g = some (.mp id 0,⟨upd g.hp id (some (.cells z false)),g.nx⟩):=rfl
theorem o_box (x:Opd):opE c al lo id (.box x) e g = vBox id (x.ev e) g:=rfl
theorem vMap_some (v:AV):vMap g (some v) = some (v,g):=rfl
theorem vMapL_some (f) (v:List AV):vMapL f g (some v) = some (f v,g):=rfl
theorem o_build (z:List AV) (ps):opE c al lo id (.build z ps) e g = vMapL .agg g (fill e z ps):=rfl
theorem o_ld (agg) (x:Opd):opE c al lo id (.ld agg x) e g = vLd al agg (x.ev e) g:=rfl
theorem vLd_ptr (agg cs):vLd al agg (.ptr cs) g = vMap g (part cs 0 agg):=rfl
theorem o_st (n) (a x:Opd):opE c al lo id (.st n a x) e g = vSt al n (a.ev e) (x.ev e) g:=rfl
theorem o_nilck (x:Opd):opE c al lo id (.nilck x) e g = vNil (x.ev e) g:=rfl
theorem vNil_ptr (cs):vNil (.ptr cs) g = some (.ptr cs,g):=rfl
theorem vNil_mp (b o):vNil (.mp b o) g = some (.mp b o,g):=rfl
theorem vNil_fn (f a b):vNil (.fn f a b) g = some (.fn f a b,g):=rfl
theorem o_bin (op) (x y:Opd):opE c al lo id (.bin op x y) e g = vMap g (abin op (x.ev e) (y.ev e)):=rfl
theorem o_un (op) (x:Opd):opE c al lo id (.un op x) e g = vMap g (aun op (x.ev e)):=rfl
theorem o_mkfn (f a b):opE c al lo id (.mkfn f a b) e g = some (.fn f (a.map (·.ev e)) (b.map (·.ev e)),g):=rfl
theorem o_fa (off) (x:Opd):opE c al lo id (.fa off x) e g = vFa off (x.ev e) g:=rfl
theorem vFa_mp (off b o):vFa off (.mp b o) g = some (.mp b (o + off),g):=rfl
theorem o_fld (off agg) (x:Opd):opE c al lo id (.fld off agg x) e g = vFld off agg (x.ev e) g:=rfl
theorem vFld_agg (off agg cs):vFld off agg (.agg cs) g = vMap g (part cs off agg):=rfl
theorem o_ia (esz) (x i:Opd):opE c al lo id (.ia esz x i) e g = vIa esz (x.ev e) (i.ev e) g:=rfl
theorem vIa_sl {esz cs t k} {n:Nat} {z:Int} (h0:0≤z) (h:z < n):vIa esz (.sl cs n t) (.i k z) g = some (.ptr (cs.drop (z.toNat * esz)),g):=if_pos ⟨h0,h⟩
theorem vIa_ms {esz b off k} {n:Nat} {z:Int} (h0:0≤z) (h:z < n):vIa esz (.ms b off n) (.i k z) g = some (.mp b (off + z.toNat * esz),g):=if_pos ⟨h0,h⟩
theorem o_iaa (len esz) (x i:Opd):opE c al lo id (.iaa len esz x i) e g = vIaa len esz (x.ev e) (i.ev e) g:=rfl
theorem vIaa_ptr {esz cs k} {len:Nat} {z:Int} (h0:0≤z) (h:z < len):vIaa len esz (.ptr cs) (.i k z) g = some (.ptr (cs.drop (z.toNat * esz)),g):=if_pos ⟨h0,h⟩
theorem vIaa_mp {esz b off k} {len:Nat} {z:Int} (h0:0≤z) (h:z < len):vIaa len esz (.mp b off) (.i k z) g = some (.mp b (off + z.toNat * esz),g):=if_pos ⟨h0,h⟩
theorem o_len (x:Opd):opE c al lo id (.len x) e g = vLen (x.ev e) g:=rfl
theorem vLen_sl (cs n t):vLen (.sl cs n t) g = some (.i .i64 n,g):=rfl
theorem vLen_ms (b o n):vLen (.ms b o n) g = some (.i .i64 n,g):=rfl
theorem o_mx (x y:Opd):opE c al lo id (.mx x y) e g = vMx (x.ev e) (y.ev e) g:=rfl
theorem o_mn (x y:Opd):opE c al lo id (.mn x y) e g = vMn (x.ev e) (y.ev e) g:=rfl
theorem vMx_i (k l a b):vMx (.i k a) (.i l b) g = some (.i k (if b > a then b else a),g):=rfl
theorem vMn_i (k l a b):vMn (.i k a) (.i l b) g = some (.i k (if b < a then b else a),g):=rfl
theorem o_ext (i) (x:Opd):opE c al lo id (.ext i x) e g = vExt i (x.ev e) g:=rfl
theorem vExt_tup (i cs):vExt i (.tup cs) g = vMap g (cs[i]?):=rfl
theorem b_add (k x y):abin .add (.i k x) (.i k y) = some (.i k (k.wrap (x + y))):=by simp[abin,ibin]
theorem b_sub (k x y):abin .sub (.i k x) (.i k y) = some (.i k (k.wrap (x - y))):=by simp[abin,ibin]
theorem b_mul (k x y):abin .mul (.i k x) (.i k y) = some (.i k (k.wrap (x * y))):=by simp[abin,ibin]
theorem b_rem {k x y} (h:y≠0):abin .rem (.i k x) (.i k y) = some (.i k (x.tmod y)):=by simp[abin,ibin,h]
theorem b_lss (k x y):abin .lss (.i k x) (.i k y) = some (.b (decide (x < y))):=by simp[abin,ibin]
theorem b_leq (k x y):abin .leq (.i k x) (.i k y) = some (.b (decide (x≤y))):=by simp[abin,ibin]
theorem b_gtr (k x y):abin .gtr (.i k x) (.i k y) = some (.b (decide (x > y))):=by simp[abin,ibin]
theorem b_geq (k x y):abin .geq (.i k x) (.i k y) = some (.b (decide (x ≥ y))):=by simp[abin,ibin]
theorem b_eql (k x y):abin .eql (.i k x) (.i k y) = some (.b (x == y)):=by simp[abin,ibin]
theorem b_neq (k x y):abin .neq (.i k x) (.i k y) = some (.b (x != y)):=by simp[abin,ibin]
end
def selB (x:Bool) (o:Option Blk):Option Blk:=if x then o else none
theorem selB_true (o):selB true o = o:=rfl
theorem rd_S (g:G) (al:Nat→Bool) (id:Nat):rd g al id = selB (al id) (g.hp id):=rfl
section
variable {al:Nat→Bool} {g:G}
def ldS (agg:Option Nat) (off:Nat) (g:G):Option Blk→Option (AV × G)
 | some (.cells cs _) => vMap g (part cs off agg)
 | _ => none
theorem ldS_ok (agg off g cs ro):ldS agg off g (some (.cells cs ro)) = vMap g (part cs off agg):=rfl
theorem vLd_S (agg b off):vLd al agg (.mp b off) g = ldS agg off g (selB (al b) (g.hp b)):=rfl
def stD (n b off len m:Nat) (ones:Bool) (cs vs:List AV) (g:G):Option (AV × G):=
 if len = n∧off + n≤m∧ones = true then some (.undef,⟨upd g.hp b (some (.cells (splice cs off vs) false)),g.nx⟩) else none
theorem stD_ok {n b off len m:Nat} {cs vs g} (h:len = n∧off + n≤m):stD n b off len m true cs vs g = some (.undef,⟨upd g.hp b (some (.cells (splice cs off vs) false)),g.nx⟩):=if_pos ⟨h.1,h.2,rfl⟩
def stS (n b off:Nat) (vs:List AV) (g:G):Option Blk→Option (AV × G)
 | some (.cells cs false) => stD n b off vs.length cs.length (vs.all one) cs vs g
 | _ => none
theorem stS_ok (n b off vs g cs):stS n b off vs g (some (.cells cs false)) = stD n b off vs.length cs.length (vs.all one) cs vs g:=rfl
theorem vSt_S (n b off x):vSt al n (.mp b off) x g = stS n b off (cellsOf x) g (selB (al b) (g.hp b)):=by
 simp only[vSt]
 rw[rd_S]
 cases selB (al b) (g.hp b) with
 | none => rfl
 | some bl =>
   cases bl with
   | cells cs ro => cases ro<;>rfl
   | map es => rfl
   | tok l => rfl
def boxD (id:Nat) (cs:List AV) (g:G) (x:Bool):Option (AV × G):=if x then some (.mp id 0,⟨upd g.hp id (some (.cells cs false)),g.nx⟩) else none
theorem boxD_ok (id cs g):boxD id cs g true = some (.mp id 0,⟨upd g.hp id (some (.cells cs false)),g.nx⟩):=rfl
theorem vBox_S (id v):vBox id v g = boxD id (cellsOf v) g ((cellsOf v).all one):=rfl
def faD (off len:Nat) (cs:List AV) (g:G):Option (AV × G):=if off < len then some (.ptr (cs.drop off),g) else none
theorem faD_ok {off len:Nat} {cs g} (h:off < len):faD off len cs g = some (.ptr (cs.drop off),g):=if_pos h
theorem vFa_S (off cs):vFa off (.ptr cs) g = faD off cs.length cs g:=rfl
def fillD (e:Env) (cs:List AV) (off n len m:Nat) (ones:Bool) (vs:List AV) (ps:List (Nat × Nat × Opd)):Option (List AV):=
 if len = n∧off + n≤m∧ones = true then fill e (splice cs off vs) ps else none
theorem fillD_ok {e cs off n len m vs ps} (h:len = n∧off + n≤m):fillD e cs off n len m true vs ps = fill e (splice cs off vs) ps:=if_pos ⟨h.1,h.2,rfl⟩
theorem fill_S (e:Env) (cs:List AV) (off n x ps):fill e cs ((off,n,x) :: ps) = fillD e cs off n (cellsOf (x.ev e)).length cs.length ((cellsOf (x.ev e)).all one) (cellsOf (x.ev e)) ps:=by
 simp only[fill,fillD]
theorem fill_nil (e cs):fill e cs [] = some cs:=rfl
theorem cellsOf_agg (cs):cellsOf (.agg cs) = cs:=rfl
theorem cellsOf_i (k n):cellsOf (.i k n) = [.i k n]:=rfl
theorem cellsOf_b (x):cellsOf (.b x) = [.b x]:=rfl
theorem cellsOf_s (x):cellsOf (.s x) = [.s x]:=rfl
theorem cellsOf_ptr (x):cellsOf (.ptr x) = [.ptr x]:=rfl
theorem cellsOf_nilp:cellsOf .nilp = [.nilp]:=rfl
theorem cellsOf_sl (a b c):cellsOf (.sl a b c) = [.sl a b c]:=rfl
theorem cellsOf_mp (a b):cellsOf (.mp a b) = [.mp a b]:=rfl
theorem cellsOf_fn (a b c):cellsOf (.fn a b c) = [.fn a b c]:=rfl
theorem one_i (k n):one (.i k n) = true:=rfl
theorem one_b (x):one (.b x) = true:=rfl
theorem one_s (x):one (.s x) = true:=rfl
theorem one_ptr (x):one (.ptr x) = true:=rfl
theorem one_nilp:one .nilp = true:=rfl
theorem one_sl (a b c):one (.sl a b c) = true:=rfl
theorem one_mp (a b):one (.mp a b) = true:=rfl
theorem one_fn (a b c):one (.fn a b c) = true:=rfl
theorem splice_1 (cs off v):splice cs off [v] = cs.set off v:=rfl
theorem splice_2 (a b x y):splice [a,b] 0 [x,y] = [x,y]:=rfl
theorem splice_3 (a b c x y z):splice [a,b,c] 0 [x,y,z] = [x,y,z]:=rfl
theorem part_0 (c cs):part (c :: cs) 0 none = some c:=rfl
theorem part_1 (c d cs):part (c :: d :: cs) 1 none = some d:=rfl
theorem part_2 (a c d cs):part (a :: c :: d :: cs) 2 none = some d:=rfl
def andLe (lo:Nat) (al:Nat→Bool) (i:Nat):Bool:=decide (lo≤i) && al i
theorem o_stL {c:CS} {al:Nat→Bool} {lo id:Nat} {e:Env} {g:G} (n a x):opE c al lo id (.stL n a x) e g = vSt (andLe lo al) n (a.ev e) (x.ev e) g:=rfl
theorem andLe_ok {lo:Nat} {al:Nat→Bool} {i:Nat} (h:lo≤i):andLe lo al i = al i:=by simp[andLe,h]
theorem allow_hd {base k id:Nat} (l:List Nat) (h:id = base + k):allow true base (k :: l) id = true:=by subst h;simp[allow]
theorem allow_h2 {base k k' id:Nat} (l:List Nat) (h:id = base + k):allow true base (k' :: k :: l) id = true:=by subst h;simp[allow]
theorem part_3 (a b c d:AV) (l:List AV):part (a :: b :: c :: d :: l) 3 none = some d:=rfl
theorem part_4 (a b c d e:AV) (l:List AV):part (a :: b :: c :: d :: e :: l) 4 none = some e:=rfl
theorem part_5 (a b c d e f:AV) (l:List AV):part (a :: b :: c :: d :: e :: f :: l) 5 none = some f:=rfl
theorem cellsOf_ms (a b c):cellsOf (.ms a b c) = [.ms a b c]:=rfl
theorem one_ms (a b c):one (.ms a b c) = true:=rfl
theorem drop_0 (l:List AV):l.drop 0 = l:=rfl
theorem g0_nx:g0.nx = 0:=rfl
theorem g0_hp:g0.hp = fun _ => none:=rfl
theorem o_bsl {c:CS} {al:Nat→Bool} {lo id:Nat} {e:Env} {g:G} (imm n z ps):opE c al lo id (.bsl imm n z ps) e g = vBsl id imm n (fill e z ps) g:=rfl
theorem vBsl_t (id n cs) (g:G):vBsl id true n (some cs) g = vMapL (fun cs => .sl cs n .rig) g (frzL (fun _ => none) depth cs):=rfl
theorem vBsl_f (id n cs) (g:G):vBsl id false n (some cs) g = some (.ms id 0 n,⟨upd g.hp id (some (.cells cs false)),g.nx⟩):=rfl
theorem o_app {c:CS} {al:Nat→Bool} {lo id:Nat} {e:Env} {g:G} (esz by' x y):opE c al lo id (.app esz by' x y) e g = vApp al id esz by' (x.ev e) (y.ev e) g:=rfl
def appD (n m esz bytes lc ld:Nat) (r:Option (AV × G)):Option (AV × G):=if (n + m) * bytes≤2 ^ 46∧n + m≤2 ^ 62∧lc = n * esz∧ld = m * esz then r else none
theorem appD_ok {n m esz bytes lc ld r} (h:(n + m) * bytes≤2 ^ 46∧n + m≤2 ^ 62∧lc = n * esz∧ld = m * esz):appD n m esz bytes lc ld r = r:=if_pos h
theorem vApp_rig {id esz bytes cs n ds m t2} (h:m≠0):vApp al id esz bytes (.sl cs n .rig) (.sl ds m t2) g = appD n m esz bytes cs.length ds.length (some (.sl (cs ++ ds) (n + m) (.own id esz),⟨upd g.hp id (some (.tok true)),g.nx⟩)):=by
 simp only[vApp,vSrc,if_neg h];rfl
theorem vApp_rig0 {id esz bytes cs n ds t2}:vApp al id esz bytes (.sl cs n .rig) (.sl ds 0 t2) g = appD n 0 esz bytes cs.length ds.length (some (.sl cs n .rig,g)):=by
 simp only[vApp,vSrc,if_true];rfl
def appK (id esz tk n:Nat) (cs:List AV) (g:G):Option Blk→Option (AV × G)
 | some (.tok true) => some (.sl cs n (.own id esz),⟨upd (upd g.hp tk (some (.tok false))) id (some (.tok true)),g.nx⟩)
 | _ => none
theorem appK_ok (id esz tk n cs g):appK id esz tk n cs g (some (.tok true)) = some (.sl cs n (.own id esz),⟨upd (upd g.hp tk (some (.tok false))) id (some (.tok true)),g.nx⟩):=rfl
theorem vApp_own {id esz bytes cs n tk ds m t2}:vApp al id esz bytes (.sl cs n (.own tk esz)) (.sl ds m t2) g = appD n m esz bytes cs.length ds.length (appK id esz tk (n + m) (cs ++ ds) g (selB (al tk) (g.hp tk))):=by
 simp only[vApp,vSrc,rd_S]
 unfold appD appK
 split
 ·cases selB (al tk) (g.hp tk) with
  | none => rfl
  | some b =>
    cases b with
    | tok x => cases x<;>simp
    | cells _ _ => rfl
    | map _ => rfl
 ·rfl
theorem o_eqn {c:CS} {al:Nat→Bool} {lo id:Nat} {e:Env} {g:G} (neg x y):opE c al lo id (.eqn neg x y) e g = vMap g (negb neg (aeqn (x.ev e) (y.ev e))):=rfl
theorem o_eqb {c:CS} {al:Nat→Bool} {lo id:Nat} {e:Env} {g:G} (neg x y):opE c al lo id (.eqb neg x y) e g = vMap g (negb neg (aeqb (x.ev e) (y.ev e))):=rfl
theorem o_eqa {c:CS} {al:Nat→Bool} {lo id:Nat} {e:Env} {g:G} (neg ks x y):opE c al lo id (.eqa neg ks x y) e g = vMap g (negb neg (aeqa ks (x.ev e) (y.ev e))):=rfl
theorem aeqn_pn (cs):aeqn (.ptr cs) .nilp = some false:=rfl
theorem aeqn_np (cs):aeqn .nilp (.ptr cs) = some false:=rfl
theorem aeqn_mn (a b):aeqn (.mp a b) .nilp = some false:=rfl
theorem aeqn_nn:aeqn .nilp .nilp = some true:=rfl
theorem aeqb_bb (x y):aeqb (.b x) (.b y) = some (x == y):=rfl
theorem negb_t (x):negb true (some x) = some (.b (!x)):=rfl
theorem negb_f (x):negb false (some x) = some (.b x):=rfl
theorem aun_not (x):aun .not (.b x) = some (.b !x):=rfl
end
end Go.Ab
end
section
set_option linter.unusedVariables false
namespace Go.Ab
section
variable (F:Funs)
def W (c:ACode) (e:Env) (g:G) (Q:Out→Env→G→Prop):Prop:=∃ o e' g',codeS F c e g = some (o,e',g')∧Q o e' g'
def WR (d:Bool) (b j:Nat) (ops:List AOper) (e:Env) (g:G) (K:Env→G→Prop):Prop:=∃ e' g',regE (callS F) d b j ops e g = some (e',g')∧K e' g'
def thenQ (b:ACode) (Q:Out→Env→G→Prop):Out→Env→G→Prop
 | .nrm,e,g => W F b e g Q
 | o,e,g => Q o e g
def selW (t f:ACode) (e:Env) (g:G) (Q:Out→Env→G→Prop):AV→Prop
 | .b true => W F t e g Q
 | .b false => W F f e g Q
 | _ => False
def blkQ (id:Nat) (Q:Out→Env→G→Prop):Out→Env→G→Prop
 | .ext n,e,g => if n = id then Q .nrm e g else Q (.ext n) e g
 | o,e,g => Q o e g
def nrmQ (Q:Out→Env→G→Prop) (e:Env) (g:G):Prop:=Q .nrm e g
def bindO (d:Bool) (b j:Nat) (dst:Option Nat) (os:List AOper) (e:Env) (K:Env→G→Prop):Option (AV × G)→Prop
 | some (v,g) => WR F d b j os (put e dst v) g K
 | none => False
def selO (d:Bool) (b j:Nat) (dst:Option Nat) (os:List AOper) (e:Env) (op:AOp) (pre:List Nat) (g:G) (K:Env→G→Prop) (w:Bool):Prop:=
 if w then bindO F d b (j + 1) dst os e K (opE (callS F) (allow d b pre) b (b + j) op e g) else WR F d b (j + 1) os (put e dst .undef) g K
end
section
variable {F:Funs}
theorem W_skip {e g Q}:W F .skip e g Q = Q .nrm e g:=by
 unfold W;rw[codeS_skip];apply propext
 exact ⟨fun ⟨o,e',g',h,q⟩ => by cases h;exact q,fun q => ⟨_,_,_,rfl,q⟩⟩
theorem W_ext {id e g Q}:W F (.ext id) e g Q = Q (.ext id) e g:=by
 unfold W;rw[codeS_ext];apply propext
 exact ⟨fun ⟨o,e',g',h,q⟩ => by cases h;exact q,fun q => ⟨_,_,_,rfl,q⟩⟩
theorem W_ret {e g Q}:W F .ret e g Q = Q .ret e g:=by
 unfold W;rw[codeS_ret];apply propext
 exact ⟨fun ⟨o,e',g',h,q⟩ => by cases h;exact q,fun q => ⟨_,_,_,rfl,q⟩⟩
theorem W_seq {a b e g Q}:W F (.seq a b) e g Q = W F a e g (thenQ F b Q):=by
 unfold W;rw[cS_seq];apply propext
 constructor
 ·intro ⟨o,e',g',h,q⟩
  cases hc:codeS F a e g with
  | none => rw[hc] at h;cases h
  | some r =>
    obtain ⟨o1,e1,g1⟩:=r
    rw[hc] at h
    refine ⟨o1,e1,g1,rfl,?_⟩
    cases o1 with
    | nrm => exact ⟨o,e',g',h,q⟩
    | ext n => cases h;exact q
    | ret => cases h;exact q
 ·intro ⟨o,e',g',h,q⟩
  rw[h]
  cases o with
  | nrm => exact q
  | ext n => exact ⟨_,_,_,rfl,q⟩
  | ret => exact ⟨_,_,_,rfl,q⟩
theorem thenQ_nrm {b Q e g}:thenQ F b Q .nrm e g = W F b e g Q:=rfl
theorem thenQ_ext {b Q n e g}:thenQ F b Q (.ext n) e g = Q (.ext n) e g:=rfl
theorem thenQ_ret {b Q e g}:thenQ F b Q .ret e g = Q .ret e g:=rfl
theorem W_cond {c t f e g Q}:W F (.cond c t f) e g Q = selW F t f e g Q (c.ev e):=by
 unfold W;rw[cS_cond];apply propext
 generalize c.ev e = v
 cases v<;>simp only[selS,selW]<;>try (constructor<;>(intro h;first | exact h.elim | (obtain ⟨_,_,_,h,_⟩:=h;cases h)))
 rename_i x
 cases x<;>simp[W]
theorem selW_true {t f e g Q}:selW F t f e g Q (.b true) = W F t e g Q:=rfl
theorem selW_false {t f e g Q}:selW F t f e g Q (.b false) = W F f e g Q:=rfl
theorem W_scp {c e g Q}:W F (.scp c) e g Q = W F c e g Q:=by unfold W;rw[codeS_scp]
theorem W_lab {e g Q}:W F .lab e g Q = Q .nrm e g:=by
 unfold W;rw[codeS_lab];apply propext
 exact ⟨fun ⟨o,e',g',h,q⟩ => by cases h;exact q,fun q => ⟨_,_,_,rfl,q⟩⟩
theorem W_blk {id c e g Q}:W F (.blk id c) e g Q = W F c e g (blkQ id Q):=by
 unfold W;rw[cS_blk];apply propext
 constructor
 ·intro ⟨o,e',g',h,q⟩
  cases hc:codeS F c e g with
  | none => rw[hc] at h;cases h
  | some r =>
    obtain ⟨o1,e1,g1⟩:=r
    rw[hc] at h
    refine ⟨o1,e1,g1,rfl,?_⟩
    cases o1 with
    | nrm => cases h;exact q
    | ext n =>
      cases h
      show if n = id then _ else _
      split
      ·rename_i hn;rw[if_pos hn] at q;exact q
      ·rename_i hn;rw[if_neg hn] at q;exact q
    | ret => cases h;exact q
 ·intro ⟨o,e',g',h,q⟩
  rw[h]
  cases o with
  | nrm => exact ⟨_,_,_,rfl,q⟩
  | ext n =>
    refine ⟨_,_,_,rfl,?_⟩
    have q:if n = id then Q .nrm e' g' else Q (.ext n) e' g':=q
    split
    ·rename_i hn;rw[if_pos hn] at q;exact q
    ·rename_i hn;rw[if_neg hn] at q;exact q
  | ret => exact ⟨_,_,_,rfl,q⟩
theorem blkQ_nrm {id Q e g}:blkQ id Q .nrm e g = Q .nrm e g:=rfl
theorem blkQ_ret {id Q e g}:blkQ id Q .ret e g = Q .ret e g:=rfl
theorem blkQ_same {id Q e g}:blkQ id Q (.ext id) e g = Q .nrm e g:=if_pos rfl
theorem blkQ_ne {id n Q e g} (h:n≠id):blkQ id Q (.ext n) e g = Q (.ext n) e g:=if_neg h
theorem W_reg {d ops e g Q}:W F (.reg d ops) e g Q = WR F d g.nx 0 ops e ⟨g.hp,g.nx + ops.length⟩ (nrmQ Q):=by
 unfold W WR;rw[cS_reg];apply propext
 constructor
 ·intro ⟨o,e',g',h,q⟩
  cases hc:regE (callS F) d g.nx 0 ops e ⟨g.hp,g.nx + ops.length⟩ with
  | none => rw[hc] at h;cases h
  | some r =>
    rw[hc] at h
    cases h
    exact ⟨_,_,rfl,q⟩
 ·intro ⟨e',g',h,q⟩
  rw[h]
  exact ⟨.nrm,e',g',rfl,q⟩
theorem nrmQ_is {Q e g}:nrmQ Q e g = Q .nrm e g:=rfl
theorem WR_nil {d b j e g K}:WR F d b j [] e g K = K e g:=by
 unfold WR;apply propext
 simp only[regE_nil]
 exact ⟨fun ⟨e',g',h,q⟩ => by cases h;exact q,fun q => ⟨_,_,rfl,q⟩⟩
theorem WR_cons {d b j dst op grd pre os e g K}:WR F d b j ({ dst,op,grd,pre } :: os) e g K = selO F d b j dst os e op pre g K (wanted e grd):=by
 unfold WR;rw[regE_cons]
 generalize wanted e grd = w
 cases w
 ·rfl
 ·rw[selR_true]
  show _ = bindO _ _ _ _ _ _ _ _ _
  cases opE (callS F) (allow d b pre) b (b + j) op e g with
  | none =>
    apply propext
    constructor
    ·intro ⟨_,_,h,_⟩;cases h
    ·intro h;exact False.elim h
  | some r => rfl
theorem selO_true {d b j dst os e op pre g K}:selO F d b j dst os e op pre g K true = bindO F d b (j + 1) dst os e K (opE (callS F) (allow d b pre) b (b + j) op e g):=rfl
theorem selO_false {d b j dst os e op pre g K}:selO F d b j dst os e op pre g K false = WR F d b (j + 1) os (put e dst .undef) g K:=rfl
theorem bindO_some {d b j dst os e K v g}:bindO F d b j dst os e K (some (v,g)) = WR F d b j os (put e dst v) g K:=rfl
theorem W_mono {c e g} {Q Q':Out→Env→G→Prop} (h:W F c e g Q) (hq:∀ o e g,Q o e g→Q' o e g):W F c e g Q':=by
 obtain ⟨o,e',g',h1,h2⟩:=h;exact ⟨o,e',g',h1,hq _ _ _ h2⟩
def loopQ (I:Nat→Env→G→Prop) (m:Nat) (Q:Out→Env→G→Prop):Out→Env→G→Prop
 | .nrm,e,g => ∃ m',m' < m∧I m' e g
 | o,e,g => Q o e g
theorem loopQ_nrm {I m Q e g}:loopQ I m Q .nrm e g = ∃ m',m' < m∧I m' e g:=rfl
theorem loopQ_ext {I m Q n e g}:loopQ I m Q (.ext n) e g = Q (.ext n) e g:=rfl
theorem loopQ_ret {I m Q e g}:loopQ I m Q .ret e g = Q .ret e g:=rfl
theorem W_loop {c e g Q} (I:Nat→Env→G→Prop) (n:Nat) (h0:I n e g) (h:∀ m e g,I m e g→W F c e g (loopQ I m Q)):W F (.loop c) e g Q:=by
 have key:∀ m e g,I m e g→W F (.loop c) e g Q:=by
  intro m
  induction m using Nat.strongRecOn with
  | _ m ih =>
    intro e g hI
    obtain ⟨o,e1,g1,h1,h2⟩:=h m e g hI
    unfold W
    rw[cS_loop,h1]
    cases o with
    | nrm =>
      obtain ⟨m',hm,hI'⟩:=h2
      exact ih m' hm e1 g1 hI'
    | ext n => exact ⟨_,_,_,rfl,h2⟩
    | ret => exact ⟨_,_,_,rfl,h2⟩
 exact key n e g h0
noncomputable def pureS (F:Funs) (f:Nat) (asx:List AV):Option AV:=match callS F f asx g0 with
 | some (v,g) => frz g.hp depth v
 | none => none
noncomputable def vPure (F:Funs) (al:Nat→Bool) (f:AV) (args:List AV) (g:G):Option (AV × G):=vCall (callS F) al 0 .pure f args g
theorem o_pure {al lo id e g} (f:Opd) (asx:List Opd):opE (callS F) al lo id (.call .pure f asx) e g = vPure F al (f.ev e) (asx.map (·.ev e)) g:=rfl
def retQ (rs:List ARes) (v:AV):Out→Env→G→Prop
 | .ext _,_,_ => False
 | _,e,g => (match resE rs e g with | some v0 => frz g.hp depth v0 | none => none) = some v
theorem retQ_nrm {rs v e g}:retQ rs v .nrm e g = ((match resE rs e g with | some v0 => frz g.hp depth v0 | none => none) = some v):=rfl
theorem retQ_ret {rs v e g}:retQ rs v .ret e g = ((match resE rs e g with | some v0 => frz g.hp depth v0 | none => none) = some v):=rfl
theorem pure_of {f:Nat} {fn:AFun} {asx:List AV} {v:AV} (hF:F f = some fn) (h:W F fn.body (argEnv asx) g0 (retQ fn.res v)) (ha:arB fn asx = true:=by rfl):pureS F f asx = some v:=by
 obtain ⟨o,e,g,h1,h2⟩:=h
 unfold pureS
 rw[callS_eq,hF]
 simp only[ha,h1]
 cases o with
 | ext n => exact h2.elim
 | nrm =>
   have h2:(match resE fn.res e g with | some v0 => frz g.hp depth v0 | none => none) = some v:=h2
   cases hr:resE fn.res e g with
   | none => rw[hr] at h2;cases h2
   | some v0 => rw[hr] at h2;simp only[hr,Option.map_some];exact h2
 | ret =>
   have h2:(match resE fn.res e g with | some v0 => frz g.hp depth v0 | none => none) = some v:=h2
   cases hr:resE fn.res e g with
   | none => rw[hr] at h2;cases h2
   | some v0 => rw[hr] at h2;simp only[hr,Option.map_some];exact h2
end
theorem argEnv_0 (a l):argEnv (a :: l) 0 = a:=rfl
theorem argEnv_1 (a b l):argEnv (a :: b :: l) 1 = b:=rfl
theorem argEnv_2 (a b c l):argEnv (a :: b :: c :: l) 2 = c:=rfl
theorem argEnv_3 (a b c d l):argEnv (a :: b :: c :: d :: l) 3 = d:=rfl
theorem argEnv_4 (a b c d e l):argEnv (a :: b :: c :: d :: e :: l) 4 = e:=rfl
theorem argEnv_5 (a b c d e f l):argEnv (a :: b :: c :: d :: e :: f :: l) 5 = f:=rfl
theorem res_1 (n e g):resE [.t n] e g = some (e n):=rfl
theorem res_2 (n m e g):resE [.t n,.t m] e g = some (.tup [e n,e m]):=rfl
theorem frz_flat {hp} {d:Nat} {v:AV} (h:flat v = true):frz hp (d + 1) v = some v:=by cases v<;>first | (cases h;done) | simp only[frz]
theorem frzL_flat {hp} {d:Nat}:∀ {cs:List AV},cs.all flat = true→frzL hp (d + 1) cs = some cs
 | [],_ => by simp only[frzL]
 | c :: cs,h => by
   simp only[List.all_cons,Bool.and_eq_true] at h
   simp only[frzL,frz_flat h.1,frzL_flat h.2]
theorem frzL_nil (hp d):frzL hp d [] = some []:=by simp only[frzL]
def consO (c:Option AV) (cs:Option (List AV)):Option (List AV):=match c,cs with
 | some c,some cs => some (c :: cs)
 | _,_ => none
theorem consO_ok (c cs):consO (some c) (some cs) = some (c :: cs):=rfl
theorem frzL_cons (hp d c cs):frzL hp d (c :: cs) = consO (frz hp d c) (frzL hp d cs):=by
 simp only[frzL]
 cases frz hp d c<;>cases frzL hp d cs<;>rfl
theorem frz_d_i (hp k n):frz hp depth (.i k n) = some (.i k n):=by show frz hp (8 + 1) _ = _;simp only[frz]
theorem frz_d_b (hp x):frz hp depth (.b x) = some (.b x):=by show frz hp (8 + 1) _ = _;simp only[frz]
theorem frz_d_s (hp x):frz hp depth (.s x) = some (.s x):=by show frz hp (8 + 1) _ = _;simp only[frz]
theorem frz_d_nilp (hp):frz hp depth .nilp = some .nilp:=by show frz hp (8 + 1) _ = _;simp only[frz]
theorem frz_d_ptr (hp cs):frz hp depth (.ptr cs) = some (.ptr cs):=by show frz hp (8 + 1) _ = _;simp only[frz]
theorem frz_d_sl (hp cs n t):frz hp depth (.sl cs n t) = some (.sl cs n .non):=by show frz hp (8 + 1) _ = _;simp only[frz]
theorem frz_d_fn0 (hp f):frz hp depth (.fn f [] []) = some (.fn f [] []):=by show frz hp (8 + 1) _ = _;simp only[frz,frzL]
noncomputable def frzB (hp:Nat→Option Blk) (off:Nat) (cs:List AV) (x:Bool):Option (List AV):=if x then some (cs.drop off) else frzL hp 8 (cs.drop off)
noncomputable def frzP (hp:Nat→Option Blk) (off:Nat) (f:List AV→AV):Option Blk→Option AV
 | some (.cells cs _) => (frzB hp off cs (cs.all flat)).map f
 | _ => none
theorem frzB_eq (hp:Nat→Option Blk) (off:Nat) (cs:List AV):frzB hp off cs (cs.all flat) = frzL hp 8 (cs.drop off):=by
 unfold frzB
 split
 ·rename_i hf
  refine (frzL_flat ?_).symm
  rw[List.all_eq_true] at hf ⊢
  exact fun x hx => hf x (List.mem_of_mem_drop hx)
 ·rfl
theorem frz_P (hp:Nat→Option Blk) (id off:Nat):frz hp depth (.mp id off) = frzP hp off .ptr (hp id):=by
 show frz hp (8 + 1) _ = _
 simp only[frz]
 unfold frzP
 simp only[frzB_eq]
 cases hp id with
 | none => rfl
 | some b => cases b<;>rfl
theorem frz_Q (hp:Nat→Option Blk) (id off n:Nat):frz hp depth (.ms id off n) = frzP hp off (fun cs => .sl cs n .non) (hp id):=by
 show frz hp (8 + 1) _ = _
 simp only[frz]
 unfold frzP
 simp only[frzB_eq]
 cases hp id with
 | none => rfl
 | some b => cases b<;>rfl
theorem frzP_cells (hp off f cs ro):frzP hp off f (some (.cells cs ro)) = (frzB hp off cs (cs.all flat)).map f:=rfl
theorem frzB_true (hp off cs):frzB hp off cs true = some (cs.drop off):=rfl
theorem map_some' (f:List AV→AV) (cs:List AV):(some cs).map f = some (f cs):=rfl
noncomputable def purD (g:G) (vs:List Nat):Option AV→Option (AV × G)
 | some v => if flat v || vs.isEmpty then some (v,g) else none
 | none => none
def purE (g:G) (v:AV) (x:Bool):Option (AV × G):=if x then some (v,g) else none
theorem purD_some (g vs v):purD g vs (some v) = purE g v (flat v || vs.isEmpty):=rfl
theorem purE_true (g v):purE g v true = some (v,g):=rfl
noncomputable def purS (F:Funs) (f:Nat) (g:G) (vs:List Nat):Option (List AV)→Option (AV × G)
 | some bs => purD g vs (pureS F f bs)
 | none => none
theorem purS_some (F f g vs bs):purS F f g vs (some bs) = purD g vs (pureS F f bs):=rfl
theorem vPure_S (F:Funs) (al:Nat→Bool) (fid:Nat) (fst args caps:List AV) (g:G):
  vPure F al (.fn fid fst caps) args g = purS F fid g ((fst ++ args ++ caps).flatMap (vis (rd g al) depth)) (frzL (rd g al) depth (fst ++ args ++ caps)):=by
 unfold vPure vCall
 simp only
 cases frzL (rd g al) depth (fst ++ args ++ caps) with
 | none => rfl
 | some bs =>
   rw[purS_some]
   unfold pureS g0
   simp only
   cases callS F fid bs ⟨fun _ => none,0⟩ with
   | none => rfl
   | some r =>
     obtain ⟨v,g'⟩:=r
     simp only
     cases frz g'.hp depth v with
     | none => rfl
     | some v' => rfl
theorem flat_i (k n):flat (.i k n) = true:=rfl
theorem flat_b (x):flat (.b x) = true:=rfl
theorem flat_s (x):flat (.s x) = true:=rfl
theorem flat_nilp:flat .nilp = true:=rfl
theorem flat_ptr (x):flat (.ptr x) = false:=rfl
theorem flat_sl (a b c):flat (.sl a b c) = false:=rfl
theorem flat_agg (a):flat (.agg a) = false:=rfl
theorem flat_tup (a):flat (.tup a) = false:=rfl
theorem vis_i (hp k n):vis hp depth (.i k n) = []:=by show vis hp (8 + 1) _ = _;simp only[vis]
theorem vis_b (hp x):vis hp depth (.b x) = []:=by show vis hp (8 + 1) _ = _;simp only[vis]
theorem vis_s (hp x):vis hp depth (.s x) = []:=by show vis hp (8 + 1) _ = _;simp only[vis]
theorem vis_nilp (hp):vis hp depth .nilp = []:=by show vis hp (8 + 1) _ = _;simp only[vis]
theorem vis_ptr (hp x):vis hp depth (.ptr x) = []:=by show vis hp (8 + 1) _ = _;simp only[vis]
theorem vis_sl (hp a b c):vis hp depth (.sl a b c) = []:=by show vis hp (8 + 1) _ = _;simp only[vis]
theorem vis_fn0 (hp f):vis hp depth (.fn f [] []) = []:=by show vis hp (8 + 1) _ = _;simp only[vis,List.flatMap_nil,List.append_nil]
theorem isEmpty_nil:([]:List Nat).isEmpty = true:=rfl
def midQ (M:Env→G→Prop):Out→Env→G→Prop
 | .nrm,e,g => M e g
 | _,_,_ => False
theorem midQ_nrm {M e g}:midQ M .nrm e g = M e g:=rfl
theorem frz_b_inv {hp:Nat→Option Blk} {k:Nat} {v:AV} {b:Bool} (h:frz hp (k + 1) v = some (.b b)):v = .b b:=by
 cases v with
 | b x => simp only[frz] at h;cases h;rfl
 | agg cs => simp only[frz] at h;cases hf:frzL hp k cs<;>rw[hf] at h<;>cases h
 | tup cs => simp only[frz] at h;cases hf:frzL hp k cs<;>rw[hf] at h<;>cases h
 | mp id off =>
   simp only[frz] at h
   split at h
   ·cases hf:frzL hp k (List.drop off _)<;>rw[hf] at h<;>cases h
   ·cases h
 | ms id off n =>
   simp only[frz] at h
   split at h
   ·cases hf:frzL hp k (List.drop off _)<;>rw[hf] at h<;>cases h
   ·cases h
 | fn f asx bs => simp only[frz] at h;split at h<;>cases h
 | ifc t w => simp only[frz] at h;cases hf:frz hp k w<;>rw[hf] at h<;>cases h
 | _ => simp only[frz] at h;cases h
theorem pureS_bool {F:Funs} {f:Nat} {asx:List AV} {b:Bool} (h:pureS F f asx = some (.b b)):∃ k g',callE F k f asx g0 = some (.b b,g'):=by
 unfold pureS at h
 split at h
 ·rename_i v g hc
  have:=frz_b_inv (k:=8) h
  subst this
  obtain ⟨k,hk⟩:=(callS_some F).1 hc
  exact ⟨k,g,hk⟩
 ·cases h
def retB (rs:List ARes) (P:Bool→Prop):Out→Env→G→Prop
 | .ext _,_,_ => False
 | _,e,g => ∃ b,resE rs e g = some (.b b)∧P b
theorem retB_nrm {rs P e g}:retB rs P .nrm e g = (∃ b,resE rs e g = some (.b b)∧P b):=rfl
theorem retB_ret {rs P e g}:retB rs P .ret e g = (∃ b,resE rs e g = some (.b b)∧P b):=rfl
theorem blk_cut {F:Funs} {c rest:ACode} {id:Nat} {e:Env} {g:G} {Q:Out→Env→G→Prop} (M:Env→G→Prop) (h1:W F c e g (blkQ id (midQ M))) (h2:∀ e g,M e g→W F rest e g Q):W F c e g (blkQ id (thenQ F rest Q)):=by
 refine W_mono h1 fun o e g h => ?_
 cases o with
 | nrm => exact h2 e g h
 | ret => exact h.elim
 | ext n =>
   have h:if n = id then midQ M .nrm e g else midQ M (.ext n) e g:=h
   show if n = id then thenQ F rest Q .nrm e g else thenQ F rest Q (.ext n) e g
   by_cases hn:n = id
   ·rw[if_pos hn] at h ⊢;exact h2 e g h
   ·rw[if_neg hn] at h;exact h.elim
def midR (Q:Out→Env→G→Prop) (M:Env→G→Prop):Out→Env→G→Prop
 | .nrm,e,g => M e g
 | .ret,e,g => Q .ret e g
 | .ext _,_,_ => False
theorem midR_nrm {Q M e g}:midR Q M .nrm e g = M e g:=rfl
theorem midR_ret {Q M e g}:midR Q M .ret e g = Q .ret e g:=rfl
theorem blk_cutR {F:Funs} {c rest:ACode} {id:Nat} {e:Env} {g:G} {Q:Out→Env→G→Prop} (M:Env→G→Prop) (h1:W F c e g (blkQ id (midR Q M))) (h2:∀ e g,M e g→W F rest e g Q):W F c e g (blkQ id (thenQ F rest Q)):=by
 refine W_mono h1 fun o e g h => ?_
 cases o with
 | nrm => exact h2 e g h
 | ret => exact h
 | ext n =>
   have h:if n = id then midR Q M .nrm e g else midR Q M (.ext n) e g:=h
   show if n = id then thenQ F rest Q .nrm e g else thenQ F rest Q (.ext n) e g
   by_cases hn:n = id
   ·rw[if_pos hn] at h ⊢;exact h2 e g h
   ·rw[if_neg hn] at h;exact h.elim
theorem wp:type_of% (And.intro (And.intro (And.intro (And.intro (And.intro (And.intro (And.intro @W_skip (And.intro @W_ext @W_ret)) (And.intro (And.intro @W_seq @thenQ_nrm) (And.intro @thenQ_ext @thenQ_ret))) (And.intro (And.intro (And.intro @W_cond @selW_true) (And.intro @selW_false @W_blk)) (And.intro (And.intro @blkQ_nrm @blkQ_ret) (And.intro @blkQ_same @blkQ_ne)))) (And.intro (And.intro (And.intro @W_reg (And.intro @nrmQ_is @WR_nil)) (And.intro (And.intro @WR_cons @selO_true) (And.intro @selO_false @bindO_some))) (And.intro (And.intro (And.intro @loopQ_nrm @loopQ_ext) (And.intro @loopQ_ret @wanted_none)) (And.intro (And.intro @wanted_some @wantV_1) (And.intro @wantV_0 @wantV_undef))))) (And.intro (And.intro (And.intro (And.intro @ev_t (And.intro @ev_c @put_some)) (And.intro (And.intro @put_none @upd_same) (And.intro @upd_ne @List.length_cons.{0}))) (And.intro (And.intro (And.intro @List.length_nil.{0} @List.map_cons.{0,0}) (And.intro @List.map_nil.{0,0} @allow_no)) (And.intro (And.intro @allow_lt @argEnv_0) (And.intro @argEnv_1 @argEnv_2)))) (And.intro (And.intro (And.intro (And.intro @argEnv_3 @argEnv_4) (And.intro @argEnv_5 @res_1)) (And.intro (And.intro @res_2 @retQ_nrm) (And.intro @retQ_ret @o_mv))) (And.intro (And.intro (And.intro @o_pick @vPick_t) (And.intro @vPick_f @o_new)) (And.intro (And.intro @o_box @vBox_S) (And.intro @boxD_ok @vMap_some)))))) (And.intro (And.intro (And.intro (And.intro (And.intro @vMapL_some (And.intro @o_build @o_ld)) (And.intro (And.intro @vLd_ptr @vLd_S) (And.intro @ldS_ok @selB_true))) (And.intro (And.intro (And.intro @o_st @vSt_S) (And.intro @stS_ok @stD_ok)) (And.intro (And.intro @o_nilck @vNil_ptr) (And.intro @vNil_mp @vNil_fn)))) (And.intro (And.intro (And.intro (And.intro @o_bin @o_un) (And.intro @o_mkfn @o_fa)) (And.intro (And.intro @vFa_mp @vFa_S) (And.intro @faD_ok @o_fld))) (And.intro (And.intro (And.intro @vFld_agg @o_ia) (And.intro @vIa_sl @vIa_ms)) (And.intro (And.intro @o_iaa @vIaa_ptr) (And.intro @vIaa_mp @o_len))))) (And.intro (And.intro (And.intro (And.intro @vLen_sl (And.intro @vLen_ms @o_mx)) (And.intro (And.intro @o_mn @vMx_i) (And.intro @vMn_i @o_ext))) (And.intro (And.intro (And.intro @vExt_tup @b_add) (And.intro @b_sub @b_mul)) (And.intro (And.intro @b_lss @b_leq) (And.intro @b_gtr @b_geq)))) (And.intro (And.intro (And.intro (And.intro @b_eql @b_neq) (And.intro @o_pure @List.nil_append.{0})) (And.intro (And.intro @List.append_nil.{0} @List.cons_append.{0}) (And.intro @frz_d_i @frz_d_b))) (And.intro (And.intro (And.intro @frz_d_s @frz_d_nilp) (And.intro @frz_d_ptr @frz_d_sl)) (And.intro (And.intro @frz_d_fn0 @Bool.not_true) (And.intro @Bool.not_false @Bool.true_and))))))) (And.intro (And.intro (And.intro (And.intro (And.intro (And.intro @Bool.and_true (And.intro @Bool.false_and @Bool.and_false)) (And.intro (And.intro @decide_true @decide_false) (And.intro @beq_self_eq_true.{0} @Bool.true_eq_false))) (And.intro (And.intro (And.intro @Bool.false_eq_true @Nat.zero_add) (And.intro @Nat.add_zero @Int.toNat_natCast)) (And.intro (And.intro @ge_iff_le.{0} @gt_iff_lt.{0}) (And.intro @fill_S @fillD_ok)))) (And.intro (And.intro (And.intro (And.intro @fill_nil @cellsOf_agg) (And.intro @cellsOf_i @cellsOf_b)) (And.intro (And.intro @cellsOf_s @cellsOf_ptr) (And.intro @cellsOf_nilp @cellsOf_sl))) (And.intro (And.intro (And.intro @cellsOf_mp @cellsOf_fn) (And.intro @one_i @one_b)) (And.intro (And.intro @one_s @one_ptr) (And.intro @one_nilp @one_sl))))) (And.intro (And.intro (And.intro (And.intro @one_mp (And.intro @one_fn @List.all_cons.{0})) (And.intro (And.intro @List.all_nil.{0} @splice_1) (And.intro @splice_2 @splice_3))) (And.intro (And.intro (And.intro @part_0 @part_1) (And.intro @part_2 @drop_0)) (And.intro (And.intro @g0_nx @g0_hp) (And.intro @List.set_cons_zero.{0} @List.set_cons_succ.{0})))) (And.intro (And.intro (And.intro (And.intro @List.length_append.{0} @List.length_replicate.{0}) (And.intro @eq_self.{1} @true_and)) (And.intro (And.intro @and_true @vPure_S) (And.intro @purS_some @purD_some))) (And.intro (And.intro (And.intro @purE_true @frzL_cons) (And.intro @frzL_nil @consO_ok)) (And.intro (And.intro @flat_i @flat_b) (And.intro @flat_s @flat_nilp)))))) (And.intro (And.intro (And.intro (And.intro (And.intro @flat_ptr (And.intro @flat_sl @flat_agg)) (And.intro (And.intro @flat_tup @vis_i) (And.intro @vis_b @vis_s))) (And.intro (And.intro (And.intro @vis_nilp @vis_ptr) (And.intro @vis_sl @vis_fn0)) (And.intro (And.intro @List.flatMap_cons.{0,0} @List.flatMap_nil.{0,0}) (And.intro @isEmpty_nil @Bool.true_or)))) (And.intro (And.intro (And.intro (And.intro @Bool.false_or @Bool.or_true) (And.intro @Bool.or_false @frz_P)) (And.intro (And.intro @frz_Q @frzP_cells) (And.intro @frzB_true @map_some'))) (And.intro (And.intro (And.intro @rd_S @o_bsl) (And.intro @vBsl_t @vBsl_f)) (And.intro (And.intro @o_app @appD_ok) (And.intro @vApp_rig @vApp_rig0))))) (And.intro (And.intro (And.intro (And.intro @appK_ok (And.intro @vApp_own @o_eqn)) (And.intro (And.intro @o_eqb @o_eqa) (And.intro @aeqn_pn @aeqn_np))) (And.intro (And.intro (And.intro @aeqn_mn @aeqn_nn) (And.intro @aeqb_bb @negb_t)) (And.intro (And.intro @negb_f @aun_not) (And.intro @midQ_nrm @part_3)))) (And.intro (And.intro (And.intro (And.intro @part_4 @part_5) (And.intro @cellsOf_ms @one_ms)) (And.intro (And.intro @Int.toNat_zero @Nat.zero_mul) (And.intro @o_stL @andLe_ok))) (And.intro (And.intro (And.intro @allow_hd @allow_h2) (And.intro @retB_nrm @retB_ret)) (And.intro (And.intro @midR_nrm @midR_ret) (And.intro @W_scp @W_lab)))))))):=(And.intro (And.intro (And.intro (And.intro (And.intro (And.intro (And.intro @W_skip (And.intro @W_ext @W_ret)) (And.intro (And.intro @W_seq @thenQ_nrm) (And.intro @thenQ_ext @thenQ_ret))) (And.intro (And.intro (And.intro @W_cond @selW_true) (And.intro @selW_false @W_blk)) (And.intro (And.intro @blkQ_nrm @blkQ_ret) (And.intro @blkQ_same @blkQ_ne)))) (And.intro (And.intro (And.intro @W_reg (And.intro @nrmQ_is @WR_nil)) (And.intro (And.intro @WR_cons @selO_true) (And.intro @selO_false @bindO_some))) (And.intro (And.intro (And.intro @loopQ_nrm @loopQ_ext) (And.intro @loopQ_ret @wanted_none)) (And.intro (And.intro @wanted_some @wantV_1) (And.intro @wantV_0 @wantV_undef))))) (And.intro (And.intro (And.intro (And.intro @ev_t (And.intro @ev_c @put_some)) (And.intro (And.intro @put_none @upd_same) (And.intro @upd_ne @List.length_cons.{0}))) (And.intro (And.intro (And.intro @List.length_nil.{0} @List.map_cons.{0,0}) (And.intro @List.map_nil.{0,0} @allow_no)) (And.intro (And.intro @allow_lt @argEnv_0) (And.intro @argEnv_1 @argEnv_2)))) (And.intro (And.intro (And.intro (And.intro @argEnv_3 @argEnv_4) (And.intro @argEnv_5 @res_1)) (And.intro (And.intro @res_2 @retQ_nrm) (And.intro @retQ_ret @o_mv))) (And.intro (And.intro (And.intro @o_pick @vPick_t) (And.intro @vPick_f @o_new)) (And.intro (And.intro @o_box @vBox_S) (And.intro @boxD_ok @vMap_some)))))) (And.intro (And.intro (And.intro (And.intro (And.intro @vMapL_some (And.intro @o_build @o_ld)) (And.intro (And.intro @vLd_ptr @vLd_S) (And.intro @ldS_ok @selB_true))) (And.intro (And.intro (And.intro @o_st @vSt_S) (And.intro @stS_ok @stD_ok)) (And.intro (And.intro @o_nilck @vNil_ptr) (And.intro @vNil_mp @vNil_fn)))) (And.intro (And.intro (And.intro (And.intro @o_bin @o_un) (And.intro @o_mkfn @o_fa)) (And.intro (And.intro @vFa_mp @vFa_S) (And.intro @faD_ok @o_fld))) (And.intro (And.intro (And.intro @vFld_agg @o_ia) (And.intro @vIa_sl @vIa_ms)) (And.intro (And.intro @o_iaa @vIaa_ptr) (And.intro @vIaa_mp @o_len))))) (And.intro (And.intro (And.intro (And.intro @vLen_sl (And.intro @vLen_ms @o_mx)) (And.intro (And.intro @o_mn @vMx_i) (And.intro @vMn_i @o_ext))) (And.intro (And.intro (And.intro @vExt_tup @b_add) (And.intro @b_sub @b_mul)) (And.intro (And.intro @b_lss @b_leq) (And.intro @b_gtr @b_geq)))) (And.intro (And.intro (And.intro (And.intro @b_eql @b_neq) (And.intro @o_pure @List.nil_append.{0})) (And.intro (And.intro @List.append_nil.{0} @List.cons_append.{0}) (And.intro @frz_d_i @frz_d_b))) (And.intro (And.intro (And.intro @frz_d_s @frz_d_nilp) (And.intro @frz_d_ptr @frz_d_sl)) (And.intro (And.intro @frz_d_fn0 @Bool.not_true) (And.intro @Bool.not_false @Bool.true_and))))))) (And.intro (And.intro (And.intro (And.intro (And.intro (And.intro @Bool.and_true (And.intro @Bool.false_and @Bool.and_false)) (And.intro (And.intro @decide_true @decide_false) (And.intro @beq_self_eq_true.{0} @Bool.true_eq_false))) (And.intro (And.intro (And.intro @Bool.false_eq_true @Nat.zero_add) (And.intro @Nat.add_zero @Int.toNat_natCast)) (And.intro (And.intro @ge_iff_le.{0} @gt_iff_lt.{0}) (And.intro @fill_S @fillD_ok)))) (And.intro (And.intro (And.intro (And.intro @fill_nil @cellsOf_agg) (And.intro @cellsOf_i @cellsOf_b)) (And.intro (And.intro @cellsOf_s @cellsOf_ptr) (And.intro @cellsOf_nilp @cellsOf_sl))) (And.intro (And.intro (And.intro @cellsOf_mp @cellsOf_fn) (And.intro @one_i @one_b)) (And.intro (And.intro @one_s @one_ptr) (And.intro @one_nilp @one_sl))))) (And.intro (And.intro (And.intro (And.intro @one_mp (And.intro @one_fn @List.all_cons.{0})) (And.intro (And.intro @List.all_nil.{0} @splice_1) (And.intro @splice_2 @splice_3))) (And.intro (And.intro (And.intro @part_0 @part_1) (And.intro @part_2 @drop_0)) (And.intro (And.intro @g0_nx @g0_hp) (And.intro @List.set_cons_zero.{0} @List.set_cons_succ.{0})))) (And.intro (And.intro (And.intro (And.intro @List.length_append.{0} @List.length_replicate.{0}) (And.intro @eq_self.{1} @true_and)) (And.intro (And.intro @and_true @vPure_S) (And.intro @purS_some @purD_some))) (And.intro (And.intro (And.intro @purE_true @frzL_cons) (And.intro @frzL_nil @consO_ok)) (And.intro (And.intro @flat_i @flat_b) (And.intro @flat_s @flat_nilp)))))) (And.intro (And.intro (And.intro (And.intro (And.intro @flat_ptr (And.intro @flat_sl @flat_agg)) (And.intro (And.intro @flat_tup @vis_i) (And.intro @vis_b @vis_s))) (And.intro (And.intro (And.intro @vis_nilp @vis_ptr) (And.intro @vis_sl @vis_fn0)) (And.intro (And.intro @List.flatMap_cons.{0,0} @List.flatMap_nil.{0,0}) (And.intro @isEmpty_nil @Bool.true_or)))) (And.intro (And.intro (And.intro (And.intro @Bool.false_or @Bool.or_true) (And.intro @Bool.or_false @frz_P)) (And.intro (And.intro @frz_Q @frzP_cells) (And.intro @frzB_true @map_some'))) (And.intro (And.intro (And.intro @rd_S @o_bsl) (And.intro @vBsl_t @vBsl_f)) (And.intro (And.intro @o_app @appD_ok) (And.intro @vApp_rig @vApp_rig0))))) (And.intro (And.intro (And.intro (And.intro @appK_ok (And.intro @vApp_own @o_eqn)) (And.intro (And.intro @o_eqb @o_eqa) (And.intro @aeqn_pn @aeqn_np))) (And.intro (And.intro (And.intro @aeqn_mn @aeqn_nn) (And.intro @aeqb_bb @negb_t)) (And.intro (And.intro @negb_f @aun_not) (And.intro @midQ_nrm @part_3)))) (And.intro (And.intro (And.intro (And.intro @part_4 @part_5) (And.intro @cellsOf_ms @one_ms)) (And.intro (And.intro @Int.toNat_zero @Nat.zero_mul) (And.intro @o_stL @andLe_ok))) (And.intro (And.intro (And.intro @allow_hd @allow_h2) (And.intro @retB_nrm @retB_ret)) (And.intro (And.intro @midR_nrm @midR_ret) (And.intro @W_scp @W_lab))))))))
end Go.Ab
end
section
set_option linter.unusedVariables false
set_option linter.unusedSimpArgs false
namespace Go.Ab
open Go.RowKit
def c0 (num:Nat→Nat) (w:World):Cx:=⟨num,w.heap.size,fun _ => True,w,fun _ => (0,0),fun _ => none⟩
theorem row_callsG {P:Program} {num:Nat→Nat} {F:Funs} (hT:Table P num F) (hm:P.follows .mixedOrders = true) {f:Nat} {asx:List AV} {b:Bool} (h:pureS F f asx = some (.b b)) {w:World} {vargs:List Value} (hr:Reps (c0 num w) true asx vargs) (hgl:GlOk (c0 num w)):
  Calls P (num f) vargs.toArray w (fun e w' => e = .returned (.bool b)∧Below w.heap.size w w'):=by
 obtain ⟨k,g',hk⟩:=pureS_bool h
 have K:Ok (c0 num w) 0:={
  basele:=Nat.le_refl _
  cells:=fun _ _ _ h => by cases h
  maps:=fun _ _ h => by cases h
  toks:=fun _ h => by cases h
  inj:=fun _ _ _ h => by obtain ⟨_,h,_⟩:=h;cases h
  fresh:=fun _ _ => rfl
  gl:=hgl }
 have:=((callE_ok hT hm k).2 f asx g0 _ _ hk).2 (c0 num w) vargs rfl rfl K hr
 refine Calls.mono this.1 fun e w' ⟨val,c',h1,h2,E,_,_,hrep⟩ => ?_
 cases hrep
 exact ⟨h1,h2 ▸ E.below⟩
def intsC (l:List Int):List AV:=l.map fun v => .i .i64 v
def pairsC (l:List (Int × Int)):List AV:=l.flatMap fun p => [.i .i64 p.1,.i .i64 p.2]
theorem sh_ints {P:Program} {t e:TypeId} {x:AV} (ht:P.underlying t = some (.slice e)) (he:P.underlying e = some (.int .i64)) (h:Sh P 2 t [x]):
  ∃ l:List Int,x = .sl (intsC l) l.length .non∧l.length≤maxLen∧∀ n∈l,(Lit.int .i64 n).wf = true:=by
 simp only[Sh,ht,he] at h
 obtain ⟨cs,n,hx,hn,rows,hl,rfl,hS⟩:=h
 cases hx
 have key:∀ rows:List (List AV),(∀ r∈rows,∃ n,r = [AV.i .i64 n]∧(Lit.int .i64 n).wf = true)→∃ l:List Int,rows.flatten = intsC l∧l.length = rows.length∧∀ n∈l,(Lit.int .i64 n).wf = true:=by
  intro rows
  induction rows with
  | nil => intro _;exact ⟨[],rfl,rfl,fun _ h => by cases h⟩
  | cons r rows ih =>
    intro h
    obtain ⟨n,rfl,hn⟩:=h r (List.mem_cons_self ..)
    obtain ⟨l,h1,h2,h3⟩:=ih fun r hr => h r (List.mem_cons_of_mem _ hr)
    refine ⟨n :: l,by rw[List.flatten_cons,h1];rfl,by simp[h2],fun m hm => ?_⟩
    rcases List.mem_cons.1 hm with rfl | hm
    ·exact hn
    ·exact h3 m hm
 obtain ⟨l,h1,h2,h3⟩:=key rows hS
 exact ⟨l,by rw[h1,←hl,h2],by omega,h3⟩
end Go.Ab
end
section
set_option linter.unusedVariables false
set_option linter.unusedSimpArgs false
namespace Go.Ab
abbrev Rw:=Nat→BitVec 64
end Go.Ab
end
section
set_option linter.unusedVariables false
set_option linter.unusedSimpArgs false
namespace Go.Ab
variable {F:Funs}
def has (n:Nat) (R:Rw) (a b:Int):Bool:=decide (0≤a∧a < n∧0≤b∧b < n) && (R a.toNat).getLsbD b.toNat
end Go.Ab
end
section
set_option linter.unusedVariables false
set_option linter.unusedSimpArgs false
namespace Go.Ab
variable {F:Funs}
theorem i64_wrap {x:Int} (h:-9223372036854775808≤x) (h2:x≤9223372036854775807):IntKind.i64.wrap x = x:=by
 simp[IntKind.wrap,IntKind.bits,IntKind.signed,IntKind.min,IntKind.max]
 omega
end Go.Ab
end
section
set_option linter.unusedVariables false
set_option linter.unusedSimpArgs false
namespace Go.Ab
variable {F:Funs}
theorem succ_wrap {k:Nat} (h:k < 9000000000000000000):IntKind.i64.wrap ((k:Int) + 1) = ((k + 1:Nat):Int):=by rw[i64_wrap (by omega) (by omega)];omega
end Go.Ab
end
section
set_option linter.unusedVariables false
set_option linter.unusedSimpArgs false
namespace Go.Ab
variable {F:Funs}
def Live (g:G) (esz:Nat) (t:Tok):Prop:=t = .rig∨∃ τ,t = .own τ esz∧g.hp τ = some (.tok true)∧τ < g.nx
end Go.Ab
end
section
set_option linter.unusedVariables false
set_option linter.unusedSimpArgs false
namespace Go.Ab
def hb (R:Rw) (a b:Nat):Bool:=(R a).getLsbD b
inductive Thru (r:Nat→Nat→Prop) (k:Nat):Nat→Nat→Prop
 | one {a b}:r a b→Thru r k a b
 | join {a c b}:c < k→Thru r k a c→Thru r k c b→Thru r k a b
theorem Thru.mono {r:Nat→Nat→Prop} {k k':Nat} (h:k≤k') {a b:Nat} (t:Thru r k a b):Thru r k' a b:=by
 induction t with
 | one h => exact .one h
 | join hc _ _ ih1 ih2 => exact .join (by omega) ih1 ih2
inductive Steps' (r:Nat→Nat→Prop):Nat→Nat→Prop
 | one {a b}:r a b→Steps' r a b
 | join {a c b}:Steps' r a c→Steps' r c b→Steps' r a b
end Go.Ab
end
section
namespace Go.Ab
def A_xlaw00_Place:AFun:={ res:=[.t 4],body:=(.seq (.reg false [qo 4 (.mv (.c (.i .i64 0)))])
 (.seq (.reg false [qm 6 0,qm 7 1,qo 8 (.bin .rem (.t 6) (.t 7)),qm 5 8])
 (.seq (.seq (.reg false [qm 9 5,qo 10 (.bin .lss (.t 9) (.c (.i .i64 0)))])
 (.cond (.t 10) (.reg false [qm 11 5,qm 12 1,qo 13 (.bin .add (.t 11) (.t 12)),qm 5 13])
 .skip))
 (.seq (.reg false [qm 14 5,qm 4 14])
 .ret)))) }
def A_xlaw00_num:AFun:={ res:=[.cell 2 (some 2)],body:=(.seq (.reg false [qo 2 (.new ([.i .i64 0,.i .i64 0]))])
 (.seq (.reg false [qm 3 0,qo 4 (.build ([.i .i64 0,.i .i64 0]) [(0,1,.c (.i .i64 1)),(1,1,.t 3)]),qn (.st 2 (.t 2) (.t 4))])
 .ret)) }
def A_xlaw00_reg:AFun:={ res:=[.cell 2 (some 2)],body:=(.seq (.reg false [qo 2 (.new ([.i .i64 0,.i .i64 0]))])
 (.seq (.reg false [qm 3 0,qo 4 (.build ([.i .i64 0,.i .i64 0]) [(0,1,.c (.i .i64 2)),(1,1,.t 3)]),qn (.st 2 (.t 2) (.t 4))])
 .ret)) }
def A_xlaw00_op:AFun:={ res:=[.cell 2 (some 2)],body:=(.seq (.reg false [qo 2 (.new ([.i .i64 0,.i .i64 0]))])
 (.seq (.reg false [qm 3 0,qo 4 (.build ([.i .i64 0,.i .i64 0]) [(0,1,.c (.i .i64 3)),(1,1,.t 3)]),qn (.st 2 (.t 2) (.t 4))])
 .ret)) }
def A_xlaw00_Digits:AFun:={ res:=[.t 2],body:=(.seq (.reg false [qo 2 (.mv (.c (.s ⟨#[]⟩)))])
 (.seq (.blk 0 (.seq (.reg false [qm 5 0,qo 6 (.bin .leq (.t 5) (.c (.i .i64 (-10)))),qm 4 6])
 (.cond (.t 4) (.seq (.reg false [qm 7 0,qo 8 (.bin .rem (.t 7) (.c (.i .i64 10))),qo 9 (.un .neg (.t 8)),qm 3 9])
 (.seq (.reg true [qm 10 0,qo 11 (.bin .quo (.t 10) (.c (.i .i64 10))),qo 12 (.call .pure (.c (.fn 516 [] [])) [.t 11]),qm 13 3,qm 14 3,qo 15 (.bin .add (.t 14) (.c (.i .i64 1))),qo 16 (.sslice (.c (.s ⟨#[48,49,50,51,52,53,54,55,56,57]⟩)) (some (.t 13)) (some (.t 15))),qo 17 (.bin .add (.t 12) (.t 16)),qm 2 17])
 .ret))
 (.seq (.reg false [qm 19 0,qo 20 (.bin .lss (.t 19) (.c (.i .i64 0))),qm 18 20])
 (.cond (.t 18) (.seq (.reg false [qm 21 0,qo 22 (.un .neg (.t 21)),qm 23 0,qo 24 (.un .neg (.t 23)),qo 25 (.bin .add (.t 24) (.c (.i .i64 1))),qo 26 (.sslice (.c (.s ⟨#[48,49,50,51,52,53,54,55,56,57]⟩)) (some (.t 22)) (some (.t 25))),qo 27 (.bin .add (.c (.s ⟨#[45]⟩)) (.t 26)),qm 2 27])
 .ret)
 (.seq (.reg false [qm 29 0,qo 30 (.bin .lss (.t 29) (.c (.i .i64 10))),qm 28 30])
 (.cond (.t 28) (.seq (.reg false [qm 31 0,qm 32 0,qo 33 (.bin .add (.t 32) (.c (.i .i64 1))),qo 34 (.sslice (.c (.s ⟨#[48,49,50,51,52,53,54,55,56,57]⟩)) (some (.t 31)) (some (.t 33))),qm 2 34])
 .ret)
 .skip)))))))
 (.seq (.reg true [qm 35 0,qo 36 (.bin .quo (.t 35) (.c (.i .i64 10))),qo 37 (.call .pure (.c (.fn 516 [] [])) [.t 36]),qm 38 0,qo 39 (.bin .rem (.t 38) (.c (.i .i64 10))),qm 40 0,qo 41 (.bin .rem (.t 40) (.c (.i .i64 10))),qo 42 (.bin .add (.t 41) (.c (.i .i64 1))),qo 43 (.sslice (.c (.s ⟨#[48,49,50,51,52,53,54,55,56,57]⟩)) (some (.t 39)) (some (.t 42))),qo 44 (.bin .add (.t 37) (.t 43)),qm 2 44])
 .ret))) }
def A_xlaw00_Wide:AFun:={ res:=[.t 4],body:=(.seq (.reg false [qo 4 (.mv (.c (.sl [] 0 .rig)))])
 (.seq (.reg false [qo 5 (.mv (.c (.sl [] 0 .rig)))])
 (.seq (.reg false [qo 6 (.mv (.c (.i .i64 0)))])
 (.seq (.seq (.reg false [qo 7 (.mv (.c (.i .i64 0)))])
 (.blk 0 (.loop (.seq (.seq (.reg false [qm 9 7,qm 10 0,qo 11 (.len (.t 10)),qo 12 (.bin .lss (.t 9) (.t 11)),qm 13 12,qg 14 (.mv (.t 5)) 13 true,qg 15 (.len (.t 14)) 13 true,qg 16 (.mv (.t 6)) 13 true,qg 17 (.bin .add (.t 15) (.t 16)) 13 true,qg 18 (.mv (.t 1)) 13 true,qg 19 (.bin .lss (.t 17) (.t 18)) 13 true,qo 20 (.pick (.t 13) (.t 19) (.c (.b false)))])
 (.cond (.t 20) .skip
 (.ext 0)))
 (.seq (.blk 1 (.seq (.reg false [qm 23 0,qm 24 7,qo 25 (.ia 1 (.t 23) (.t 24)),qo 26 (.ld none (.t 25)),qo 27 (.call .pure (.c (.fn 10 [] [])) [.t 26,.c (.i .i64 1099511627776)]),qm 8 27])
 (.blk 2 (.seq (.reg false [qm 39 6,qo 40 (.bin .geq (.t 39) (.c (.i .i64 2))),qm 41 40,qg 42 (.mv (.t 8)) 41 true,qg 43 (.bin .rem (.t 42) (.c (.i .i64 3))) 41 true,qg 44 (.bin .eql (.t 43) (.c (.i .i64 0))) 41 true,qo 45 (.pick (.t 41) (.t 44) (.c (.b false))),qm 38 45])
 (.cond (.t 38) (.reg false [qm 46 5,qm 47 8,qo 48 (.bin .quo (.t 47) (.c (.i .i64 3))),qo 49 (.bin .rem (.t 48) (.c (.i .i64 6))),qo 50 (.bin .add (.c (.i .i64 1)) (.t 49)),qo 51 (.call .pure (.c (.fn 124 [] [])) [.t 50]),qo 52 (.bsl true 1 ([.i .i64 0,.i .i64 0]) [(0,2,.t 51)]),qo 53 (.app 2 16 (.t 46) (.t 52)),qm 54 6,qo 55 (.bin .sub (.t 54) (.c (.i .i64 1))),qm 5 53,qm 6 55])
 (.seq (.reg false [qm 57 8,qo 58 (.bin .rem (.t 57) (.c (.i .i64 3))),qo 59 (.bin .eql (.t 58) (.c (.i .i64 1))),qm 56 59])
 (.cond (.t 56) (.reg false [qm 60 5,qm 61 8,qo 62 (.bin .quo (.t 61) (.c (.i .i64 3))),qo 63 (.bin .rem (.t 62) (.c (.i .i64 8))),qo 64 (.call .pure (.c (.fn 123 [] [])) [.t 63]),qo 65 (.bsl true 1 ([.i .i64 0,.i .i64 0]) [(0,2,.t 64)]),qo 66 (.app 2 16 (.t 60) (.t 65)),qm 67 6,qo 68 (.bin .add (.t 67) (.c (.i .i64 1))),qm 5 66,qm 6 68])
 (.reg false [qm 28 5,qm 29 8,qo 30 (.bin .quo (.t 29) (.c (.i .i64 3))),qo 31 (.bin .rem (.t 30) (.c (.i .i64 4294967296))),qo 32 (.bin .sub (.t 31) (.c (.i .i64 2147483648))),qo 33 (.call .pure (.c (.fn 108 [] [])) [.t 32]),qo 34 (.bsl true 1 ([.i .i64 0,.i .i64 0]) [(0,2,.t 33)]),qo 35 (.app 2 16 (.t 28) (.t 34)),qm 36 6,qo 37 (.bin .add (.t 36) (.c (.i .i64 1))),qm 5 35,qm 6 37]))))))))
 (.reg false [qm 21 7,qo 22 (.bin .add (.t 21) (.c (.i .i64 1))),qm 7 22]))))))
 (.seq (.seq (.reg false [qm 69 6,qo 70 (.bin .eql (.t 69) (.c (.i .i64 0)))])
 (.cond (.t 70) (.seq (.reg false [qo 71 (.call .pure (.c (.fn 108 [] [])) [.c (.i .i64 0)]),qo 72 (.bsl true 1 ([.i .i64 0,.i .i64 0]) [(0,2,.t 71)]),qm 4 72])
 .ret)
 .skip))
 (.seq (.blk 3 (.loop (.seq (.seq (.reg false [qm 73 6,qo 74 (.bin .gtr (.t 73) (.c (.i .i64 1)))])
 (.cond (.t 74) .skip
 (.ext 3)))
 (.blk 4 (.reg false [qm 75 5,qm 76 5,qo 77 (.len (.t 76)),qo 78 (.bin .rem (.t 77) (.c (.i .i64 6))),qo 79 (.bin .add (.c (.i .i64 1)) (.t 78)),qo 80 (.call .pure (.c (.fn 124 [] [])) [.t 79]),qo 81 (.bsl true 1 ([.i .i64 0,.i .i64 0]) [(0,2,.t 80)]),qo 82 (.app 2 16 (.t 75) (.t 81)),qm 83 6,qo 84 (.bin .sub (.t 83) (.c (.i .i64 1))),qm 5 82,qm 6 84])))))
 (.seq (.reg false [qm 85 5,qm 4 85])
 .ret))))))) }
end Go.Ab
end
section
set_option linter.unusedVariables false
set_option linter.unusedSimpArgs false
namespace Go.Ab
variable {F:Funs}
theorem t1_neg (u n:Int) (e1:u % n + n * (u / n) = u):-u = (n - u % n) + n * (-(u / n) - 1):=by
 have e2:n * (-(u / n) - 1) = -(n * (u / n)) - n:=by rw[Int.mul_sub,Int.mul_neg,Int.mul_one]
 rw[e2]
 generalize n * (u / n) = c at *
 generalize u % n = b at *
 omega
theorem tmod_cases {v n:Int} (hn:0 < n):(if v.tmod n < 0 then v.tmod n + n else v.tmod n) = v % n:=by
 have h2:=Int.emod_nonneg v (by omega:n≠0)
 have h3:=Int.emod_lt_of_pos v hn
 by_cases hv:0≤v
 ·rw[Int.tmod_eq_emod_of_nonneg hv,if_neg (by omega)]
 ·obtain ⟨u,rfl⟩:∃ u,v = -u:=⟨-v,by omega⟩
  rw[Int.neg_tmod,Int.tmod_eq_emod_of_nonneg (by omega:0≤u)]
  have h4:=Int.emod_nonneg u (by omega:n≠0)
  have h5:=Int.emod_lt_of_pos u hn
  have e1:=Int.emod_add_mul_ediv u n
  by_cases h6:u % n = 0
  ·rw[h6,Int.neg_zero,if_neg (by omega)]
   exact (Int.emod_eq_zero_of_dvd (Int.dvd_neg.2 (Int.dvd_of_emod_eq_zero h6))).symm
  ·rw[if_pos (by omega)]
   have e3:(-u) % n = n - u % n:=by
    rw[t1_neg u n e1,Int.add_mul_emod_self_left,Int.emod_eq_of_lt (by omega) (by omega)]
   rw[e3]
   omega
theorem tmod_bound {v n:Int} (hn:0 < n):-n≤v.tmod n∧v.tmod n < n:=by
 refine ⟨?_,Int.tmod_lt_of_pos v hn⟩
 have h1:=tmod_cases (v:=v) hn
 have h2:=Int.emod_nonneg v (by omega:n≠0)
 split at h1<;>omega
def place (v n:Int):Int:=v % n
theorem place_lt {v n:Int} (hn:0 < n):0≤place v n∧place v n < n:=⟨Int.emod_nonneg v (by omega),Int.emod_lt_of_pos v hn⟩
theorem sp_place (h10:F 10 = some A_xlaw00_Place) {v n:Int} (hn:0 < n) (hb:n≤4611686018427387904):pureS F 10 [.i .i64 v,.i .i64 n] = some (.i .i64 (place v n)):=by
 refine pure_of h10 ?_
 have h1:=tmod_cases (v:=v) hn
 obtain ⟨h2,h3⟩:=tmod_bound (v:=v) hn
 unfold place
 by_cases h:v.tmod n < 0
 ·have hw:IntKind.i64.wrap (v.tmod n + n) = v.tmod n + n:=i64_wrap (by omega) (by omega)
  rw[if_pos h] at h1
  simp (disch:=omega) only[A_xlaw00_Place,wp,qa,qb,qc,b_rem,h,hw]
  rw[h1]
 ·rw[if_neg h] at h1
  simp (disch:=omega) only[A_xlaw00_Place,wp,qa,qb,qc,b_rem,h]
  rw[h1]
end Go.Ab
end
section
set_option linter.unusedVariables false
set_option linter.unusedSimpArgs false
namespace Go.Ab
variable {F:Funs}
theorem ints_part {l:List Int} {k:Nat} (h:k < l.length):part ((intsC l).drop (k * 1)) 0 none = some (.i .i64 (l.getD k 0)):=by
 simp only[part,intsC,List.getElem?_drop,Nat.mul_one,Nat.add_zero,List.getElem?_map,List.getElem?_eq_getElem h,Option.map_some,List.getD_eq_getElem?_getD,Option.getD_some]
theorem Steps'.mono {r s:Nat→Nat→Prop} (h:∀ a b,r a b→s a b) {a b:Nat} (t:Steps' r a b):Steps' s a b:=by
 induction t with
 | one h' => exact .one (h _ _ h')
 | join _ _ i1 i2 => exact .join i1 i2
theorem Steps'.first {r:Nat→Nat→Prop} {a b:Nat} (t:Steps' r a b):r a b∨∃ c,r a c∧Steps' r c b:=by
 induction t with
 | one h => exact .inl h
 | @join a c b t1 t2 i1 i2 =>
   rcases i1 with h | ⟨d,h1,h2⟩
   ·exact .inr ⟨c,h,t2⟩
   ·exact .inr ⟨d,h1,.join h2 t2⟩
end Go.Ab
end
section
set_option linter.unusedVariables false
set_option linter.unusedSimpArgs false
namespace Go.Ab
noncomputable def vRaw (F:Funs) (al:Nat→Bool) (id:Nat) (f:AV) (args:List AV) (g:G):Option (AV × G):=vCall (callS F) al id .raw f args g
theorem o_raw {F:Funs} {al lo id e g} (f:Opd) (asx:List Opd):opE (callS F) al lo id (.call .raw f asx) e g = vRaw F al id (f.ev e) (asx.map (·.ev e)) g:=rfl
theorem vRaw_fn {F:Funs} {al id fid fst caps args g}:vRaw F al id (.fn fid fst caps) args g = callS F fid (fst ++ args ++ caps) g:=rfl
noncomputable def vSee (F:Funs) (al:Nat→Bool) (id:Nat) (f:AV) (args:List AV) (g:G):Option (AV × G):=vCall (callS F) al id .see f args g
theorem o_see {F:Funs} {al lo id e g} (f:Opd) (asx:List Opd):opE (callS F) al lo id (.call .see f asx) e g = vSee F al id (f.ev e) (asx.map (·.ev e)) g:=rfl
theorem vSee_fn {F:Funs} {al id fid fst caps args g}:vSee F al id (.fn fid fst caps) args g = seeR g (callS F fid (fst ++ args ++ caps) g):=rfl
theorem bindO_call {F:Funs} {d b j dst os e K fid asx g} (P:AV→G→Prop) (h:∃ v g',callS F fid asx g = some (v,g')∧P v g') (hk:∀ v g',P v g'→WR F d b j os (put e dst v) g' K):bindO F d b j dst os e K (callS F fid asx g):=by
 obtain ⟨v,g',h1,h2⟩:=h
 rw[h1]
 exact hk v g' h2
def retP (rs:List ARes) (P:AV→G→Prop):Out→Env→G→Prop
 | .ext _,_,_ => False
 | _,e,g => ∃ v,resE rs e g = some v∧P v g
theorem retP_nrm {rs P e g}:retP rs P .nrm e g = (∃ v,resE rs e g = some v∧P v g):=rfl
theorem retP_ret {rs P e g}:retP rs P .ret e g = (∃ v,resE rs e g = some v∧P v g):=rfl
theorem raw_of {F:Funs} {f:Nat} {fn:AFun} {asx:List AV} {g:G} {P:AV→G→Prop} (hF:F f = some fn) (h:W F fn.body (argEnv asx) g (retP fn.res P)) (ha:arB fn asx = true:=by rfl):∃ v g',callS F f asx g = some (v,g')∧P v g':=by
 obtain ⟨o,e,g',h1,h2⟩:=h
 rw[callS_eq,hF]
 simp only[ha,h1]
 cases o with
 | ext n => exact h2.elim
 | nrm =>
   obtain ⟨v,h3,h4⟩:=h2
   exact ⟨v,g',by simp only[h3,Option.map_some],h4⟩
 | ret =>
   obtain ⟨v,h3,h4⟩:=h2
   exact ⟨v,g',by simp only[h3,Option.map_some],h4⟩
theorem res_0 (e g):resE [] e g = some (.tup []):=rfl
def mgS (k:ByteArray) (g:G):Option Blk→Option (AV × G)
 | some (.map es) => vMap g (mlook es k)
 | _ => none
theorem o_mget {c:CS} {al:Nat→Bool} {lo id:Nat} {e:Env} {g:G} (m k):opE c al lo id (.mget m k) e g = vMget al (m.ev e) (k.ev e) g:=rfl
theorem vMget_S {al:Nat→Bool} {g:G} (b k):vMget al (.mm b) (.s k) g = mgS k g (selB (al b) (g.hp b)):=by
 simp only[vMget,rd_S]
 cases selB (al b) (g.hp b) with
 | none => rfl
 | some bl => cases bl<;>rfl
theorem mgS_map (k g es):mgS k g (some (.map es)) = vMap g (mlook es k):=rfl
theorem o_mkmap {c:CS} {al:Nat→Bool} {lo id:Nat} {e:Env} {g:G}:opE c al lo id .mkmap e g = some (.mm id,⟨upd g.hp id (some (.map [])),g.nx⟩):=rfl
theorem o_mput {c:CS} {al:Nat→Bool} {lo id:Nat} {e:Env} {g:G} (m k v):opE c al lo id (.mput m k v) e g = vMput al (m.ev e) (k.ev e) (v.ev e) g:=rfl
def mpO (b:Nat) (k:ByteArray) (v:AV) (es:List (AV × AV)) (g:G) (x:Bool):Option AV→Option (AV × G)
 | none => if x then some (.undef,⟨upd g.hp b (some (.map (es ++ [(.s k,v)]))),g.nx⟩) else none
 | some _ => none
def mpS (b:Nat) (k:ByteArray) (v:AV) (g:G) (x:Bool):Option Blk→Option (AV × G)
 | some (.map es) => mpO b k v es g x (mlook es k)
 | _ => none
theorem vMput_S {al:Nat→Bool} {g:G} (b k v):vMput al (.mm b) (.s k) v g = mpS b k v g (one v) (selB (al b) (g.hp b)):=by
 simp only[vMput,rd_S]
 cases selB (al b) (g.hp b) with
 | none => rfl
 | some bl =>
   cases bl with
   | map es => simp only[mpS];cases mlook es k<;>rfl
   | cells _ _ => rfl
   | tok _ => rfl
theorem mpS_map (b k v g x es):mpS b k v g x (some (.map es)) = mpO b k v es g x (mlook es k):=rfl
theorem mpO_none (b k v es g):mpO b k v es g true none = some (.undef,⟨upd g.hp b (some (.map (es ++ [(.s k,v)]))),g.nx⟩):=rfl
theorem frz_d_agg {hp cs ds} (h:frzL hp 8 cs = some ds):frz hp depth (.agg cs) = some (.agg ds):=by
 show frz hp (8 + 1) _ = _
 simp only[frz,h,Option.map_some]
end Go.Ab
end
section
set_option linter.unusedVariables false
set_option linter.unusedSimpArgs false
namespace Go.Ab
structure Ev where
 th:Int
 kd:Int
 md:Int
 lc:Int
 vl:Int
 ex:Bool
structure Gr where
 locs:Int
 evs:List Ev
 rf:List Int
 co:List (List Int)
 rmw:List (Int × Int)
 data:List (Int × Int)
 ctrl:List (Int × Int)
 ctrli:List (Int × Int)
def ev0:Ev:=⟨0,0,0,0,0,false⟩
def evC (e:Ev):List AV:=[.i .i64 e.th,.i .i64 e.kd,.i .i64 e.md,.i .i64 e.lc,.i .i64 e.vl,.b e.ex]
def evsC (l:List Ev):List AV:=l.flatMap evC
def coC (l:List (List Int)):List AV:=l.map fun c => .sl (intsC c) c.length .non
def grC (g:Gr):List AV:=[.i .i64 g.locs,.sl (evsC g.evs) g.evs.length .non,.sl (intsC g.rf) g.rf.length .non,.sl (coC g.co) g.co.length .non,
 .sl (pairsC g.rmw) g.rmw.length .non,.sl (pairsC g.data) g.data.length .non,.sl (pairsC g.ctrl) g.ctrl.length .non,.sl (pairsC g.ctrli) g.ctrli.length .non]
theorem evsC_len (l:List Ev):(evsC l).length = l.length * 6:=by
 induction l with
 | nil => rfl
 | cons p l ih => simp only[evsC,List.flatMap_cons,List.length_append,List.length_cons,evC,List.length_nil] at ih ⊢;omega
theorem coC_len (l:List (List Int)):(coC l).length = l.length:=by simp[coC]
theorem splice_ev (e:Ev):splice (List.replicate 5 (AV.i .i64 0) ++ [.b false]) 0 (evC e) = evC e:=rfl
theorem part_22 (a b:AV):part [a,b] 0 (some 2) = some (.agg [a,b]):=rfl
theorem evC_len (e:Ev):(evC e).length = 6:=rfl
theorem evC_one (e:Ev):(evC e).all one = true:=rfl
theorem evC_flat (e:Ev):(evC e).all flat = true:=rfl
theorem evC_all (e:Ev):part (evC e) 0 (some 6) = some (.agg (evC e)):=rfl
theorem ev_th (e:Ev):part (evC e) 0 none = some (.i .i64 e.th):=rfl
theorem ev_kd (e:Ev):part (evC e) 1 none = some (.i .i64 e.kd):=rfl
theorem ev_md (e:Ev):part (evC e) 2 none = some (.i .i64 e.md):=rfl
theorem ev_lc (e:Ev):part (evC e) 3 none = some (.i .i64 e.lc):=rfl
theorem ev_vl (e:Ev):part (evC e) 4 none = some (.i .i64 e.vl):=rfl
theorem ev_ex (e:Ev):part (evC e) 5 none = some (.b e.ex):=rfl
theorem grC_len (g:Gr):(grC g).length = 8:=rfl
theorem grC_one (g:Gr):(grC g).all one = true:=rfl
theorem grC_all (g:Gr):part (grC g) 0 (some 8) = some (.agg (grC g)):=rfl
theorem gr_locs (g:Gr):part (grC g) 0 none = some (.i .i64 g.locs):=rfl
theorem gr_evs (g:Gr):part (grC g) 1 none = some (.sl (evsC g.evs) g.evs.length .non):=rfl
theorem gr_rf (g:Gr):part (grC g) 2 none = some (.sl (intsC g.rf) g.rf.length .non):=rfl
theorem gr_co (g:Gr):part (grC g) 3 none = some (.sl (coC g.co) g.co.length .non):=rfl
theorem gr_rmw (g:Gr):part (grC g) 4 none = some (.sl (pairsC g.rmw) g.rmw.length .non):=rfl
theorem gr_data (g:Gr):part (grC g) 5 none = some (.sl (pairsC g.data) g.data.length .non):=rfl
theorem gr_ctrl (g:Gr):part (grC g) 6 none = some (.sl (pairsC g.ctrl) g.ctrl.length .non):=rfl
theorem gr_ctrli (g:Gr):part (grC g) 7 none = some (.sl (pairsC g.ctrli) g.ctrli.length .non):=rfl
theorem frz_gr (hp) (g:Gr):frz hp depth (.agg (grC g)) = some (.agg (grC g)):=by
 refine frz_d_agg ?_
 show frzL hp (7 + 1) _ = _
 simp only[grC,frzL,frz]
theorem frz_ev (hp) (e:Ev):frz hp depth (.agg (evC e)) = some (.agg (evC e)):=frz_d_agg (frzL_flat (d:=7) (evC_flat e))
theorem vis_gr (hp) (g:Gr):vis hp depth (.agg (grC g)) = []:=by
 show vis hp (8 + 1) _ = _
 simp only[vis,grC,List.flatMap_cons,List.flatMap_nil,List.nil_append,List.append_nil]
theorem vis_ev (hp) (e:Ev):vis hp depth (.agg (evC e)) = []:=by
 show vis hp (8 + 1) _ = _
 simp only[vis,evC,List.flatMap_cons,List.flatMap_nil,List.nil_append,List.append_nil]
theorem gl:type_of% (And.intro (And.intro (And.intro (And.intro (And.intro @evC_len @evC_one) (And.intro @evC_flat (And.intro @evC_all @ev_th))) (And.intro (And.intro @ev_kd (And.intro @ev_md @ev_lc)) (And.intro @ev_vl (And.intro @ev_ex @grC_len)))) (And.intro (And.intro (And.intro @grC_one @grC_all) (And.intro @gr_locs (And.intro @gr_evs @gr_rf))) (And.intro (And.intro @gr_co (And.intro @gr_rmw @gr_data)) (And.intro @gr_ctrl (And.intro @gr_ctrli @frz_gr))))) (And.intro (And.intro (And.intro (And.intro @frz_ev @vis_gr) (And.intro @vis_ev (And.intro @splice_ev @evsC_len))) (And.intro (And.intro @coC_len (And.intro @o_raw @vRaw_fn)) (And.intro @o_see (And.intro @vSee_fn @res_0)))) (And.intro (And.intro (And.intro @retP_nrm @retP_ret) (And.intro @o_mget (And.intro @vMget_S @mgS_map))) (And.intro (And.intro @o_mkmap (And.intro @o_mput @vMput_S)) (And.intro @mpS_map (And.intro @mpO_none @part_22)))))):=(And.intro (And.intro (And.intro (And.intro (And.intro @evC_len @evC_one) (And.intro @evC_flat (And.intro @evC_all @ev_th))) (And.intro (And.intro @ev_kd (And.intro @ev_md @ev_lc)) (And.intro @ev_vl (And.intro @ev_ex @grC_len)))) (And.intro (And.intro (And.intro @grC_one @grC_all) (And.intro @gr_locs (And.intro @gr_evs @gr_rf))) (And.intro (And.intro @gr_co (And.intro @gr_rmw @gr_data)) (And.intro @gr_ctrl (And.intro @gr_ctrli @frz_gr))))) (And.intro (And.intro (And.intro (And.intro @frz_ev @vis_gr) (And.intro @vis_ev (And.intro @splice_ev @evsC_len))) (And.intro (And.intro @coC_len (And.intro @o_raw @vRaw_fn)) (And.intro @o_see (And.intro @vSee_fn @res_0)))) (And.intro (And.intro (And.intro @retP_nrm @retP_ret) (And.intro @o_mget (And.intro @vMget_S @mgS_map))) (And.intro (And.intro @o_mkmap (And.intro @o_mput @vMput_S)) (And.intro @mpS_map (And.intro @mpO_none @part_22))))))
end Go.Ab
end
section
set_option linter.unusedVariables false
set_option linter.unusedSimpArgs false
namespace Go.Ab
variable {F:Funs}
structure EcoSt (X:Gr) (l:List (Int × Int)) (g:G):Prop where
 gr:g.hp 0 = some (.cells (grC X) false)
 put:∃ t,g.hp 2 = some (.cells [.sl (pairsC l) l.length t] false)∧Live g 2 t
 f4:g.hp 4 = some (.cells [.fn 92 [] [.mp 2 0]] false)
 f7:g.hp 7 = some (.cells [.fn 93 [] [.mp 0 0,.mp 4 0]] false)
 m9:g.hp 9 = some (.map [(.s ⟨#[114,102]⟩,.fn 94 [] [.mp 4 0]),(.s ⟨#[99,111]⟩,.fn 95 [] [.mp 7 0]),(.s ⟨#[102,114]⟩,.fn 96 [] [.mp 7 0])])
 nx:9 < g.nx
def Kept (g g':G):Prop:=g.nx≤g'.nx∧∀ i,9 < i→i < g.nx→CM (g.hp i)→g'.hp i = g.hp i
theorem Kept.refl (g:G):Kept g g:=⟨Nat.le_refl _,fun _ _ _ _ => rfl⟩
theorem Kept.trans {g g1 g2:G} (h:Kept g g1) (k:Kept g1 g2):Kept g g2:=⟨Nat.le_trans h.1 k.1,fun i h1 h2 h3 => by
 have e:=h.2 i h1 h2 h3
 rw[←e]
 exact k.2 i h1 (Nat.lt_of_lt_of_le h2 h.1) (by rw[e];exact h3)⟩
theorem EcoSt.same {X:Gr} {l:List (Int × Int)} {g g':G} (h:EcoSt X l g) (k:Kept g g') (h9:∀ i,i≤9→g'.hp i = g.hp i) (ht:∀ i b,g.hp i = some (.tok b)→g'.hp i = g.hp i):EcoSt X l g':=by
 obtain ⟨t,h1,h2⟩:=h.put
 refine ⟨by rw[h9 0 (by omega)];exact h.gr,⟨t,by rw[h9 2 (by omega)];exact h1,?_⟩,by rw[h9 4 (by omega)];exact h.f4,by rw[h9 7 (by omega)];exact h.f7,by rw[h9 9 (by omega)];exact h.m9,Nat.lt_of_lt_of_le h.nx k.1⟩
 rcases h2 with rfl | ⟨τ,rfl,hτ,hlt⟩
 ·exact .inl rfl
 ·exact .inr ⟨τ,rfl,by rw[ht τ _ hτ];exact hτ,Nat.lt_of_lt_of_le hlt k.1⟩
end Go.Ab
end
section
set_option linter.unusedVariables false
set_option linter.unusedSimpArgs false
namespace Go.Ab
variable {F:Funs}
theorem EcoSt.on {X:Gr} {l:List (Int × Int)} {g:G} (h:EcoSt X l g) {n:Nat} (hn:g.nx≤n):EcoSt X l ⟨g.hp,n⟩:=
 h.same ⟨hn,fun _ _ _ _ => rfl⟩ (fun _ _ => rfl) (fun _ _ _ => rfl)
theorem Kept.on {g g':G} (h:Kept g g') {n:Nat} (hn:g'.nx≤n):Kept g ⟨g'.hp,n⟩:=⟨Nat.le_trans h.1 hn,h.2⟩
theorem Kept.from {g g':G} {n:Nat} (hn:g.nx≤n) (h:Kept ⟨g.hp,n⟩ g'):Kept g g':=⟨Nat.le_trans hn h.1,fun i h1 h2 h3 => h.2 i h1 (Nat.lt_of_lt_of_le h2 hn) h3⟩
end Go.Ab
end
section
set_option linter.unusedVariables false
set_option linter.unusedSimpArgs false
namespace Go.Ab
variable {F:Funs}
theorem EcoSt.grow {X:Gr} {l:List (Int × Int)} {g g':G} (h:EcoSt X l g) (hn:g.nx≤g'.nx) (ho:∀ i,i < g.nx→g'.hp i = g.hp i):EcoSt X l g'∧Kept g g':=by
 have h9:=h.nx
 obtain ⟨t,h1,h2⟩:=h.put
 refine ⟨⟨by rw[ho 0 (by omega)];exact h.gr,⟨t,by rw[ho 2 (by omega)];exact h1,?_⟩,by rw[ho 4 (by omega)];exact h.f4,by rw[ho 7 (by omega)];exact h.f7,by rw[ho 9 (by omega)];exact h.m9,by omega⟩,hn,fun i _ hi _ => ho i hi⟩
 rcases h2 with rfl | ⟨τ,rfl,hτ,hlt⟩
 ·exact .inl rfl
 ·exact .inr ⟨τ,rfl,by rw[ho τ hlt];exact hτ,by omega⟩
end Go.Ab
end
section
set_option linter.unusedVariables false
set_option linter.unusedSimpArgs false
namespace Go.Ab
variable {F:Funs}
def resC (agg:Option Nat) (g:G):AV→Option AV
 | .mp b off => match g.hp b with
   | some (.cells cs _) => part cs off agg
   | _ => none
 | _ => none
theorem res_cell (n agg e g):resE [.cell n agg] e g = resC agg g (e n):=by
 simp only[resE,resAll,resOne,resC]
 cases e n<;>try rfl
 rename_i b off
 simp only
 cases g.hp b with
 | none => rfl
 | some bl =>
   cases bl with
   | cells cs ro => simp only;cases part cs off agg<;>rfl
   | map _ => rfl
   | tok _ => rfl
end Go.Ab
end
section
set_option linter.unusedVariables false
set_option linter.unusedSimpArgs false
namespace Go.Ab
variable {F:Funs}
theorem part_ag2 (a b:AV):part [a,b] 0 (some 2) = some (.agg [a,b]):=rfl
theorem frz_ag2 (hp:Nat→Option Blk) (x y:Int):frz hp depth (.agg [.i .i64 x,.i .i64 y]) = some (.agg [.i .i64 x,.i .i64 y]):=by
 refine frz_d_agg ?_
 show frzL _ (7 + 1) _ = _
 simp only[frzL,frz]
def tkC (e:List (Int × Int)):List AV:=e.flatMap fun p => [.i .i64 p.1,.i .i64 p.2]
def exV (e:List (Int × Int)):AV:=.sl (tkC e) e.length .non
theorem tkC_len (e:List (Int × Int)):(tkC e).length = e.length * 2:=by
 induction e with
 | nil => rfl
 | cons p e ih => simp only[tkC,List.flatMap_cons,List.length_append,List.length_cons,List.length_nil] at ih ⊢;omega
structure Ins where
 kd:Int
 md:Int
 md2:Int
 rg:Int
 lc:Int
 ex:List (Int × Int)
 n:Int
def insC (x:Ins):List AV:=[.i .i64 x.kd,.i .i64 x.md,.i .i64 x.md2,.i .i64 x.rg,.i .i64 x.lc,exV x.ex,.i .i64 x.n]
def exM (a b m:Int):List (Int × Int):=
 if m≤2 then [(1,b)] else if m≤5 then [(2,a)] else if m = 6 then [(2,a),(2,a),(3,4)] else if m = 7 then [(2,a),(1,b),(3,5)] else if m = 8 then [(2,a),(1,b),(3,6)] else [(1,b),(1,1),(3,3)]
def exN (v:Int):List (Int × Int):=exM (place v 1073741824 / 10 % 3) (place v 1073741824 / 30 % 3) (place v 1073741824 % 10)
theorem sp_num (h:F 108 = some A_xlaw00_num) (v:Int):pureS F 108 [.i .i64 v] = some (.agg [.i .i64 1,.i .i64 v]):=by
 refine pure_of h ?_
 simp (disch:=omega) only[A_xlaw00_num,wp,qa,qb,qc,res_cell,resC,part_ag2,frz_ag2]
theorem sp_reg (h:F 123 = some A_xlaw00_reg) (v:Int):pureS F 123 [.i .i64 v] = some (.agg [.i .i64 2,.i .i64 v]):=by
 refine pure_of h ?_
 simp (disch:=omega) only[A_xlaw00_reg,wp,qa,qb,qc,res_cell,resC,part_ag2,frz_ag2]
theorem sp_op (h:F 124 = some A_xlaw00_op) (v:Int):pureS F 124 [.i .i64 v] = some (.agg [.i .i64 3,.i .i64 v]):=by
 refine pure_of h ?_
 simp (disch:=omega) only[A_xlaw00_op,wp,qa,qb,qc,res_cell,resC,part_ag2,frz_ag2]
def acqM (w:Int):Int:=if w / 7 % 3 = 2 then 1 else 0
def relM (w:Int):Int:=if w / 11 % 3 = 2 then 2 else 0
def insT (t w left:Int):Ins:=
 if t < 6 then ⟨1,acqM w,0,w % 3,w / 3 % 2,[],0⟩
 else if t < 12 then ⟨2,relM w,0,0,w / 3 % 2,exN (w / 12),0⟩
 else if t < 15 then ⟨3,1 + w / 5 % 4,0,0,0,[],0⟩
 else if t < 16 then ⟨4,acqM w,relM w,w % 3,w / 3 % 2,[(1,w / 17 % 2)],0⟩
 else if t < 18 then ⟨5,0,0,w % 3,0,exN (w / 12),0⟩
 else ⟨6,0,0,0,0,exN (w / 12),w / 19 % (left + 1)⟩
def insN (v left:Int):Ins:=insT (place v 1099511627776 % 20) (place v 1099511627776 / 20) left
end Go.Ab
end
section
set_option linter.unusedVariables false
set_option linter.unusedSimpArgs false
namespace Go.Ab
variable {F:Funs}
def insLC (l:List Ins):List AV:=l.flatMap insC
def fence0:Ins:=⟨3,4,0,0,0,[],0⟩
def skips (l:List Ins):Nat:=l.countP fun x => x.kd == 6
structure PreOk (l:List Int) (T t n:Nat) (pre:List Ins):Prop where
 ins:∀ k,k < pre.length→(∃ v,pre.getD k fence0 = insN v ((n - 1 - k:Nat):Int))∨pre.getD k fence0 = fence0
structure ThrOk (l:List Int) (T t most:Nat) (th:List Ins):Prop where
 most:th.length≤most
 at_:∀ k,k < th.length→t + k * T < l.length
 pre:PreOk l T t th.length th
 sk:skips th≤2
def retV (rs:List ARes) (P:AV→Prop):Out→Env→G→Prop:=fun o e g => ∃ v,retQ rs v o e g∧P v
theorem pureV_of {f:Nat} {fn:AFun} {asx:List AV} {P:AV→Prop} (hF:F f = some fn) (h:W F fn.body (argEnv asx) g0 (retV fn.res P)) (ha:arB fn asx = true:=by rfl):∃ v,pureS F f asx = some v∧P v:=by
 obtain ⟨o,e,g,h1,v,h2,hp⟩:=h
 exact ⟨v,pure_of hF ⟨o,e,g,h1,h2⟩ ha,hp⟩
end Go.Ab
end
section
set_option linter.unusedVariables false
set_option linter.unusedSimpArgs false
namespace Go.Ab
def ExOk (ex:List (Int × Int)):Prop:=∃ a b m:Int,0≤a∧a < 3∧0≤b∧b < 3∧0≤m∧m < 10∧ex = exM a b m
theorem exN_ok (v:Int):ExOk (exN v):=by
 obtain ⟨p0,p1⟩:=place_lt (v:=v) (n:=1073741824) (by omega)
 exact ⟨_,_,_,by omega,by omega,by omega,by omega,by omega,by omega,rfl⟩
inductive InsK (left:Int):Ins→Prop
 | ld (md rg lc:Int) (h1:md = 0∨md = 1) (h2:rg = 0∨rg = 1∨rg = 2) (h3:lc = 0∨lc = 1):InsK left ⟨1,md,0,rg,lc,[],0⟩
 | st (md lc:Int) (ex:List (Int × Int)) (h1:md = 0∨md = 2) (h3:lc = 0∨lc = 1) (he:ExOk ex):InsK left ⟨2,md,0,0,lc,ex,0⟩
 | fe (md:Int) (h1:md = 1∨md = 2∨md = 3∨md = 4):InsK left ⟨3,md,0,0,0,[],0⟩
 | fa (md md2 rg lc c:Int) (h1:md = 0∨md = 1) (h4:md2 = 0∨md2 = 2) (h2:rg = 0∨rg = 1∨rg = 2) (h3:lc = 0∨lc = 1) (h5:c = 0∨c = 1):InsK left ⟨4,md,md2,rg,lc,[(1,c)],0⟩
 | se (rg:Int) (ex:List (Int × Int)) (h2:rg = 0∨rg = 1∨rg = 2) (he:ExOk ex):InsK left ⟨5,0,0,rg,0,ex,0⟩
 | sk (ex:List (Int × Int)) (n:Int) (he:ExOk ex) (h0:0≤n) (h1:n≤left):InsK left ⟨6,0,0,0,0,ex,n⟩
theorem acq_01 (w:Int):acqM w = 0∨acqM w = 1:=by unfold acqM;split<;>omega
theorem rel_02 (w:Int):relM w = 0∨relM w = 2:=by unfold relM;split<;>omega
theorem insN_k {v left:Int} (h:0≤left):InsK left (insN v left):=by
 obtain ⟨p0,p1⟩:=place_lt (v:=v) (n:=1099511627776) (by omega)
 unfold insN
 generalize place v 1099511627776 = k at p0 p1
 have w0:0≤k / 20:=by omega
 generalize k / 20 = w at w0
 generalize k % 20 = t
 unfold insT
 split
 ·exact .ld _ _ _ (acq_01 w) (by omega) (by omega)
 split
 ·exact .st _ _ _ (rel_02 w) (by omega) (exN_ok _)
 split
 ·exact .fe _ (by omega)
 split
 ·exact .fa _ _ _ _ _ (acq_01 w) (rel_02 w) (by omega) (by omega) (by omega)
 split
 ·exact .se _ _ (by omega) (exN_ok _)
 ·have h1:=Int.emod_nonneg (w / 19) (by omega:left + 1≠0)
  have h2:=Int.emod_lt_of_pos (w / 19) (by omega:0 < left + 1)
  exact .sk _ _ (exN_ok _) h1 (by omega)
theorem fence_k (left:Int):InsK left fence0:=.fe 4 (by omega)
theorem PreOk.k {l:List Int} {T t n:Nat} {pre:List Ins} (h:PreOk l T t n pre) {k:Nat} (hk:k < pre.length):InsK ((n - 1 - k:Nat):Int) (pre.getD k fence0):=by
 rcases h.ins k hk with ⟨v,h1⟩ | h1
 ·rw[h1];exact insN_k (by omega)
 ·rw[h1];exact fence_k _
end Go.Ab
end
section
set_option linter.unusedVariables false
set_option linter.unusedSimpArgs false
namespace Go.Ab
structure ThK (th:List Ins):Prop where
 len:th.length≤12
 ins:∀ k,k < th.length→InsK ((th.length - 1 - k:Nat):Int) (th.getD k fence0)
 sk:skips th≤2
theorem ThrOk.k {l:List Int} {T t most:Nat} {th:List Ins} (h:ThrOk l T t most th) (hm:most≤12):ThK th:=
 ⟨Nat.le_trans h.most hm,fun k hk => h.pre.k hk,h.sk⟩
end Go.Ab
end
section
namespace Go.Ab
def A_xref02_Check:AFun:={ res:=[.t 2],body:=(.seq (.reg false [qo 2 (.mv (.c (.b false)))])
 (.seq (.reg false [qo 3 (.mv (.c (.i .i64 0)))])
 (.seq (.seq (.reg false [qo 4 (.mv (.c (.i .i64 0)))])
 (.blk 0 (.loop (.seq (.seq (.reg false [qm 5 4,qm 6 0,qo 7 (.len (.t 6)),qo 8 (.bin .lss (.t 5) (.t 7))])
 (.cond (.t 8) .skip
 (.ext 0)))
 (.seq (.blk 1 (.seq (.seq (.reg false [qm 11 0,qm 12 4,qo 13 (.ia 2 (.t 11) (.t 12)),qo 14 (.ld (some 2) (.t 13)),qo 15 (.call .pure (.c (.fn 125 [] [])) [.t 14]),qo 16 (.un .not (.t 15))])
 (.cond (.t 16) (.seq (.reg false [qo 2 (.mv (.c (.b false)))])
 .ret)
 .skip))
 (.seq (.seq (.reg false [qm 17 0,qm 18 4,qo 19 (.ia 2 (.t 17) (.t 18)),qo 20 (.fa 0 (.t 19)),qo 21 (.ld none (.t 20)),qo 22 (.bin .neq (.t 21) (.c (.i .i64 3)))])
 (.cond (.t 22) (.seq (.reg false [qm 23 3,qo 24 (.bin .add (.t 23) (.c (.i .i64 1))),qm 3 24])
 (.ext 1))
 .skip))
 (.seq (.seq (.reg false [qm 25 3,qo 26 (.bin .lss (.t 25) (.c (.i .i64 2)))])
 (.cond (.t 26) (.seq (.reg false [qo 2 (.mv (.c (.b false)))])
 .ret)
 .skip))
 (.reg false [qm 27 3,qo 28 (.bin .sub (.t 27) (.c (.i .i64 1))),qm 3 28])))))
 (.reg false [qm 9 4,qo 10 (.bin .add (.t 9) (.c (.i .i64 1))),qm 4 10]))))))
 (.seq (.reg false [qm 29 3,qo 30 (.bin .eql (.t 29) (.c (.i .i64 1))),qm 31 30,qg 32 (.mv (.t 0)) 31 true,qg 33 (.len (.t 32)) 31 true,qg 34 (.bin .leq (.t 33) (.c (.i .i64 9))) 31 true,qo 35 (.pick (.t 31) (.t 34) (.c (.b false))),qm 2 35])
 .ret)))) }
def A_xref02_Eval:AFun:={ res:=[.t 4],body:=(.seq (.reg false [qo 4 (.mv (.c (.i .i64 0)))])
 (.seq (.seq (.reg false [qm 8 0,qo 9 (.call .pure (.c (.fn 109 [] [])) [.t 8]),qo 10 (.un .not (.t 9))])
 (.cond (.t 10) (.seq (.reg false [qo 4 (.mv (.c (.i .i64 0)))])
 .ret)
 .skip))
 (.seq (.reg false [qo 5 (.mv (.c (.sl [] 0 .rig)))])
 (.seq (.seq (.reg false [qo 6 (.mv (.c (.i .i64 0)))])
 (.blk 0 (.loop (.seq (.seq (.reg false [qm 11 6,qm 12 0,qo 13 (.len (.t 12)),qo 14 (.bin .lss (.t 11) (.t 13))])
 (.cond (.t 14) .skip
 (.ext 0)))
 (.seq (.blk 1 (.seq (.reg false [qm 17 5,qo 18 (.len (.t 17)),qm 7 18])
 (.blk 2 (.seq (.reg false [qm 23 0,qm 24 6,qo 25 (.ia 2 (.t 23) (.t 24)),qo 26 (.fa 0 (.t 25)),qo 27 (.ld none (.t 26)),qo 28 (.bin .eql (.t 27) (.c (.i .i64 1))),qm 22 28])
 (.cond (.t 22) (.reg false [qm 29 5,qm 30 0,qm 31 6,qo 32 (.ia 2 (.t 30) (.t 31)),qo 33 (.fa 1 (.t 32)),qo 34 (.ld none (.t 33)),qo 35 (.bsl true 1 ([.i .i64 0]) [(0,1,.t 34)]),qo 36 (.appM 1 8 (.t 29) (.t 35)),qm 5 36])
 (.seq (.reg false [qm 38 0,qm 39 6,qo 40 (.ia 2 (.t 38) (.t 39)),qo 41 (.fa 0 (.t 40)),qo 42 (.ld none (.t 41)),qo 43 (.bin .eql (.t 42) (.c (.i .i64 3))),qm 37 43])
 (.cond (.t 37) (.reg true [qm 44 5,qm 45 7,qo 46 (.bin .sub (.t 45) (.c (.i .i64 2))),qo 47 (.slice 1 (.t 44) none (some (.t 46)) none),qm 48 0,qm 49 6,qo 50 (.ia 2 (.t 48) (.t 49)),qo 51 (.fa 1 (.t 50)),qo 52 (.ld none (.t 51)),qm 53 5,qm 54 7,qo 55 (.bin .sub (.t 54) (.c (.i .i64 2))),qo 56 (.ia 1 (.t 53) (.t 55)),qo 57 (.ld none (.t 56)),qm 58 5,qm 59 7,qo 60 (.bin .sub (.t 59) (.c (.i .i64 1))),qo 61 (.ia 1 (.t 58) (.t 60)),qo 62 (.ld none (.t 61)),qo 63 (.call .pure (.c (.fn 128 [] [])) [.t 52,.t 57,.t 62]),qo 64 (.bsl true 1 ([.i .i64 0]) [(0,1,.t 63)]),qo 65 (.appM 1 8 (.t 47) (.t 64)),qm 5 65])
 (.seq (.reg false [qm 67 0,qm 68 6,qo 69 (.ia 2 (.t 67) (.t 68)),qo 70 (.fa 1 (.t 69)),qo 71 (.ld none (.t 70)),qm 72 1,qo 73 (.len (.t 72)),qo 74 (.bin .lss (.t 71) (.t 73)),qm 66 74])
 (.cond (.t 66) (.reg false [qm 75 5,qm 76 1,qm 77 0,qm 78 6,qo 79 (.ia 2 (.t 77) (.t 78)),qo 80 (.fa 1 (.t 79)),qo 81 (.ld none (.t 80)),qo 82 (.ia 1 (.t 76) (.t 81)),qo 83 (.ld none (.t 82)),qo 84 (.bsl true 1 ([.i .i64 0]) [(0,1,.t 83)]),qo 85 (.appM 1 8 (.t 75) (.t 84)),qm 5 85])
 (.reg false [qm 19 5,qo 20 (.bsl true 1 ([.i .i64 0]) [(0,1,.c (.i .i64 0))]),qo 21 (.appM 1 8 (.t 19) (.t 20)),qm 5 21]))))))))))
 (.reg false [qm 15 6,qo 16 (.bin .add (.t 15) (.c (.i .i64 1))),qm 6 16]))))))
 (.seq (.reg false [qm 86 5,qo 87 (.ia 1 (.t 86) (.c (.i .i64 0))),qo 88 (.ld none (.t 87)),qm 4 88])
 .ret))))) }
def A_xref02_word:AFun:={ res:=[.t 2],body:=(.seq (.reg false [qo 1 (.box (.t 0)),qo 2 (.mv (.c (.b false)))])
 (.seq (.seq (.reg false [qo 3 (.fa 0 (.t 1)),qo 4 (.ld none (.t 3))])
 (.blk 0 (.seq (.reg false [qo 6 (.bin .eql (.t 4) (.c (.i .i64 1))),qm 5 6])
 (.cond (.t 5) (.seq (.reg false [qo 7 (.fa 1 (.t 1)),qo 8 (.ld none (.t 7)),qo 9 (.bin .geq (.t 8) (.c (.i .i64 (-2147483648)))),qm 10 9,qg 11 (.fa 1 (.t 1)) 10 true,qg 12 (.ld none (.t 11)) 10 true,qg 13 (.bin .leq (.t 12) (.c (.i .i64 2147483647))) 10 true,qo 14 (.pick (.t 10) (.t 13) (.c (.b false))),qm 2 14])
 .ret)
 (.seq (.reg false [qo 16 (.bin .eql (.t 4) (.c (.i .i64 2))),qm 15 16])
 (.cond (.t 15) (.seq (.reg false [qo 17 (.fa 1 (.t 1)),qo 18 (.ld none (.t 17)),qo 19 (.bin .geq (.t 18) (.c (.i .i64 0))),qm 20 19,qg 21 (.fa 1 (.t 1)) 20 true,qg 22 (.ld none (.t 21)) 20 true,qg 23 (.bin .lss (.t 22) (.c (.i .i64 8))) 20 true,qo 24 (.pick (.t 20) (.t 23) (.c (.b false))),qm 2 24])
 .ret)
 (.seq (.reg false [qo 26 (.bin .eql (.t 4) (.c (.i .i64 3))),qm 25 26])
 (.cond (.t 25) (.seq (.reg false [qo 27 (.fa 1 (.t 1)),qo 28 (.ld none (.t 27)),qo 29 (.bin .geq (.t 28) (.c (.i .i64 1))),qm 30 29,qg 31 (.fa 1 (.t 1)) 30 true,qg 32 (.ld none (.t 31)) 30 true,qg 33 (.bin .leq (.t 32) (.c (.i .i64 6))) 30 true,qo 34 (.pick (.t 30) (.t 33) (.c (.b false))),qm 2 34])
 .ret)
 .skip))))))))
 (.seq (.reg false [qo 2 (.mv (.c (.b false)))])
 .ret))) }
def A_xref02_Do:AFun:={ res:=[.t 6],body:=(.seq (.reg false [qo 6 (.mv (.c (.i .i64 0)))])
 (.seq (.seq (.reg false [qm 7 0])
 (.blk 0 (.seq (.reg false [qo 9 (.bin .eql (.t 7) (.c (.i .i64 1))),qm 8 9])
 (.cond (.t 8) (.seq (.reg false [qm 10 1,qm 11 2,qo 12 (.bin .add (.t 10) (.t 11)),qm 6 12])
 .ret)
 (.seq (.reg false [qo 14 (.bin .eql (.t 7) (.c (.i .i64 2))),qm 13 14])
 (.cond (.t 13) (.seq (.reg false [qm 15 1,qm 16 2,qo 17 (.bin .sub (.t 15) (.t 16)),qm 6 17])
 .ret)
 (.seq (.reg false [qo 19 (.bin .eql (.t 7) (.c (.i .i64 3))),qm 18 19])
 (.cond (.t 18) (.seq (.reg false [qm 20 1,qm 21 2,qo 22 (.bin .mul (.t 20) (.t 21)),qm 6 22])
 .ret)
 (.seq (.reg false [qo 24 (.bin .eql (.t 7) (.c (.i .i64 4))),qm 23 24])
 (.cond (.t 23) (.seq (.reg false [qm 25 1,qm 26 2,qo 27 (.bin .xor (.t 25) (.t 26)),qm 6 27])
 .ret)
 (.seq (.reg false [qo 29 (.bin .eql (.t 7) (.c (.i .i64 5))),qm 28 29])
 (.cond (.t 28) (.seq (.reg false [qm 30 1,qm 31 2,qo 32 (.bin .eql (.t 30) (.t 31))])
 (.cond (.t 32) (.seq (.reg false [qo 6 (.mv (.c (.i .i64 1)))])
 .ret)
 .skip))
 (.seq (.reg false [qo 34 (.bin .eql (.t 7) (.c (.i .i64 6))),qm 33 34])
 (.cond (.t 33) (.seq (.reg false [qm 35 1,qm 36 2,qo 37 (.bin .lss (.t 35) (.t 36))])
 (.cond (.t 37) (.seq (.reg false [qo 6 (.mv (.c (.i .i64 1)))])
 .ret)
 .skip))
 .skip))))))))))))))
 (.seq (.reg false [qo 6 (.mv (.c (.i .i64 0)))])
 .ret))) }
def A_xref02_Digits:AFun:={ res:=[.t 2],body:=(.seq (.reg false [qo 2 (.mv (.c (.s ⟨#[]⟩)))])
 (.seq (.blk 0 (.seq (.reg false [qm 5 0,qo 6 (.bin .leq (.t 5) (.c (.i .i64 (-10)))),qm 4 6])
 (.cond (.t 4) (.seq (.reg false [qm 7 0,qo 8 (.bin .rem (.t 7) (.c (.i .i64 10))),qo 9 (.un .neg (.t 8)),qm 3 9])
 (.seq (.reg true [qm 10 0,qo 11 (.bin .quo (.t 10) (.c (.i .i64 10))),qo 12 (.call .pure (.c (.fn 493 [] [])) [.t 11]),qm 13 3,qm 14 3,qo 15 (.bin .add (.t 14) (.c (.i .i64 1))),qo 16 (.sslice (.c (.s ⟨#[48,49,50,51,52,53,54,55,56,57]⟩)) (some (.t 13)) (some (.t 15))),qo 17 (.bin .add (.t 12) (.t 16)),qm 2 17])
 .ret))
 (.seq (.reg false [qm 19 0,qo 20 (.bin .lss (.t 19) (.c (.i .i64 0))),qm 18 20])
 (.cond (.t 18) (.seq (.reg false [qm 21 0,qo 22 (.un .neg (.t 21)),qm 23 0,qo 24 (.un .neg (.t 23)),qo 25 (.bin .add (.t 24) (.c (.i .i64 1))),qo 26 (.sslice (.c (.s ⟨#[48,49,50,51,52,53,54,55,56,57]⟩)) (some (.t 22)) (some (.t 25))),qo 27 (.bin .add (.c (.s ⟨#[45]⟩)) (.t 26)),qm 2 27])
 .ret)
 (.seq (.reg false [qm 29 0,qo 30 (.bin .lss (.t 29) (.c (.i .i64 10))),qm 28 30])
 (.cond (.t 28) (.seq (.reg false [qm 31 0,qm 32 0,qo 33 (.bin .add (.t 32) (.c (.i .i64 1))),qo 34 (.sslice (.c (.s ⟨#[48,49,50,51,52,53,54,55,56,57]⟩)) (some (.t 31)) (some (.t 33))),qm 2 34])
 .ret)
 .skip)))))))
 (.seq (.reg true [qm 35 0,qo 36 (.bin .quo (.t 35) (.c (.i .i64 10))),qo 37 (.call .pure (.c (.fn 493 [] [])) [.t 36]),qm 38 0,qo 39 (.bin .rem (.t 38) (.c (.i .i64 10))),qm 40 0,qo 41 (.bin .rem (.t 40) (.c (.i .i64 10))),qo 42 (.bin .add (.t 41) (.c (.i .i64 1))),qo 43 (.sslice (.c (.s ⟨#[48,49,50,51,52,53,54,55,56,57]⟩)) (some (.t 39)) (some (.t 42))),qo 44 (.bin .add (.t 37) (.t 43)),qm 2 44])
 .ret))) }
end Go.Ab
end
section
set_option linter.unusedVariables false
set_option linter.unusedSimpArgs false
namespace Go.Ab
variable {F:Funs}
def wdB (p:Int × Int):Bool:=
 if p.1 = 1 then decide (-2147483648≤p.2) && decide (p.2≤2147483647) else if p.1 = 2 then decide (0≤p.2) && decide (p.2 < 8) else if p.1 = 3 then decide (1≤p.2) && decide (p.2≤6) else false
def chkG:List (Int × Int)→Nat→Option Nat
 | [],d => some d
 | p :: l,d => if wdB p = true then (if p.1 = 3 then (if d < 2 then none else chkG l (d - 1)) else chkG l (d + 1)) else none
theorem chkG_cons (p l d):chkG (p :: l) d = if wdB p = true then (if p.1 = 3 then (if d < 2 then none else chkG l (d - 1)) else chkG l (d + 1)) else none:=by simp only[chkG]
theorem chkG_nil (d):chkG [] d = some d:=by simp only[chkG]
def chkX (ex:List (Int × Int)):Bool:=match chkG ex 0 with
 | some d => decide (d = 1) && decide (ex.length≤9)
 | none => false
theorem sp_word (h:F 125 = some A_xref02_word) (p:Int × Int):pureS F 125 [.agg [.i .i64 p.1,.i .i64 p.2]] = some (.b (wdB p)):=by
 refine pure_of h ?_
 unfold wdB
 by_cases c1:p.1 = 1
 ·by_cases c2:-2147483648≤p.2
  ·by_cases c3:p.2≤2147483647<;>simp (disch:=omega) only[A_xref02_word,wp,qa,qb,qc,c1,c2,c3,if_true,Int.reduceBEq]
  ·simp (disch:=omega) only[A_xref02_word,wp,qa,qb,qc,c1,c2,if_true,Int.reduceBEq]
 have c1':(p.1 == 1) = false:=by simpa using c1
 by_cases c4:p.1 = 2
 ·by_cases c2:0≤p.2
  ·by_cases c3:p.2 < 8<;>simp (disch:=omega) only[A_xref02_word,wp,qa,qb,qc,c4,c2,c3,if_true,if_false,Int.reduceBEq,Int.reduceEq]
  ·simp (disch:=omega) only[A_xref02_word,wp,qa,qb,qc,c4,c2,if_true,if_false,Int.reduceBEq,Int.reduceEq]
 have c4':(p.1 == 2) = false:=by simpa using c4
 by_cases c5:p.1 = 3
 ·by_cases c2:1≤p.2
  ·by_cases c3:p.2≤6<;>simp (disch:=omega) only[A_xref02_word,wp,qa,qb,qc,c5,c2,c3,if_true,if_false,Int.reduceBEq,Int.reduceEq]
  ·simp (disch:=omega) only[A_xref02_word,wp,qa,qb,qc,c5,c2,if_true,if_false,Int.reduceBEq,Int.reduceEq]
 have c5':(p.1 == 3) = false:=by simpa using c5
 simp (disch:=omega) only[A_xref02_word,wp,qa,qb,qc,c1,c4,c5,c1',c4',c5',if_false]
theorem tk_drop:∀ {l:List (Int × Int)} {k:Nat} (h:k < l.length),(tkC l).drop (k * 2) = .i .i64 (l.getD k (0,0)).1 :: .i .i64 (l.getD k (0,0)).2 :: tkC (l.drop (k + 1))
 | a :: l,0,_ => by simp[tkC]
 | a :: l,k + 1,h => by
   have:=tk_drop (l:=l) (k:=k) (by simpa using h)
   simp only[tkC,List.flatMap_cons,Nat.add_mul,Nat.one_mul] at this ⊢
   rw[Nat.add_comm,←List.drop_drop]
   simpa using this
theorem tk_ag {l:List (Int × Int)} {k:Nat} (h:k < l.length):part ((tkC l).drop (k * 2)) 0 (some 2) = some (.agg [.i .i64 (l.getD k (0,0)).1,.i .i64 (l.getD k (0,0)).2]):=by
 rw[tk_drop h];simp[part]
theorem tk_k {l:List (Int × Int)} {k:Nat} (h:k < l.length):part ((tkC l).drop (k * 2)) 0 none = some (.i .i64 (l.getD k (0,0)).1):=by
 rw[tk_drop h];rfl
theorem tk_v {l:List (Int × Int)} {k:Nat} (h:k < l.length):part (((tkC l).drop (k * 2)).drop 1) 0 none = some (.i .i64 (l.getD k (0,0)).2):=by
 rw[tk_drop h];rfl
theorem tk_l {l:List (Int × Int)} {k:Nat} (h:k < l.length):2≤((tkC l).drop (k * 2)).length:=by
 rw[tk_drop h];simp
theorem drop_cons {α:Type} {l:List α} {d:α} {k:Nat} (h:k < l.length):l.drop k = l.getD k d :: l.drop (k + 1):=by
 rw[List.drop_eq_getElem_cons h,List.getD_eq_getElem?_getD,List.getElem?_eq_getElem h];rfl
theorem sp_exCheck (h109:F 109 = some A_xref02_Check) (h125:F 125 = some A_xref02_word) (ex:List (Int × Int)) (hl:ex.length≤1000000):pureS F 109 [exV ex] = some (.b (chkX ex)):=by
 refine pure_of h109 ?_
 unfold exV
 simp (disch:=omega) only[A_xref02_Check,wp,qa,qb,qc]
 refine blk_cutR (fun e g => ∃ d:Nat,e 0 = .sl (tkC ex) ex.length .non∧e 3 = .i .i64 ((d:Nat):Int)∧chkG ex 0 = some d) ?_ ?_
 ·refine W_loop (fun q e g => ∃ k d:Nat,q = ex.length - k∧k≤ex.length∧d≤k∧e 0 = .sl (tkC ex) ex.length .non∧e 3 = .i .i64 ((d:Nat):Int)∧e 4 = .i .i64 ((k:Nat):Int)∧chkG ex 0 = chkG (ex.drop k) d) ex.length ?_ ?_
  ·refine ⟨0,0,rfl,Nat.zero_le _,Nat.le_refl _,?_⟩
   simp (disch:=omega) only[wp,qa,qb,qc]
   exact ⟨rfl,rfl,rfl⟩
  ·rintro q e g ⟨k,d,rfl,hk,hd,e0,e3,e4,hc⟩
   by_cases c1:k < ex.length
   ·have c1':((k:Nat):Int) < ((ex.length:Nat):Int):=by omega
    have ha:=tk_ag c1
    have hkd:=tk_k c1
    have hl2:=tk_l c1
    have hw:=succ_wrap (k:=k) (by omega)
    have hwd:=succ_wrap (k:=d) (by omega)
    have hsp:=sp_word h125 (ex.getD k (0,0))
    have hdc:=drop_cons (d:=((0,0):Int × Int)) c1
    rw[hdc,chkG_cons] at hc
    generalize ex.getD k (0,0) = p at ha hkd hsp hc
    cases c2:wdB p with
    | false =>
      rw[c2] at hsp hc
      simp (disch:=omega) only[wp,qa,qb,qc,e0,e3,e4,c1',ha,hsp,Nat.mul_one,frz_ag2]
      unfold chkX
      rw[hc]
      simp
    | true =>
      rw[c2] at hsp hc
      rw[if_pos rfl] at hc
      by_cases c3:p.1 = 3
      ·rw[if_pos c3] at hc
       have c3':(p.1 != 3) = false:=by simpa using c3
       by_cases c4:d < 2
       ·rw[if_pos c4] at hc
        have c4':((d:Nat):Int) < 2:=by omega
        simp (disch:=omega) only[wp,qa,qb,qc,e0,e3,e4,c1',ha,hsp,hkd,c3',c4',frz_ag2]
        unfold chkX
        rw[hc]
       ·rw[if_neg c4] at hc
        have c4':¬ ((d:Nat):Int) < 2:=by omega
        have hs:IntKind.i64.wrap (((d:Nat):Int) - 1) = ((d - 1:Nat):Int):=by rw[i64_wrap (by omega) (by omega)];omega
        simp (disch:=omega) only[wp,qa,qb,qc,e0,e3,e4,c1',ha,hsp,hkd,c3',c4',hs,hw,frz_ag2]
        exact ⟨ex.length - (k + 1),by omega,k + 1,d - 1,rfl,by omega,by omega,rfl,rfl,hc⟩
      ·rw[if_neg c3] at hc
       have c3':(p.1 != 3) = true:=by simpa using c3
       simp (disch:=omega) only[wp,qa,qb,qc,e0,e3,e4,c1',ha,hsp,hkd,c3',hw,hwd,frz_ag2]
       exact ⟨ex.length - (k + 1),by omega,k + 1,d + 1,rfl,by omega,by omega,rfl,rfl,hc⟩
   ·have c1':¬ ((k:Nat):Int) < ((ex.length:Nat):Int):=by omega
    obtain rfl:k = ex.length:=by omega
    rw[List.drop_length] at hc
    simp (disch:=omega) only[wp,qa,qb,qc,e0,e3,e4,c1']
    exact ⟨d,rfl,hc⟩
 ·rintro e g ⟨d,e0,e3,hc⟩
  unfold chkX
  rw[hc]
  by_cases c1:d = 1
  ·subst c1
   have c2:((((1:Nat):Int)) == 1) = true:=rfl
   by_cases c3:ex.length≤9
   ·have c3':((ex.length:Nat):Int)≤9:=by omega
    simp (disch:=omega) only[wp,qa,qb,qc,e0,e3,c2,c3,c3']
   ·have c3':¬ ((ex.length:Nat):Int)≤9:=by omega
    simp (disch:=omega) only[wp,qa,qb,qc,e0,e3,c2,c3,c3']
  ·have c2:(((d:Nat):Int) == 1) = false:=by simp;omega
   simp (disch:=omega) only[wp,qa,qb,qc,e0,e3,c1,c2]
def xorI (a b:Int):Int:=IntKind.i64.wrap ((BitVec.ofInt IntKind.i64.bits a ^^^ BitVec.ofInt IntKind.i64.bits b).toNat:Nat)
theorem b_xor (a b:Int):abin .xor (.i .i64 a) (.i .i64 b) = some (.i .i64 (xorI a b)):=by simp[abin,ibin,xorI]
def doX (o a b:Int):Int:=
 if o = 1 then IntKind.i64.wrap (a + b) else if o = 2 then IntKind.i64.wrap (a - b) else if o = 3 then IntKind.i64.wrap (a * b) else if o = 4 then xorI a b else
  if o = 5 then (if a = b then 1 else 0) else if o = 6 then (if a < b then 1 else 0) else 0
theorem sp_do (h:F 128 = some A_xref02_Do) (o a b:Int):pureS F 128 [.i .i64 o,.i .i64 a,.i .i64 b] = some (.i .i64 (doX o a b)):=by
 refine pure_of h ?_
 unfold doX
 by_cases c1:o = 1
 ·simp (disch:=omega) only[A_xref02_Do,wp,qa,qb,qc,c1,if_true,Int.reduceBEq]
 have c1':(o == 1) = false:=by simpa using c1
 by_cases c2:o = 2
 ·simp (disch:=omega) only[A_xref02_Do,wp,qa,qb,qc,c2,if_true,if_false,Int.reduceBEq,Int.reduceEq]
 have c2':(o == 2) = false:=by simpa using c2
 by_cases c3:o = 3
 ·simp (disch:=omega) only[A_xref02_Do,wp,qa,qb,qc,c3,if_true,if_false,Int.reduceBEq,Int.reduceEq]
 have c3':(o == 3) = false:=by simpa using c3
 by_cases c4:o = 4
 ·simp (disch:=omega) only[A_xref02_Do,wp,qa,qb,qc,c4,if_true,if_false,Int.reduceBEq,Int.reduceEq,b_xor]
 have c4':(o == 4) = false:=by simpa using c4
 by_cases c5:o = 5
 ·subst c5
  by_cases c:a = b
  ·have c':(a == b) = true:=by simpa using c
   simp (disch:=omega) only[A_xref02_Do,wp,qa,qb,qc,c,c',if_true,if_false,Int.reduceBEq,Int.reduceEq]
  ·have c':(a == b) = false:=by simpa using c
   simp (disch:=omega) only[A_xref02_Do,wp,qa,qb,qc,c,c',if_true,if_false,Int.reduceBEq,Int.reduceEq]
 have c5':(o == 5) = false:=by simpa using c5
 by_cases c6:o = 6
 ·subst c6
  by_cases c:a < b
  ·simp (disch:=omega) only[A_xref02_Do,wp,qa,qb,qc,c,if_true,if_false,Int.reduceBEq,Int.reduceEq]
  ·simp (disch:=omega) only[A_xref02_Do,wp,qa,qb,qc,c,if_true,if_false,Int.reduceBEq,Int.reduceEq]
 have c6':(o == 6) = false:=by simpa using c6
 simp (disch:=omega) only[A_xref02_Do,wp,qa,qb,qc,c1,c2,c3,c4,c5,c6,c1',c2',c3',c4',c5',c6',if_false]
end Go.Ab
end
section
set_option linter.unusedVariables false
set_option linter.unusedSimpArgs false
namespace Go.Ab
variable {F:Funs}
structure FewG (X:Gr):Prop where
 evs:X.evs.length≤50
 rf:X.rf.length≤60
 co:X.co.length≤6
 cos:∀ c∈X.co,c.length≤50
 rmw:X.rmw.length≤50
 data:X.data.length≤300
 ctrl:X.ctrl.length≤300
 ctrli:X.ctrli.length≤300
end Go.Ab
end
section
set_option linter.unusedVariables false
set_option linter.unusedSimpArgs false
namespace Go.Ab
variable {F:Funs}
def EvOk (locs i:Int) (p e:Ev):Prop:=
 (i < locs→e.th = 0∧e.kd = 2∧e.md = 0∧e.lc = i∧e.vl = 0∧e.ex = false) ∧
 (¬ i < locs→1≤e.th∧e.th≤4∧p.th≤e.th∧((e.kd = 1∧0≤e.lc∧e.lc < locs∧(e.md = 0∨e.md = 1))∨(e.kd = 2∧0≤e.lc∧e.lc < locs∧(e.md = 0∨e.md = 2))∨(e.kd = 3∧1≤e.md∧e.md≤4∧e.lc = 0∧e.vl = 0∧e.ex = false)))
end Go.Ab
end
section
set_option linter.unusedVariables false
set_option linter.unusedSimpArgs false
namespace Go.Ab
variable {F:Funs}
def RfOk (X:Gr) (i:Nat):Prop:=((X.evs.getD i ev0).kd≠1→X.rf.getD i 0 = -1) ∧
 ((X.evs.getD i ev0).kd = 1→0≤X.rf.getD i 0∧X.rf.getD i 0 < X.evs.length∧(X.evs.getD (X.rf.getD i 0).toNat ev0).kd = 2∧(X.evs.getD (X.rf.getD i 0).toNat ev0).lc = (X.evs.getD i ev0).lc∧(X.evs.getD (X.rf.getD i 0).toNat ev0).vl = (X.evs.getD i ev0).vl)
def isWr (loc:Int) (e:Ev):Bool:=e.kd == 2 && e.lc == loc
def cntW (X:Gr) (loc:Int) (k:Nat):Nat:=((X.evs.take k).filter (isWr loc)).length
theorem cntW_le (X:Gr) (loc:Int) (k:Nat):cntW X loc k≤k:=by
 unfold cntW
 have h1:=List.length_filter_le (isWr loc) (X.evs.take k)
 rw[List.length_take] at h1;omega
structure CoOk (X:Gr) (loc:Nat):Prop where
 wr:∀ i,i < (X.co.getD loc []).length→0≤(X.co.getD loc []).getD i 0∧(X.co.getD loc []).getD i 0 < X.evs.length∧(X.evs.getD ((X.co.getD loc []).getD i 0).toNat ev0).kd = 2∧(X.evs.getD ((X.co.getD loc []).getD i 0).toNat ev0).lc = loc
 ne:∀ i,i < (X.co.getD loc []).length→∀ k,k < i→(X.co.getD loc []).getD k 0≠(X.co.getD loc []).getD i 0
 len:(X.co.getD loc []).length = cntW X loc X.evs.length
 pos:0 < (X.co.getD loc []).length
 hd:(X.co.getD loc []).getD 0 0 = loc
end Go.Ab
end
section
set_option linter.unusedVariables false
set_option linter.unusedSimpArgs false
namespace Go.Ab
variable {F:Funs}
def lessP (p q:Int × Int):Prop:=p.1 < q.1∨(p.1 = q.1∧p.2 < q.2)
def Rising (l:List (Int × Int)):Prop:=∀ i,i + 1 < l.length→lessP (l.getD i (0,0)) (l.getD (i + 1) (0,0))
def DepOk (X:Gr) (p:Int × Int):Prop:=0≤p.1∧p.1 < p.2∧p.2 < X.evs.length∧(X.evs.getD p.1.toNat ev0).kd = 1∧(X.evs.getD p.1.toNat ev0).th = (X.evs.getD p.2.toNat ev0).th
def DepsOk (X:Gr) (l:List (Int × Int)):Prop:=(∀ i,i < l.length→DepOk X (l.getD i (0,0)))∧Rising l
end Go.Ab
end
section
set_option linter.unusedVariables false
set_option linter.unusedSimpArgs false
namespace Go.Ab
variable {F:Funs}
def inB (i:Nat) (p:Int × Int):Bool:=p.1 == (i:Int) || p.2 == (i:Int)
def inC (l:List (Int × Int)) (i:Nat):Nat:=(l.filter (inB i)).length
def PairOk (X:Gr) (p:Int × Int):Prop:=0≤p.1∧p.1 < X.evs.length - 1∧p.2 = p.1 + 1∧(X.evs.getD p.1.toNat ev0).th = (X.evs.getD p.2.toNat ev0).th∧(X.evs.getD p.1.toNat ev0).kd = 1∧(X.evs.getD p.2.toNat ev0).kd = 2∧(X.evs.getD p.1.toNat ev0).lc = (X.evs.getD p.2.toNat ev0).lc∧(X.evs.getD p.1.toNat ev0).ex = true∧(X.evs.getD p.2.toNat ev0).ex = true
structure RmwOk (X:Gr):Prop where
 pairs:∀ j,j < X.rmw.length→PairOk X (X.rmw.getD j (0,0))
 once:∀ i,i < X.evs.length→inC X.rmw i≤1∧(X.evs.getD i ev0).ex = ((inC X.rmw i:Int) == 1)
 rise:Rising X.rmw
end Go.Ab
end
section
set_option linter.unusedVariables false
set_option linter.unusedSimpArgs false
namespace Go.Ab
variable {F:Funs}
structure GraphOk (X:Gr):Prop where
 locs1:1≤X.locs
 locs4:X.locs≤4
 nl:X.locs≤X.evs.length
 n40:X.evs.length≤40
 rfl:X.rf.length = X.evs.length
 col:(X.co.length:Int) = X.locs
 ev:∀ i,i < X.evs.length→EvOk X.locs i (X.evs.getD (i - 1) ev0) (X.evs.getD i ev0)
 rf:∀ i,i < X.evs.length→RfOk X i
 co:∀ i,i < X.co.length→CoOk X i
 rmw:RmwOk X
 data:DepsOk X X.data
 ctrl:DepsOk X X.ctrl
 ctrli:DepsOk X X.ctrli
end Go.Ab
end
section
set_option linter.unusedVariables false
set_option linter.unusedSimpArgs false
namespace Go.Ab
instance (p q:Int × Int):Decidable (lessP p q):=by unfold lessP;infer_instance
theorem lessP_trans {p q r:Int × Int} (h:lessP p q) (k:lessP q r):lessP p r:=by unfold lessP at *;omega
theorem lessP_tot {p q:Int × Int} (h:¬ lessP p q) (n:p≠q):lessP q p:=by
 unfold lessP at *
 have:¬ (p.1 = q.1∧p.2 = q.2):=fun h => n (Prod.ext h.1 h.2)
 omega
def Up (l:List Int):Prop:=l.Pairwise (· < ·)
def putI:List Int→Int→List Int
 | [],v => [v]
 | a :: l,v => if a < v then a :: putI l v else if a = v then a :: l else v :: a :: l
theorem putI_mem:∀ {l:List Int} {v x:Int},x∈putI l v↔x∈l∨x = v
 | [],v,x => by simp[putI]
 | a :: l,v,x => by
   unfold putI
   split
   ·simp[putI_mem,or_assoc]
   ·split
    ·rename_i h1 h2
     subst h2
     simp only[List.mem_cons]
     refine ⟨fun h => .inl h,fun h => ?_⟩
     rcases h with h | h
     ·exact h
     ·exact .inl h
    ·simp only[List.mem_cons]
     refine ⟨fun h => ?_,fun h => ?_⟩
     ·rcases h with h | h | h
      ·exact .inr h
      ·exact .inl (.inl h)
      ·exact .inl (.inr h)
     ·rcases h with (h | h) | h
      ·exact .inr (.inl h)
      ·exact .inr (.inr h)
      ·exact .inl h
theorem putI_up:∀ {l:List Int} {v:Int},Up l→Up (putI l v)
 | [],v,_ => by simp[putI,Up]
 | a :: l,v,h => by
   obtain ⟨h1,h2⟩:=List.pairwise_cons.1 h
   unfold putI
   split
   ·rename_i hv
    refine List.pairwise_cons.2 ⟨fun x hx => ?_,putI_up h2⟩
    rcases putI_mem.1 hx with hx | hx
    ·exact h1 x hx
    ·omega
   ·split
    ·exact h
    ·rename_i hv hn
     refine List.pairwise_cons.2 ⟨fun x hx => ?_,h⟩
     rcases List.mem_cons.1 hx with rfl | hx
     ·omega
     ·have:=h1 x hx;omega
def bothI (a b:List Int):List Int:=b.foldl putI a
theorem bothI_mem:∀ {b a:List Int} {x:Int},x∈bothI a b↔x∈a∨x∈b
 | [],a,x => by simp[bothI]
 | v :: b,a,x => by
   show x∈bothI (putI a v) b↔_
   rw[bothI_mem,putI_mem,List.mem_cons,or_assoc]
theorem bothI_up:∀ {b a:List Int},Up a→Up (bothI a b)
 | [],a,h => h
 | v :: b,a,h => bothI_up (b:=b) (putI_up h)
theorem up_len:∀ {l:List Int} {lo hi:Int},Up l→(∀ r∈l,lo≤r∧r < hi)→l.length≤(hi - lo).toNat
 | [],_,_,_,_ => Nat.zero_le _
 | a :: l,lo,hi,h,hb => by
   obtain ⟨h1,h2⟩:=List.pairwise_cons.1 h
   have ha:=hb a (List.mem_cons_self ..)
   have:=up_len (lo:=a + 1) (hi:=hi) h2 fun r hr => ⟨by have:=h1 r hr;omega,(hb r (List.mem_cons_of_mem _ hr)).2⟩
   simp only[List.length_cons]
   omega
def insP:List (Int × Int)→Int × Int→List (Int × Int)
 | [],p => [p]
 | q :: l,p => if lessP q p then q :: insP l p else p :: q :: l
theorem insP_mem:∀ {l:List (Int × Int)} {p x:Int × Int},x∈insP l p↔x∈l∨x = p
 | [],p,x => by simp[insP]
 | a :: l,p,x => by
   unfold insP
   split
   ·simp[insP_mem,or_assoc]
   ·simp only[List.mem_cons]
    refine ⟨fun h => ?_,fun h => ?_⟩
    ·rcases h with h | h | h
     ·exact .inr h
     ·exact .inl (.inl h)
     ·exact .inl (.inr h)
    ·rcases h with (h | h) | h
     ·exact .inr (.inl h)
     ·exact .inr (.inr h)
     ·exact .inl h
theorem insP_len:∀ {l:List (Int × Int)} {p:Int × Int},(insP l p).length = l.length + 1
 | [],p => rfl
 | a :: l,p => by
   unfold insP
   split
   ·simp[insP_len]
   ·simp
theorem insP_pw:∀ {l:List (Int × Int)} {p:Int × Int},l.Pairwise lessP→p ∉ l→(insP l p).Pairwise lessP
 | [],p,_,_ => by simp[insP]
 | a :: l,p,h,hn => by
   obtain ⟨h1,h2⟩:=List.pairwise_cons.1 h
   unfold insP
   split
   ·rename_i hv
    refine List.pairwise_cons.2 ⟨fun x hx => ?_,insP_pw h2 fun hm => hn (List.mem_cons_of_mem _ hm)⟩
    rcases insP_mem.1 hx with hx | rfl
    ·exact h1 x hx
    ·exact hv
   ·rename_i hv
    have hpa:lessP p a:=lessP_tot hv fun h => hn (by rw[h];exact List.mem_cons_self ..)
    refine List.pairwise_cons.2 ⟨fun x hx => ?_,h⟩
    rcases List.mem_cons.1 hx with rfl | hx
    ·exact hpa
    ·exact lessP_trans hpa (h1 x hx)
def pairsI (l:List (Int × Int)) (rs:List Int) (b:Int):List (Int × Int):=rs.foldl (fun l r => insP l (r,b)) l
theorem pairsI_mem:∀ {rs:List Int} {l:List (Int × Int)} {b:Int} {x:Int × Int},x∈pairsI l rs b↔x∈l∨(x.2 = b∧x.1∈rs)
 | [],l,b,x => by simp[pairsI]
 | r :: rs,l,b,x => by
   show x∈pairsI (insP l (r,b)) rs b↔_
   rw[pairsI_mem,insP_mem,List.mem_cons]
   have he:x = (r,b)↔x.1 = r∧x.2 = b:=by rw[Prod.ext_iff]
   rw[he]
   refine ⟨fun h => ?_,fun h => ?_⟩
   ·rcases h with (h | ⟨h1,h2⟩) | ⟨h1,h2⟩
    ·exact .inl h
    ·exact .inr ⟨h2,.inl h1⟩
    ·exact .inr ⟨h1,.inr h2⟩
   ·rcases h with h | ⟨h1,h2 | h2⟩
    ·exact .inl (.inl h)
    ·exact .inl (.inr ⟨h2,h1⟩)
    ·exact .inr ⟨h1,h2⟩
theorem pairsI_len:∀ {rs:List Int} {l:List (Int × Int)} {b:Int},(pairsI l rs b).length = l.length + rs.length
 | [],l,b => rfl
 | r :: rs,l,b => by
   show (pairsI (insP l (r,b)) rs b).length = _
   rw[pairsI_len,insP_len,List.length_cons]
   omega
theorem pairsI_pw:∀ {rs:List Int} {l:List (Int × Int)} {b:Int},l.Pairwise lessP→(∀ r∈rs,(r,b) ∉ l)→rs.Nodup→(pairsI l rs b).Pairwise lessP
 | [],l,b,h,_,_ => h
 | r :: rs,l,b,h,hn,hd => by
   obtain ⟨d1,d2⟩:=List.nodup_cons.1 hd
   show (pairsI (insP l (r,b)) rs b).Pairwise lessP
   refine pairsI_pw (insP_pw h (hn r (List.mem_cons_self ..))) (fun r' hr' hm => ?_) d2
   rcases insP_mem.1 hm with hm | hm
   ·exact hn r' (List.mem_cons_of_mem _ hr') hm
   ·have:r' = r:=congrArg Prod.fst hm
    subst this
    exact d1 hr'
theorem Up.nodup {l:List Int} (h:Up l):l.Nodup:=List.Pairwise.imp (fun {a b} (hab:a < b) => (by omega:a≠b)) h
structure RS where
 evs:List Ev
 rmw:List (Int × Int)
 data:List (Int × Int)
 ctrl:List (Int × Int)
 used:Nat
 regs:List Int
 frm:List (List Int)
 now:List Int
 short:Bool
def rs0:RS:=⟨[],[],[],[],0,List.replicate 8 0,List.replicate 8 [],[],false⟩
def evR (s:RS) (e:Ev) (dl:List Int):RS:={ s with evs:=s.evs ++ [e],data:=pairsI s.data dl s.evs.length,ctrl:=pairsI s.ctrl s.now s.evs.length }
def rdR (s:RS) (reads:List Int) (loc mode:Int) (ex:Bool) (reg:Nat):RS:=
 if reads.length≤s.used then { s with short:=true } else
  let s1:=evR { s with used:=s.used + 1 } ⟨0,1,mode,loc,reads.getD s.used 0,ex⟩ []
  { s1 with regs:=s1.regs.set reg (reads.getD s.used 0),frm:=s1.frm.set reg [(s.evs.length:Int)] }
def wrR (s:RS) (loc mode:Int) (ex:Bool) (v:Int) (dl:List Int):RS:=
 let s1:=evR s ⟨0,2,mode,loc,v,ex⟩ dl
 if ex then { s1 with rmw:=s1.rmw ++ [((s.evs.length:Int) - 1,(s.evs.length:Int))] } else s1
def exR (ex:List (Int × Int)):List Nat:=match ex with
 | (2,a) :: _ => [a.toNat]
 | _ => []
def ofR (s:RS) (ex:List (Int × Int)):List Int:=(exR ex).foldl (fun l r => bothI l (s.frm.getD r [])) []
def faR (s:RS) (reads:List Int) (loc md md2:Int) (reg:Nat) (from_:List Int) (add:Int):RS:=
 let s1:=rdR s reads loc md true reg
 if reads.length≤s.used then s1 else wrR s1 loc md2 true (IntKind.i64.wrap (s1.regs.getD reg 0 + add)) (bothI from_ (s1.frm.getD reg []))
def stR (V:List (Int × Int)→List Int→Int) (reads:List Int) (s:RS) (x:Ins):RS:=
 if x.kd = 1 then rdR s reads x.lc x.md false x.rg.toNat
 else if x.kd = 2 then wrR s x.lc x.md false (V x.ex s.regs) (ofR s x.ex)
 else if x.kd = 3 then evR s ⟨0,3,x.md,0,0,false⟩ []
 else if x.kd = 4 then faR s reads x.lc x.md x.md2 x.rg.toNat (ofR s x.ex) (V x.ex s.regs)
 else if x.kd = 5 then { s with regs:=s.regs.set x.rg.toNat (V x.ex s.regs),frm:=s.frm.set x.rg.toNat (ofR s x.ex) }
 else { s with now:=bothI s.now (ofR s x.ex) }
def skR (V:List (Int × Int)→List Int→Int) (s:RS) (x:Ins):Nat:=if x.kd = 6∧V x.ex s.regs≠0 then x.n.toNat else 0
def runR (V:List (Int × Int)→List Int→Int) (reads:List Int) (th:List Ins):Nat→Nat→RS→RS
 | 0,_,s => s
 | f + 1,k,s => if k < th.length∧s.short = false then runR V reads th f (k + skR V s (th.getD k fence0) + 1) (stR V reads s (th.getD k fence0)) else s
def doR (V:List (Int × Int)→List Int→Int) (th:List Ins) (reads:List Int):RS:=runR V reads th th.length 0 rs0
end Go.Ab
end
section
set_option linter.unusedVariables false
set_option linter.unusedSimpArgs false
namespace Go.Ab
def EvT (e:Ev):Prop:=e.th = 0∧((e.kd = 1∧(e.lc = 0∨e.lc = 1)∧(e.md = 0∨e.md = 1))∨(e.kd = 2∧(e.lc = 0∨e.lc = 1)∧(e.md = 0∨e.md = 2))∨(e.kd = 3∧1≤e.md∧e.md≤4∧e.lc = 0∧e.vl = 0∧e.ex = false))
def RdL (es:List Ev) (l:List Int):Prop:=(∀ r∈l,0≤r∧r < es.length∧(es.getD r.toNat ev0).kd = 1)∧Up l
def DpL (es:List Ev) (l:List (Int × Int)):Prop:=(∀ p∈l,0≤p.1∧p.1 < p.2∧p.2 < es.length∧(es.getD p.1.toNat ev0).kd = 1∧(es.getD p.1.toNat ev0).th = (es.getD p.2.toNat ev0).th)∧l.Pairwise lessP
def RmP (es:List Ev) (p:Int × Int):Prop:=0≤p.1∧p.2 = p.1 + 1∧p.2 < es.length∧(es.getD p.1.toNat ev0).th = (es.getD p.2.toNat ev0).th∧(es.getD p.1.toNat ev0).kd = 1∧(es.getD p.2.toNat ev0).kd = 2∧(es.getD p.1.toNat ev0).lc = (es.getD p.2.toNat ev0).lc∧(es.getD p.1.toNat ev0).ex = true∧(es.getD p.2.toNat ev0).ex = true
structure RmL (es:List Ev) (l:List (Int × Int)):Prop where
 pairs:∀ p∈l,RmP es p
 once:∀ i,i < es.length→inC l i≤1∧(es.getD i ev0).ex = ((inC l i:Int) == 1)
 rise:l.Pairwise lessP
 len:l.length≤es.length
theorem getD_l {es:List Ev} {x:List Ev} {i:Nat} (h:i < es.length):(es ++ x).getD i ev0 = es.getD i ev0:=by
 simp[List.getD,List.getElem?_append_left h]
theorem getD_r {es:List Ev} {x:List Ev} {i:Nat}:(es ++ x).getD (es.length + i) ev0 = x.getD i ev0:=by
 simp[List.getD,List.getElem?_append_right]
theorem RdL.mono {es x l} (h:RdL es l):RdL (es ++ x) l:=by
 refine ⟨fun r hr => ?_,h.2⟩
 obtain ⟨h0,h1,h2⟩:=h.1 r hr
 refine ⟨h0,by rw[List.length_append];omega,?_⟩
 rw[getD_l (by omega)];exact h2
theorem DpL.mono {es x l} (h:DpL es l):DpL (es ++ x) l:=by
 refine ⟨fun p hp => ?_,h.2⟩
 obtain ⟨h0,h1,h2,h3,h4⟩:=h.1 p hp
 refine ⟨h0,h1,by rw[List.length_append];omega,?_,?_⟩
 ·rw[getD_l (by omega)];exact h3
 ·rw[getD_l (by omega),getD_l (by omega)];exact h4
theorem RmP.mono {es x p} (h:RmP es p):RmP (es ++ x) p:=by
 obtain ⟨h0,h1,h2,h3⟩:=h
 refine ⟨h0,h1,by rw[List.length_append];omega,?_⟩
 rw[getD_l (by omega),getD_l (by omega)];exact h3
theorem inC_app (a b:List (Int × Int)) (i:Nat):inC (a ++ b) i = inC a i + inC b i:=by simp[inC]
theorem inC_zero {l:List (Int × Int)} {i:Nat} (h:∀ p∈l,p.1≠(i:Int)∧p.2≠(i:Int)):inC l i = 0:=by
 unfold inC
 rw[List.length_eq_zero_iff,List.filter_eq_nil_iff]
 intro p hp
 have:=h p hp
 simp[inB,this.1,this.2]
theorem DpL.pairs {es:List Ev} {l:List (Int × Int)} {rs:List Int} {e:Ev} (h:DpL es l) (hr:RdL es rs) (ht:∀ x∈es,x.th = e.th):DpL (es ++ [e]) (pairsI l rs es.length):=by
 refine ⟨fun p hp => ?_,pairsI_pw h.2 (fun r hr' hm => ?_) hr.2.nodup⟩
 ·rcases pairsI_mem.1 hp with hp | ⟨hp2,hp1⟩
  ·exact (h.mono (x:=[e])).1 p hp
  ·obtain ⟨h0,h1,h2⟩:=hr.1 _ hp1
   refine ⟨h0,by omega,by rw[List.length_append];simp;omega,?_,?_⟩
   ·rw[getD_l (by omega)];exact h2
   ·rw[getD_l (by omega),hp2,show ((es.length:Int)).toNat = es.length + 0 by simp,getD_r]
    have:es.getD p.1.toNat ev0∈es:=by
     rw[List.getD_eq_getElem?_getD,List.getElem?_eq_getElem (by omega)]
     exact List.getElem_mem _
    exact ht _ this
 ·have:=h.1 _ hm
  simp only at this
  omega
theorem RmL.one {es l} {e:Ev} (h:RmL es l) (he:e.ex = false):RmL (es ++ [e]) l:=by
 refine ⟨fun p hp => (h.pairs p hp).mono,fun i hi => ?_,h.rise,by have:=h.len;rw[List.length_append];omega⟩
 by_cases c:i < es.length
 ·rw[getD_l c];exact h.once i c
 ·obtain rfl:i = es.length:=by rw[List.length_append] at hi;simp at hi;omega
  have hz:inC l es.length = 0:=inC_zero fun p hp => by
   obtain ⟨h0,h1,h2,_⟩:=h.pairs p hp
   omega
  rw[hz]
  refine ⟨by omega,?_⟩
  have:(es ++ [e]).getD es.length ev0 = e:=by have:=getD_r (es:=es) (x:=[e]) (i:=0);rw[Nat.add_zero] at this;rw[this];rfl
  rw[this,he]
  rfl
theorem RmL.two {es l} {r w:Ev} (h:RmL es l) (h1:r.th = w.th) (h2:r.kd = 1) (h3:w.kd = 2) (h4:r.lc = w.lc) (h5:r.ex = true) (h6:w.ex = true):RmL (es ++ [r] ++ [w]) (l ++ [((es.length:Int),(es.length:Int) + 1)]):=by
 have er:(es ++ [r] ++ [w]).getD es.length ev0 = r:=by
  rw[List.append_assoc];simp
 have ew:(es ++ [r] ++ [w]).getD (es.length + 1) ev0 = w:=by
  rw[List.append_assoc];simp
 have hlen:(es ++ [r] ++ [w]).length = es.length + 2:=by simp
 refine ⟨fun p hp => ?_,fun i hi => ?_,?_,?_⟩
 ·rcases List.mem_append.1 hp with hp | hp
  ·rw[List.append_assoc];exact (h.pairs p hp).mono
  ·obtain rfl:p = ((es.length:Int),(es.length:Int) + 1):=by simpa using hp
   have e1:((es.length:Int)).toNat = es.length:=by omega
   have e2:((es.length:Int) + 1).toNat = es.length + 1:=by omega
   refine ⟨by simp,rfl,by rw[hlen];simp,?_⟩
   simp only[e1,e2,er,ew]
   exact ⟨h1,h2,h3,h4,h5,h6⟩
 ·rw[inC_app]
  rw[hlen] at hi
  by_cases c:i < es.length
  ·have hz:inC [((es.length:Int),(es.length:Int) + 1)] i = 0:=inC_zero fun p hp => by
    obtain rfl:p = ((es.length:Int),(es.length:Int) + 1):=by simpa using hp
    simp only;omega
   rw[hz,List.append_assoc,getD_l c]
   exact h.once i c
  ·have hz:inC l i = 0:=inC_zero fun p hp => by
    obtain ⟨h0,h1,h2,_⟩:=h.pairs p hp
    omega
   rw[hz]
   by_cases c2:i = es.length
   ·subst c2
    rw[er,h5]
    simp[inC,inB]
   ·obtain rfl:i = es.length + 1:=by omega
    rw[ew,h6]
    simp[inC,inB]
 ·refine List.pairwise_append.2 ⟨h.rise,by simp,fun p hp q hq => ?_⟩
  obtain rfl:q = ((es.length:Int),(es.length:Int) + 1):=by simpa using hq
  obtain ⟨h0,h1,h2,_⟩:=h.pairs p hp
  unfold lessP
  simp only
  omega
 ·have:=h.len
  simp
  omega
structure RIn0 (s:RS):Prop where
 ev:∀ e∈s.evs,EvT e
 data:DpL s.evs s.data
 ctrl:DpL s.evs s.ctrl
 frm:∀ l∈s.frm,RdL s.evs l
 now:RdL s.evs s.now
 f8:s.frm.length = 8
 r8:s.regs.length = 8
 dl:s.data.length≤s.evs.length * s.evs.length
 cl:s.ctrl.length≤s.evs.length * s.evs.length
structure RInv (s:RS):Prop where
 b:RIn0 s
 rmw:RmL s.evs s.rmw
theorem RdL.len {es l} (h:RdL es l):l.length≤es.length:=by
 have:=up_len (lo:=0) (hi:=es.length) h.2 fun r hr => ⟨(h.1 r hr).1,(h.1 r hr).2.1⟩
 omega
theorem rdL_nil (es):RdL es []:=⟨fun r hr => absurd hr (List.not_mem_nil),List.Pairwise.nil⟩
theorem RIn0.ev1 {s:RS} {e:Ev} {dl:List Int} (h:RIn0 s) (he:EvT e) (hd:RdL s.evs dl):RIn0 (evR s e dl):=by
 have hth:∀ x∈s.evs,x.th = e.th:=fun x hx => by rw[(h.ev x hx).1,he.1]
 have hq:∀ a m:Nat,a≤m * m→∀ b,b≤m→a + b≤(m + 1) * (m + 1):=by
  intro a m h1 b h2
  have:(m + 1) * (m + 1) = m * m + m + m + 1:=by rw[Nat.add_mul,Nat.mul_add];omega
  omega
 refine ⟨fun x hx => ?_,h.data.pairs hd hth,h.ctrl.pairs h.now hth,fun l hl => (h.frm l hl).mono,h.now.mono,h.f8,h.r8,?_,?_⟩
 ·rcases List.mem_append.1 hx with hx | hx
  ·exact h.ev x hx
  ·obtain rfl:x = e:=by simpa using hx
   exact he
 ·show (pairsI _ _ _).length≤(s.evs ++ [e]).length * (s.evs ++ [e]).length
  rw[pairsI_len,List.length_append,List.length_singleton]
  exact hq _ _ h.dl _ hd.len
 ·show (pairsI _ _ _).length≤(s.evs ++ [e]).length * (s.evs ++ [e]).length
  rw[pairsI_len,List.length_append,List.length_singleton]
  exact hq _ _ h.cl _ h.now.len
theorem RdL.both {es a b} (ha:RdL es a) (hb:RdL es b):RdL es (bothI a b):=by
 refine ⟨fun r hr => ?_,bothI_up ha.2⟩
 rcases bothI_mem.1 hr with h | h
 ·exact ha.1 r h
 ·exact hb.1 r h
theorem RIn0.at {s:RS} (h:RIn0 s) (r:Nat):RdL s.evs (s.frm.getD r []):=by
 by_cases c:r < s.frm.length
 ·refine h.frm _ ?_
  rw[List.getD_eq_getElem?_getD,List.getElem?_eq_getElem c]
  exact List.getElem_mem c
 ·rw[List.getD_eq_getElem?_getD,List.getElem?_eq_none (by omega)]
  exact rdL_nil _
theorem RIn0.of {s:RS} (h:RIn0 s) (ex):RdL s.evs (ofR s ex):=by
 unfold ofR exR
 split
 ·exact (rdL_nil _).both (h.at _)
 ·exact rdL_nil _
theorem mem_set {α:Type} {l:List α} {i:Nat} {a x:α} (h:x∈l.set i a):x∈l∨x = a:=List.mem_or_eq_of_mem_set h
theorem RIn0.rd {s:RS} (h:RIn0 s) {reads:List Int} {loc mode:Int} {ex:Bool} {reg:Nat} (hl:loc = 0∨loc = 1) (hm:mode = 0∨mode = 1):RIn0 (rdR s reads loc mode ex reg):=by
 unfold rdR
 split
 ·exact ⟨h.ev,h.data,h.ctrl,h.frm,h.now,h.f8,h.r8,h.dl,h.cl⟩
 ·have h1:RIn0 (evR { s with used:=s.used + 1 } ⟨0,1,mode,loc,reads.getD s.used 0,ex⟩ []):=
   RIn0.ev1 (s:={ s with used:=s.used + 1 }) ⟨h.ev,h.data,h.ctrl,h.frm,h.now,h.f8,h.r8,h.dl,h.cl⟩ ⟨rfl,.inl ⟨rfl,hl,hm⟩⟩ (rdL_nil _)
  refine ⟨h1.ev,h1.data,h1.ctrl,fun l hl => ?_,h1.now,by simpa using h1.f8,by simpa using h1.r8,h1.dl,h1.cl⟩
  rcases mem_set hl with hl | rfl
  ·exact h1.frm l hl
  ·refine ⟨fun r hr => ?_,by simp[Up]⟩
   obtain rfl:r = (s.evs.length:Int):=by simpa using hr
   refine ⟨by omega,?_,?_⟩
   ·show _ < (((s.evs ++ [_]).length:Nat):Int)
    simp;omega
   ·show ((s.evs ++ [_]).getD _ ev0).kd = 1
    have:=getD_r (es:=s.evs) (x:=[⟨0,1,mode,loc,reads.getD s.used 0,ex⟩]) (i:=0)
    simp only[Nat.add_zero] at this
    rw[show ((s.evs.length:Int)).toNat = s.evs.length by omega,this]
    rfl
theorem RIn0.wr {s:RS} (h:RIn0 s) {loc mode:Int} {ex:Bool} {v:Int} {dl:List Int} (hl:loc = 0∨loc = 1) (hm:mode = 0∨mode = 2) (hd:RdL s.evs dl):RIn0 (wrR s loc mode ex v dl):=by
 have h1:RIn0 (evR s ⟨0,2,mode,loc,v,ex⟩ dl):=h.ev1 ⟨rfl,.inr (.inl ⟨rfl,hl,hm⟩)⟩ hd
 unfold wrR
 dsimp only
 split
 ·exact ⟨h1.ev,h1.data,h1.ctrl,h1.frm,h1.now,h1.f8,h1.r8,h1.dl,h1.cl⟩
 ·exact h1
theorem RInv.st {s:RS} (h:RInv s) {V reads x} {left:Int} (hx:InsK left x):RInv (stR V reads s x):=by
 unfold stR
 cases hx with
 | ld md rg lc h1 h2 h3 =>
   rw[if_pos rfl]
   refine ⟨h.b.rd h3 h1,?_⟩
   unfold rdR
   split
   ·exact h.rmw
   ·exact h.rmw.one (e:=⟨0,1,md,lc,reads.getD s.used 0,false⟩) rfl
 | st md lc ex h1 h3 he =>
   rw[if_neg (by simp),if_pos rfl]
   exact ⟨h.b.wr h3 h1 (h.b.of ex),h.rmw.one (e:=⟨0,2,md,lc,V ex s.regs,false⟩) rfl⟩
 | fe md h1 =>
   rw[if_neg (by simp),if_neg (by simp),if_pos rfl]
   exact ⟨h.b.ev1 ⟨rfl,.inr (.inr ⟨rfl,by simp only;omega,by simp only;omega,rfl,rfl,rfl⟩)⟩ (rdL_nil _),h.rmw.one rfl⟩
 | fa md md2 rg lc c h1 h4 h2 h3 h5 =>
   rw[if_neg (by simp),if_neg (by simp),if_neg (by simp),if_pos rfl]
   have hr:=h.b.rd (reads:=reads) (ex:=true) (reg:=rg.toNat) h3 h1
   unfold faR
   dsimp only
   split
   ·rename_i hc
    refine ⟨hr,?_⟩
    unfold rdR
    rw[if_pos hc]
    exact h.rmw
   ·rename_i hc
    have hof:RdL (rdR s reads lc md true rg.toNat).evs (ofR s [(1,c)]):=by
     show RdL _ []
     exact rdL_nil _
    refine ⟨hr.wr h3 h4 (hof.both (hr.at _)),?_⟩
    have he:(rdR s reads lc md true rg.toNat).evs = s.evs ++ [⟨0,1,md,lc,reads.getD s.used 0,true⟩]:=by
     unfold rdR;rw[if_neg hc];rfl
    have hm:(rdR s reads lc md true rg.toNat).rmw = s.rmw:=by
     unfold rdR;rw[if_neg hc];rfl
    generalize rdR s reads lc md true rg.toNat = s1 at he hm
    unfold wrR evR
    dsimp only
    rw[if_pos rfl]
    dsimp only
    rw[he,hm]
    have hn:(((s.evs ++ [(⟨0,1,md,lc,reads.getD s.used 0,true⟩:Ev)]).length:Nat):Int) - 1 = (s.evs.length:Int):=by simp
    have hn2:(((s.evs ++ [(⟨0,1,md,lc,reads.getD s.used 0,true⟩:Ev)]).length:Nat):Int) = (s.evs.length:Int) + 1:=by simp
    rw[hn,hn2]
    exact h.rmw.two rfl rfl rfl rfl rfl rfl
 | se rg ex h2 he =>
   rw[if_neg (by simp),if_neg (by simp),if_neg (by simp),if_neg (by simp),if_pos rfl]
   refine ⟨⟨h.b.ev,h.b.data,h.b.ctrl,fun l hl => ?_,h.b.now,by simpa using h.b.f8,by simpa using h.b.r8,h.b.dl,h.b.cl⟩,h.rmw⟩
   rcases mem_set hl with hl | rfl
   ·exact h.b.frm l hl
   ·exact h.b.of ex
 | sk ex n he h0 h1 =>
   rw[if_neg (by simp),if_neg (by simp),if_neg (by simp),if_neg (by simp),if_neg (by simp)]
   exact ⟨⟨h.b.ev,h.b.data,h.b.ctrl,h.b.frm,h.b.now.both (h.b.of ex),h.b.f8,h.b.r8,h.b.dl,h.b.cl⟩,h.rmw⟩
theorem stR_evs (V reads s x):(stR V reads s x).evs.length≤s.evs.length + 2:=by
 have rd:∀ loc mode ex reg,(rdR s reads loc mode ex reg).evs.length≤s.evs.length + 1:=by
  intro loc mode ex reg
  unfold rdR
  split
  ·exact Nat.le_succ _
  ·show (s.evs ++ [_]).length≤_;simp
 have wr:∀ s:RS,∀ loc mode ex v dl,(wrR s loc mode ex v dl).evs.length = s.evs.length + 1:=by
  intro s loc mode ex v dl
  unfold wrR
  dsimp only
  split<;>(show (s.evs ++ [_]).length = _;simp)
 unfold stR
 split
 ·have:=rd x.lc x.md false x.rg.toNat;omega
 split
 ·rw[wr];omega
 split
 ·show (s.evs ++ [_]).length≤_;simp
 split
 ·unfold faR
  dsimp only
  have:=rd x.lc x.md true x.rg.toNat
  split
  ·omega
  ·rw[wr];omega
 split
 ·exact Nat.le_add_right _ _
 ·exact Nat.le_add_right _ _
theorem RInv.run {V reads th} (hk:∀ k,k < th.length→∃ left,InsK left (th.getD k fence0)):∀ f k s,RInv s→RInv (runR V reads th f k s)∧(runR V reads th f k s).evs.length≤s.evs.length + 2 * f
 | 0,k,s,h => ⟨h,Nat.le_refl _⟩
 | f + 1,k,s,h => by
   unfold runR
   split
   ·rename_i hc
    obtain ⟨left,hx⟩:=hk k hc.1
    have h1:=RInv.run (V:=V) (reads:=reads) hk f (k + skR V s (th.getD k fence0) + 1) _ (h.st (V:=V) (reads:=reads) hx)
    have h2:=stR_evs V reads s (th.getD k fence0)
    exact ⟨h1.1,by omega⟩
   ·exact ⟨h,by omega⟩
end Go.Ab
end
section
set_option linter.unusedVariables false
set_option linter.unusedSimpArgs false
namespace Go.Ab
variable {F:Funs}
theorem oSlice {c:CS} {al:Nat→Bool} {lo id:Nat} {e:Env} {g:G} (esz x l h m):opE c al lo id (.slice esz x l h m) e g = vSlice esz (x.ev e) (evo e l) (evo e h) (evo e m) g:=rfl
theorem evoN (e:Env):evo e none = none:=rfl
theorem evoS (e:Env) (x:Opd):evo e (some x) = some (x.ev e):=rfl
theorem intsC_take (l:List Int) (k:Nat):(intsC l).take (k * 1) = intsC (l.take k):=by simp[intsC,List.map_take]
theorem intsC_len (l:List Int):(intsC l).length = l.length:=by simp[intsC]
theorem take_getD {l:List Int} {k:Nat} (h:k < l.length):l.take (k + 1) = l.take k ++ [l.getD k 0]:=by
 rw[List.take_add_one,List.getD_eq_getElem?_getD,List.getElem?_eq_getElem h]
 rfl
end Go.Ab
end
section
set_option linter.unusedVariables false
set_option linter.unusedSimpArgs false
namespace Go.Ab
variable {F:Funs}
theorem o_appM {c:CS} {al:Nat→Bool} {lo id:Nat} {e:Env} {g:G} (esz b x y):opE c al lo id (.appM esz b x y) e g = vAppM al id esz b (x.ev e) (y.ev e) g:=rfl
def apmR (id esz b m ld:Nat) (ds:List AV) (g:G) (ok:Bool):Option (AV × G):=if 1≤m∧m * b≤2 ^ 46∧m≤2 ^ 62∧ld = m * esz∧ok then some (.ms id 0 m,⟨upd g.hp id (some (.cells ds false)),g.nx⟩) else none
theorem vAppM_rig {al:Nat→Bool} {id esz b m:Nat} {ds:List AV} {t:Tok} {g:G}:vAppM al id esz b (.sl [] 0 .rig) (.sl ds m t) g = apmR id esz b m ds.length ds g (ds.all one):=rfl
theorem apmR_ok {id esz b m ld:Nat} {ds:List AV} {g:G} (h:1≤m∧b≤1000∧m≤1000000∧ld = m * esz):apmR id esz b m ld ds g true = some (.ms id 0 m,⟨upd g.hp id (some (.cells ds false)),g.nx⟩):=by
 obtain ⟨h1,h2,h3,h4⟩:=h
 exact if_pos ⟨h1,Nat.le_trans (Nat.mul_le_mul h3 h2) (by omega),Nat.le_trans h3 (by omega),h4,rfl⟩
def apmS (id esz bytes b n m ld:Nat) (ds:List AV) (g:G) (ok:Bool):Option Blk→Option (AV × G)
 | some (.cells cs false) => if 1≤n∧1≤m∧(n + m) * bytes≤2 ^ 46∧n + m≤2 ^ 62∧cs.length = n * esz∧ld = m * esz∧ok then
         some (.ms id 0 (n + m),⟨upd (upd g.hp b (some (.tok false))) id (some (.cells (cs ++ ds) false)),g.nx⟩)
    else none
 | _ => none
theorem vAppM_S {al:Nat→Bool} {id esz bytes b n m:Nat} {ds:List AV} {t:Tok} {g:G}:vAppM al id esz bytes (.ms b 0 n) (.sl ds m t) g = apmS id esz bytes b n m ds.length ds g (ds.all one) (selB (al b) (g.hp b)):=by
 unfold vAppM vSrcM
 simp only[rd_S]
 cases selB (al b) (g.hp b) with
 | none => rfl
 | some bl =>
   cases bl with
   | cells cs ro => cases ro<;>rfl
   | map es => rfl
   | tok l => rfl
theorem apmS_ok {id esz bytes b n m ld:Nat} {cs ds:List AV} {g:G} (h:1≤n∧1≤m∧bytes≤1000∧n + m≤1000000∧cs.length = n * esz∧ld = m * esz):apmS id esz bytes b n m ld ds g true (some (.cells cs false)) = some (.ms id 0 (n + m),⟨upd (upd g.hp b (some (.tok false))) id (some (.cells (cs ++ ds) false)),g.nx⟩):=by
 obtain ⟨h1,h2,h3,h4,h5,h6⟩:=h
 have h7:(n + m) * bytes≤2 ^ 46:=Nat.le_trans (Nat.mul_le_mul h4 h3) (by omega)
 exact if_pos ⟨h1,h2,h7,Nat.le_trans h4 (by omega),h5,h6,rfl⟩
def apcS (id esz bytes b k e n m ld:Nat) (ds:List AV) (g:G) (ok:Bool):Option Blk→Option (AV × G)
 | some (.cells cs false) => if e = esz∧1≤n∧k≤n∧1≤m∧(k + m) * bytes≤2 ^ 46∧k + m≤2 ^ 62∧cs.length = n * esz∧ld = m * esz∧ok then
         some (.ms id 0 (k + m),⟨upd (upd g.hp b (some (.tok false))) id (some (.cells (cs.take (k * esz) ++ ds) false)),g.nx⟩)
    else none
 | _ => none
theorem vAppM_C {al:Nat→Bool} {id esz bytes b k e n m:Nat} {ds:List AV} {t:Tok} {g:G}:vAppM al id esz bytes (.mc b k e n) (.sl ds m t) g = apcS id esz bytes b k e n m ds.length ds g (ds.all one) (selB (al b) (g.hp b)):=by
 unfold vAppM vSrcM
 simp only[rd_S]
 cases selB (al b) (g.hp b) with
 | none => rfl
 | some bl =>
   cases bl with
   | cells cs ro => cases ro<;>rfl
   | map es => rfl
   | tok l => rfl
theorem apcS_ok {id esz bytes b k n m ld:Nat} {cs ds:List AV} {g:G} (h:1≤n∧k≤n∧1≤m∧bytes≤1000∧k + m≤1000000∧cs.length = n * esz∧ld = m * esz):apcS id esz bytes b k esz n m ld ds g true (some (.cells cs false)) = some (.ms id 0 (k + m),⟨upd (upd g.hp b (some (.tok false))) id (some (.cells (cs.take (k * esz) ++ ds) false)),g.nx⟩):=by
 obtain ⟨h1,h2,h3,h4,h5,h6,h8⟩:=h
 have h7:(k + m) * bytes≤2 ^ 46:=Nat.le_trans (Nat.mul_le_mul h5 h4) (by omega)
 exact if_pos ⟨rfl,h1,h2,h3,h7,Nat.le_trans h5 (by omega),h6,h8,rfl⟩
theorem slHiM {esz b n:Nat} {ki:IntKind} {z:Int} {g:G} (h1:1≤n) (h2:0≤z) (h3:z≤(n:Int)):vSlice esz (.ms b 0 n) none (some (.i ki z)) none g = some (.mc b z.toNat esz n,g):=if_pos ⟨rfl,h1,h2,h3⟩
def evE (regs:List Int):List (Int × Int)→List Int→List Int
 | [],st => st
 | p :: l,st => if p.1 = 1 then evE regs l (p.2 :: st) else if p.1 = 3 then evE regs l (doX p.2 (st.getD 1 0) (st.getD 0 0) :: st.drop 2)
   else evE regs l ((if p.2 < regs.length then regs.getD p.2.toNat 0 else 0) :: st)
theorem evE_cons (regs p l st):evE regs (p :: l) st = if p.1 = 1 then evE regs l (p.2 :: st) else if p.1 = 3 then evE regs l (doX p.2 (st.getD 1 0) (st.getD 0 0) :: st.drop 2)
  else evE regs l ((if p.2 < regs.length then regs.getD p.2.toNat 0 else 0) :: st):=by simp only[evE]
theorem evE_nil (regs st):evE regs [] st = st:=by simp only[evE]
def evX (ex:List (Int × Int)) (regs:List Int):Int:=if chkX ex = true then (evE regs ex []).headD 0 else 0
theorem chkX_inv {ex:List (Int × Int)} (h:chkX ex = true):chkG ex 0 = some 1∧ex.length≤9:=by
 unfold chkX at h
 split at h
 ·rename_i d hd
  simp only[Bool.and_eq_true,decide_eq_true_eq] at h
  exact ⟨by rw[hd,h.1],h.2⟩
 ·cases h
def StkAt (st:List Int) (v:AV) (g:G):Prop:=(st = []∧v = .sl [] 0 .rig)∨(st≠[]∧∃ id,v = .ms id 0 st.length∧g.hp id = some (.cells (intsC st.reverse) false)∧id < g.nx)
structure EvI (ex:List (Int × Int)) (regs:List Int) (k:Nat) (st:List Int) (e:Env) (g:G):Prop where
 hk:k≤ex.length
 hs:st.length≤k
 e0:e 0 = .sl (tkC ex) ex.length .non
 e1:e 1 = .sl (intsC regs) regs.length .non
 e5:StkAt st (e 5) g
 e6:e 6 = .i .i64 ((k:Nat):Int)
 hc:chkG (ex.drop k) st.length = some 1
 ev:evE regs (ex.drop k) st = evE regs ex []
theorem ints_p1 {l:List Int} {k:Nat} (h:k < l.length):part (intsC l) (k * 1) none = some (.i .i64 (l.getD k 0)):=by
 have:=ints_part h
 simpa [part] using this
theorem sp_eval (h115:F 115 = some A_xref02_Eval) (h109:F 109 = some A_xref02_Check) (h125:F 125 = some A_xref02_word) (h128:F 128 = some A_xref02_Do) (ex:List (Int × Int)) (regs:List Int) (hl:ex.length≤1000000) (hr:regs.length≤1000000):
  pureS F 115 [exV ex,.sl (intsC regs) regs.length .non] = some (.i .i64 (evX ex regs)):=by
 refine pure_of h115 ?_
 have hck:=sp_exCheck h109 h125 ex hl
 unfold exV at hck ⊢
 unfold evX
 cases c0:chkX ex with
 | false =>
   rw[c0] at hck
   simp (disch:=omega) only[A_xref02_Eval,wp,qa,qb,qc,hck,if_false]
 | true =>
   rw[c0] at hck
   obtain ⟨hc0,hl9⟩:=chkX_inv c0
   rw[if_pos rfl]
   simp (disch:=omega) only[A_xref02_Eval,wp,qa,qb,qc,hck]
   refine blk_cut (fun e g => ∃ (v:Int) (id:Nat),e 5 = .ms id 0 1∧g.hp id = some (.cells [.i .i64 v] false)∧id < g.nx∧v = (evE regs ex []).headD 0) ?_ ?_
   ·refine W_loop (fun q e g => ∃ (k:Nat) (st:List Int),q = ex.length - k∧EvI ex regs k st e g) ex.length ?_ ?_
    ·exact ⟨0,[],rfl,Nat.zero_le _,Nat.le_refl _,rfl,rfl,.inl ⟨rfl,rfl⟩,rfl,hc0,rfl⟩
    ·rintro q e g ⟨k,st,rfl,hk,hsl,e0,e1,e5,e6,hc,hev⟩
     by_cases c1:k < ex.length
     ·have c1':((k:Nat):Int) < ((ex.length:Nat):Int):=by omega
      have hkd:=tk_k c1
      have hvd:=tk_v c1
      have hl2:=tk_l c1
      have hw:=succ_wrap (k:=k) (by omega)
      have hdc:=drop_cons (d:=((0,0):Int × Int)) c1
      rw[hdc] at hc hev
      rw[chkG_cons] at hc
      rw[evE_cons] at hev
      generalize ex.getD k (0,0) = p at hkd hvd hc hev
      cases c2:wdB p with
      | false => rw[c2] at hc;simp at hc
      | true =>
        rw[c2] at hc
        rw[if_pos rfl] at hc
        have next:∀ (st':List Int) (e':Env) (g':G),chkG (ex.drop (k + 1)) st'.length = some 1→evE regs (ex.drop (k + 1)) st' = evE regs ex []→st'.length≤k + 1→e' 0 = .sl (tkC ex) ex.length .non→e' 1 = .sl (intsC regs) regs.length .non→StkAt st' (e' 5) g'→e' 6 = .i .i64 ((k + 1:Nat):Int) →
          ∃ m',m' < ex.length - k∧∃ (k:Nat) (st:List Int),m' = ex.length - k∧EvI ex regs k st e' g':=
         fun st' e' g' a1 a2 a3 a4 a5 a6 a7 => ⟨ex.length - (k + 1),by omega,k + 1,st',rfl,⟨by omega,a3,a4,a5,a6,a7,a1,a2⟩⟩
        by_cases c3:p.1 = 1
        ·have c3a:(p.1 == 1) = true:=by simpa using c3
         rw[if_neg (by omega)] at hc
         rw[if_pos c3] at hev
         rcases e5 with ⟨rfl,e5⟩ | ⟨hne,b,e5,hb,hlt⟩
         ·simp (disch:=omega) only[wp,qa,qb,qc,e0,e1,e5,e6,c1',hkd,hvd,c3a,hw,o_appM,vAppM_rig,apmR_ok]
          refine next [p.2] _ _ hc hev ?_ ?_ ?_ ?_ ?_
          ·simp
          ·exact e0
          ·exact e1
          ·refine .inr ⟨by simp,_,rfl,?_,?_⟩
           ·simp (disch:=omega) only[upd_same,upd_ne];rfl
           ·dsimp only;omega
          ·rfl
         ·have h1:1≤st.length:=by cases st with | nil => exact absurd rfl hne | cons _ _ => simp
          have hcl:(intsC st.reverse).length = st.length * 1:=by rw[intsC_len,List.length_reverse,Nat.mul_one]
          simp (disch:=omega) only[wp,qa,qb,qc,e0,e1,e5,e6,c1',hkd,hvd,c3a,hw,hb,o_appM,vAppM_S,apmS_ok]
          refine next (p.2 :: st) _ _ hc hev ?_ ?_ ?_ ?_ ?_
          ·simp;omega
          ·exact e0
          ·exact e1
          ·refine .inr ⟨by simp,_,rfl,?_,?_⟩
           ·simp (disch:=omega) only[upd_same,upd_ne];simp[intsC]
           ·dsimp only;omega
          ·rfl
        ·have c3a:(p.1 == 1) = false:=by simpa using c3
         rw[if_neg c3] at hev
         by_cases c4:p.1 = 3
         ·have c4a:(p.1 == 3) = true:=by simpa using c4
          rw[if_pos c4] at hc hev
          by_cases c5:st.length < 2
          ·rw[if_pos c5] at hc;cases hc
          ·rw[if_neg c5] at hc
           obtain ⟨y,x,r,rfl⟩:∃ y x r,st = y :: x :: r:=by
            match st,c5 with
            | [],h => exact absurd (by simp) h
            | [_],h => exact absurd (by simp) h
            | y :: x :: r,_ => exact ⟨y,x,r,rfl⟩
           rcases e5 with ⟨h,_⟩ | ⟨hne,b,e5,hb,hlt⟩
           ·cases h
           ·have hrev:(y :: x :: r).reverse = r.reverse ++ [x,y]:=by simp
            rw[hrev] at hb
            simp only[List.length_cons] at e5 hc hsl
            have hcl:(intsC (r.reverse ++ [x,y])).length = (r.length + 1 + 1) * 1:=by rw[intsC_len];simp
            have hpx:part (intsC (r.reverse ++ [x,y])) (r.length * 1) none = some (.i .i64 x):=by
             rw[ints_p1 (by simp),List.getD_eq_getElem?_getD,List.getElem?_append_right (by simp)];simp
            have hpy:part (intsC (r.reverse ++ [x,y])) ((r.length + 1) * 1) none = some (.i .i64 y):=by
             rw[ints_p1 (by simp),List.getD_eq_getElem?_getD,List.getElem?_append_right (by simp)];simp
            have hs2:IntKind.i64.wrap (((r.length + 1 + 1:Nat):Int) - 2) = ((r.length:Nat):Int):=by rw[i64_wrap (by omega) (by omega)];omega
            have hs1:IntKind.i64.wrap (((r.length + 1 + 1:Nat):Int) - 1) = ((r.length + 1:Nat):Int):=by rw[i64_wrap (by omega) (by omega)];omega
            have hdo:=sp_do h128 p.2 x y
            simp (disch:=omega) only[wp,qa,qb,qc,e0,e1,e5,e6,c1',hkd,hvd,c3a,c4a,hw,hb,hs1,hs2,hpx,hpy,hdo,oSlice,evoN,evoS,slHiM,o_appM,vAppM_C,apcS_ok]
            refine next (doX p.2 x y :: r) _ _ hc hev ?_ ?_ ?_ ?_ ?_
            ·simp;omega
            ·exact e0
            ·exact e1
            ·refine .inr ⟨by simp,_,rfl,?_,?_⟩
             ·simp (disch:=omega) only[upd_same,upd_ne]
              rw[show (intsC (r.reverse ++ [x,y])).take (r.length * 1) = intsC r.reverse by rw[intsC_take,List.take_append_of_le_length (by simp),List.take_of_length_le (by simp)]]
              simp[intsC]
             ·dsimp only;omega
            ·rfl
         ·have c4a:(p.1 == 3) = false:=by simpa using c4
          rw[if_neg c4] at hc hev
          have hv0:0≤p.2∧p.2 < 8:=by
           unfold wdB at c2
           rw[if_neg c3,if_neg c4] at c2
           split at c2
           ·simpa using c2
           ·cases c2
          by_cases c6:p.2 < (regs.length:Int)
          ·rw[if_pos c6] at hev
           have hpr:=ints_part (l:=regs) (k:=p.2.toNat) (by omega)
           rcases e5 with ⟨rfl,e5⟩ | ⟨hne,b,e5,hb,hlt⟩
           ·simp (disch:=omega) only[wp,qa,qb,qc,e0,e1,e5,e6,c1',hkd,hvd,c3a,c4a,c6,hpr,hw,o_appM,vAppM_rig,apmR_ok]
            refine next [regs.getD p.2.toNat 0] _ _ hc hev ?_ ?_ ?_ ?_ ?_
            ·simp
            ·exact e0
            ·exact e1
            ·refine .inr ⟨by simp,_,rfl,?_,?_⟩
             ·simp (disch:=omega) only[upd_same,upd_ne];rfl
             ·dsimp only;omega
            ·rfl
           ·have h1:1≤st.length:=by cases st with | nil => exact absurd rfl hne | cons _ _ => simp
            have hcl:(intsC st.reverse).length = st.length * 1:=by rw[intsC_len,List.length_reverse,Nat.mul_one]
            simp (disch:=omega) only[wp,qa,qb,qc,e0,e1,e5,e6,c1',hkd,hvd,c3a,c4a,c6,hpr,hw,hb,o_appM,vAppM_S,apmS_ok]
            refine next (regs.getD p.2.toNat 0 :: st) _ _ hc hev ?_ ?_ ?_ ?_ ?_
            ·simp;omega
            ·exact e0
            ·exact e1
            ·refine .inr ⟨by simp,_,rfl,?_,?_⟩
             ·simp (disch:=omega) only[upd_same,upd_ne];simp[intsC]
             ·dsimp only;omega
            ·rfl
          ·rw[if_neg c6] at hev
           rcases e5 with ⟨rfl,e5⟩ | ⟨hne,b,e5,hb,hlt⟩
           ·simp (disch:=omega) only[wp,qa,qb,qc,e0,e1,e5,e6,c1',hkd,hvd,c3a,c4a,c6,hw,o_appM,vAppM_rig,apmR_ok]
            refine next [0] _ _ hc hev ?_ ?_ ?_ ?_ ?_
            ·simp
            ·exact e0
            ·exact e1
            ·refine .inr ⟨by simp,_,rfl,?_,?_⟩
             ·simp (disch:=omega) only[upd_same,upd_ne];rfl
             ·dsimp only;omega
            ·rfl
           ·have h1:1≤st.length:=by cases st with | nil => exact absurd rfl hne | cons _ _ => simp
            have hcl:(intsC st.reverse).length = st.length * 1:=by rw[intsC_len,List.length_reverse,Nat.mul_one]
            simp (disch:=omega) only[wp,qa,qb,qc,e0,e1,e5,e6,c1',hkd,hvd,c3a,c4a,c6,hw,hb,o_appM,vAppM_S,apmS_ok]
            refine next (0 :: st) _ _ hc hev ?_ ?_ ?_ ?_ ?_
            ·simp;omega
            ·exact e0
            ·exact e1
            ·refine .inr ⟨by simp,_,rfl,?_,?_⟩
             ·simp (disch:=omega) only[upd_same,upd_ne];simp[intsC]
             ·dsimp only;omega
            ·rfl
     ·have c1':¬ ((k:Nat):Int) < ((ex.length:Nat):Int):=by omega
      obtain rfl:k = ex.length:=by omega
      rw[List.drop_length] at hc hev
      rw[chkG_nil] at hc
      rw[evE_nil] at hev
      have hs1:st.length = 1:=Option.some.inj hc
      obtain ⟨v,rfl⟩:∃ v,st = [v]:=List.length_eq_one_iff.1 hs1
      rcases e5 with ⟨h,_⟩ | ⟨hne,b,e5,hb,hlt⟩
      ·cases h
      ·simp (disch:=omega) only[wp,qa,qb,qc,e0,e1,e5,e6,c1']
       exact ⟨v,b,rfl,hb,by omega,by rw[←hev];rfl⟩
   ·rintro e g ⟨v,id,e5,hid,hlt,rfl⟩
    simp (disch:=omega) only[wp,qa,qb,qc,e5,hid]
end Go.Ab
end
section
set_option linter.unusedVariables false
set_option linter.unusedSimpArgs false
namespace Go.Ab
variable {F:Funs}
structure TkS where
 t0:Tok
 t1:Tok
 td:Tok
 tc:Tok
 ti:Tok
 tr:Tok
 tn:Tok
 tt:Tok
 fs:List Tok
def frC (frm:List (List Int)) (ts:List Tok):List AV:=(List.range 8).map fun r => .sl (intsC (frm.getD r [])) (frm.getD r []).length (ts.getD r .non)
def stT (s:RS) (T:TkS):List AV:=frC s.frm T.fs ++ [.sl (intsC s.now) s.now.length T.tn,.sl [] 0 T.tt,.b s.short]
def stC (s:RS) (R:Nat) (reads:List Int) (T:TkS):List AV:=
 .sl (evsC s.evs) s.evs.length T.t0 :: .sl (pairsC s.rmw) s.rmw.length T.t1 :: .sl (pairsC s.data) s.data.length T.td :: .sl (pairsC s.ctrl) s.ctrl.length T.tc :: .sl [] 0 T.ti :: .i .i64 (s.used:Int) :: .ms R 0 8 :: .sl (intsC reads) reads.length T.tr :: stT s T
structure SOk (s:RS) (R S:Nat) (reads:List Int) (T:TkS) (g:G):Prop where
 st:g.hp S = some (.cells (stC s R reads T) false)
 rg:g.hp R = some (.cells (intsC s.regs) false)
 l0:Live g 6 T.t0
 l1:Live g 2 T.t1
 ne:∀ i,T.t0≠.own i 6∨T.t1≠.own i 2
 sx:S < g.nx
 rx:R < g.nx
 sr:S≠R
 fs:T.fs.length = 8
 f8:s.frm.length = 8
 r8:s.regs.length = 8
structure Frm (S R:Nat) (g g':G):Prop where
 nx:g.nx≤g'.nx
 cells:∀ b cs ro,b≠S→b≠R→b < g.nx→g.hp b = some (.cells cs ro)→g'.hp b = some (.cells cs ro)
end Go.Ab
end
section
set_option linter.unusedVariables false
set_option linter.unusedSimpArgs false
namespace Go.Ab
variable {F:Funs}
theorem SOk.put {s s1:RS} {R S:Nat} {reads:List Int} {T T1:TkS} {g:G} (k:SOk s R S reads T g) (hr:s1.regs = s.regs) (hf:s1.frm.length = 8) (h0:T1.t0 = T.t0) (h1:T1.t1 = T.t1) (hfs:T1.fs.length = 8) {hp':Nat→Option Blk} {m:Nat} (hS:hp' S = some (.cells (stC s1 R reads T1) false)) (ho:∀ i,i < g.nx→i≠S→hp' i = g.hp i) (hm:g.nx≤m):SOk s1 R S reads T1 ⟨hp',m⟩:=by
 obtain ⟨st,rg,l0,l1,ne,sx,rx,sr,fs,f8,r8⟩:=k
 refine ⟨hS,by show hp' R = _;rw[ho R rx (fun h => sr h.symm),hr];exact rg,?_,?_,by rw[h0,h1];exact ne,Nat.lt_of_lt_of_le sx hm,Nat.lt_of_lt_of_le rx hm,sr,hfs,hf,by rw[hr];exact r8⟩
 ·rw[h0]
  rcases l0 with h | ⟨τ,h,hτ,lτ⟩
  ·exact .inl h
  ·exact .inr ⟨τ,h,by show hp' τ = _;rw[ho τ lτ fun h => by rw[h,st] at hτ;cases hτ];exact hτ,Nat.lt_of_lt_of_le lτ hm⟩
 ·rw[h1]
  rcases l1 with h | ⟨τ,h,hτ,lτ⟩
  ·exact .inl h
  ·exact .inr ⟨τ,h,by show hp' τ = _;rw[ho τ lτ fun h => by rw[h,st] at hτ;cases hτ];exact hτ,Nat.lt_of_lt_of_le lτ hm⟩
theorem SOk.old {s:RS} {R S:Nat} {reads:List Int} {T:TkS} {g:G} (k:SOk s R S reads T g) {hp':Nat→Option Blk} {m:Nat} (ho:∀ i,i < g.nx→hp' i = g.hp i) (hm:g.nx≤m):SOk s R S reads T ⟨hp',m⟩:=
 k.put rfl k.f8 rfl rfl k.fs (by rw[ho S k.sx];exact k.st) (fun i hi _ => ho i hi) hm
theorem Frm.trans {S R:Nat} {g g1 g2:G} (h:Frm S R g g1) (k:Frm S R g1 g2):Frm S R g g2:=
 ⟨Nat.le_trans h.nx k.nx,fun b cs ro h1 h2 h3 h4 => k.cells b cs ro h1 h2 (Nat.lt_of_lt_of_le h3 h.nx) (h.cells b cs ro h1 h2 h3 h4)⟩
theorem Frm.of {S R:Nat} {g:G} {hp':Nat→Option Blk} {m:Nat} (hm:g.nx≤m) (ho:∀ i,i < g.nx→i≠S→i≠R→hp' i = g.hp i):Frm S R g ⟨hp',m⟩:=
 ⟨hm,fun b cs ro h1 h2 h3 h4 => by show hp' b = _;rw[ho b h3 h1 h2];exact h4⟩
end Go.Ab
end
section
set_option linter.unusedVariables false
set_option linter.unusedSimpArgs false
namespace Go.Ab
variable {F:Funs}
def zR:List AV:=[.sl [] 0 .rig,.sl [] 0 .rig,.sl [] 0 .rig,.sl [] 0 .rig,.sl [] 0 .rig,.i .i64 0,.sl [] 0 .rig]
structure DoI (F:Funs) (V:List (Int × Int)→List Int→Int) (th:List Ins) (reads:List Int) (R S k:Nat) (s:RS) (T:TkS) (e:Env) (g:G):Prop where
 hk:k≤th.length
 e0:e 0 = .sl (insLC th) th.length .non
 e4:e 4 = .mp 0 0
 e6:e 6 = .mp S 0
 e7:e 7 = .i .i64 ((k:Nat):Int)
 h0:g.hp 0 = some (.cells zR false)
 ok:SOk s R S reads T g
 s0:0 < S
 r0:0 < R
 inv:RInv s
 run:runR V reads th (th.length - k) k s = doR V th reads
 used:s.used≤k
 evs:s.evs.length≤2 * k
theorem DoI.mv {V:List (Int × Int)→List Int→Int} {th:List Ins} {reads:List Int} {R S k:Nat} {s:RS} {T:TkS} {e e':Env} {g:G} {m:Nat} (I:DoI F V th reads R S k s T e g) (h0:e' 0 = e 0) (h4:e' 4 = e 4) (h6:e' 6 = e 6) (h7:e' 7 = e 7) (hm:g.nx≤m):DoI F V th reads R S k s T e' ⟨g.hp,m⟩:=
 ⟨I.hk,h0.trans I.e0,h4.trans I.e4,h6.trans I.e6,h7.trans I.e7,I.h0,I.ok.old (fun i hi => rfl) hm,I.s0,I.r0,I.inv,I.run,I.used,I.evs⟩
end Go.Ab
end
section
namespace Go.Ab
def A_expr_Check:AFun:={ res:=[.t 2],body:=(.seq (.reg false [qo 2 (.mv (.c (.b false)))])
 (.seq (.reg false [qo 3 (.mv (.c (.i .i64 0)))])
 (.seq (.seq (.reg false [qm 6 0,qo 7 (.len (.t 6)),qo 8 (.mv (.c (.i .i64 0)))])
 (.blk 0 (.loop (.seq (.reg false [qo 9 (.bin .lss (.t 8) (.t 7))])
 (.seq (.cond (.t 9) .skip
 (.ext 0))
 (.seq (.blk 1 (.seq (.reg false [qo 10 (.ia 2 (.t 6) (.t 8)),qo 11 (.ld (some 2) (.t 10)),qo 5 (.new ([.i .i64 0,.i .i64 0])),qn (.st 2 (.t 5) (.t 11))])
 (.seq (.seq (.reg false [qo 12 (.ld (some 2) (.t 5)),qo 13 (.call .pure (.c (.fn 331 [] [])) [.t 12]),qo 14 (.un .not (.t 13)),qm 15 14,qg 16 (.fa 0 (.t 5)) 15 false,qg 17 (.ld none (.t 16)) 15 false,qg 18 (.bin .eql (.t 17) (.c (.i .i64 3))) 15 false,qg 19 (.mv (.t 18)) 15 false,qg 20 (.mv (.t 3)) 19 true,qg 21 (.bin .lss (.t 20) (.c (.i .i64 2))) 19 true,qg 22 (.pick (.t 19) (.t 21) (.c (.b false))) 15 false,qo 23 (.pick (.t 15) (.c (.b true)) (.t 22))])
 (.cond (.t 23) (.seq (.reg false [qo 2 (.mv (.c (.b false)))])
 .ret)
 .skip))
 (.seq (.reg false [qo 24 (.fa 0 (.t 5)),qo 25 (.ld none (.t 24)),qo 26 (.bin .eql (.t 25) (.c (.i .i64 3)))])
 (.cond (.t 26) (.reg false [qm 27 3,qo 28 (.bin .sub (.t 27) (.c (.i .i64 1))),qm 3 28])
 (.reg false [qm 29 3,qo 30 (.bin .add (.t 29) (.c (.i .i64 1))),qm 3 30]))))))
 (.reg false [qo 31 (.bin .add (.t 8) (.c (.i .i64 1))),qm 8 31])))))))
 (.seq (.reg false [qm 32 3,qo 33 (.bin .eql (.t 32) (.c (.i .i64 1))),qm 34 33,qg 35 (.mv (.t 0)) 34 true,qg 36 (.len (.t 35)) 34 true,qg 37 (.bin .leq (.t 36) (.c (.i .i64 9))) 34 true,qo 38 (.pick (.t 34) (.t 37) (.c (.b false))),qm 2 38])
 .ret)))) }
def A_expr_may:AFun:={ res:=[.t 2],body:=(.seq (.reg false [qo 1 (.box (.t 0)),qo 2 (.mv (.c (.b false)))])
 (.seq (.seq (.reg false [qo 3 (.fa 0 (.t 1)),qo 4 (.ld none (.t 3))])
 (.blk 0 (.seq (.reg false [qo 6 (.bin .eql (.t 4) (.c (.i .i64 1))),qm 5 6])
 (.cond (.t 5) (.seq (.reg false [qo 7 (.fa 1 (.t 1)),qo 8 (.ld none (.t 7)),qo 9 (.bin .geq (.t 8) (.c (.i .i64 (-2147483648)))),qm 10 9,qg 11 (.fa 1 (.t 1)) 10 true,qg 12 (.ld none (.t 11)) 10 true,qg 13 (.bin .lss (.t 12) (.c (.i .i64 2147483648))) 10 true,qo 14 (.pick (.t 10) (.t 13) (.c (.b false))),qm 2 14])
 .ret)
 (.seq (.reg false [qo 16 (.bin .eql (.t 4) (.c (.i .i64 2))),qm 15 16])
 (.cond (.t 15) (.seq (.reg false [qo 17 (.fa 1 (.t 1)),qo 18 (.ld none (.t 17)),qo 19 (.bin .geq (.t 18) (.c (.i .i64 0))),qm 20 19,qg 21 (.fa 1 (.t 1)) 20 true,qg 22 (.ld none (.t 21)) 20 true,qg 23 (.bin .lss (.t 22) (.c (.i .i64 8))) 20 true,qo 24 (.pick (.t 20) (.t 23) (.c (.b false))),qm 2 24])
 .ret)
 .skip))))))
 (.seq (.reg false [qo 25 (.fa 0 (.t 1)),qo 26 (.ld none (.t 25)),qo 27 (.bin .eql (.t 26) (.c (.i .i64 3))),qm 28 27,qg 29 (.fa 1 (.t 1)) 28 true,qg 30 (.ld none (.t 29)) 28 true,qg 31 (.bin .geq (.t 30) (.c (.i .i64 1))) 28 true,qo 32 (.pick (.t 28) (.t 31) (.c (.b false))),qm 33 32,qg 34 (.fa 1 (.t 1)) 33 true,qg 35 (.ld none (.t 34)) 33 true,qg 36 (.bin .leq (.t 35) (.c (.i .i64 6))) 33 true,qo 37 (.pick (.t 33) (.t 36) (.c (.b false))),qm 2 37])
 .ret))) }
def A_expr_Eval:AFun:={ res:=[.t 4],body:=(.seq (.reg false [qo 4 (.mv (.c (.i .i64 0)))])
 (.seq (.seq (.reg false [qm 9 0,qo 10 (.call .pure (.c (.fn 308 [] [])) [.t 9]),qo 11 (.un .not (.t 10))])
 (.cond (.t 11) (.seq (.reg false [qo 4 (.mv (.c (.i .i64 0)))])
 .ret)
 .skip))
 (.seq (.reg false [qo 5 (.mv (.c (.sl [] 0 .rig)))])
 (.seq (.seq (.reg false [qm 12 0,qo 13 (.len (.t 12)),qo 14 (.mv (.c (.i .i64 0)))])
 (.blk 0 (.loop (.seq (.reg false [qo 15 (.bin .lss (.t 14) (.t 13))])
 (.seq (.cond (.t 15) .skip
 (.ext 0))
 (.seq (.blk 1 (.seq (.reg false [qo 16 (.ia 2 (.t 12) (.t 14)),qo 17 (.ld (some 2) (.t 16)),qo 7 (.new ([.i .i64 0,.i .i64 0])),qn (.st 2 (.t 7) (.t 17))])
 (.seq (.reg false [qm 18 5,qo 19 (.len (.t 18)),qm 8 19])
 (.blk 2 (.seq (.reg false [qo 24 (.fa 0 (.t 7)),qo 25 (.ld none (.t 24)),qo 26 (.bin .eql (.t 25) (.c (.i .i64 3))),qm 23 26])
 (.cond (.t 23) (.reg true [qm 27 5,qm 28 8,qo 29 (.bin .sub (.t 28) (.c (.i .i64 2))),qo 30 (.slice 1 (.t 27) none (some (.t 29)) none),qo 31 (.call .pure (.c (.fn 361 [] [])) []),qo 32 (.fa 1 (.t 7)),qo 33 (.ld none (.t 32)),qo 34 (.idx 7 1 (some 1) (.t 31) (.t 33)),qo 35 (.fld 0 none (.t 34)),qm 36 5,qm 37 8,qo 38 (.bin .sub (.t 37) (.c (.i .i64 2))),qo 39 (.ia 1 (.t 36) (.t 38)),qo 40 (.ld none (.t 39)),qm 41 5,qm 42 8,qo 43 (.bin .sub (.t 42) (.c (.i .i64 1))),qo 44 (.ia 1 (.t 41) (.t 43)),qo 45 (.ld none (.t 44)),qo 46 (.call .pure (.t 35) [.t 40,.t 45]),qo 47 (.bsl true 1 ([.i .i64 0]) [(0,1,.t 46)]),qo 48 (.appM 1 8 (.t 30) (.t 47)),qm 5 48])
 (.seq (.reg false [qo 50 (.fa 0 (.t 7)),qo 51 (.ld none (.t 50)),qo 52 (.bin .eql (.t 51) (.c (.i .i64 1))),qm 49 52])
 (.cond (.t 49) (.reg false [qm 53 5,qo 54 (.fa 1 (.t 7)),qo 55 (.ld none (.t 54)),qo 56 (.bsl true 1 ([.i .i64 0]) [(0,1,.t 55)]),qo 57 (.appM 1 8 (.t 53) (.t 56)),qm 5 57])
 (.seq (.reg false [qo 59 (.fa 1 (.t 7)),qo 60 (.ld none (.t 59)),qm 61 1,qo 62 (.len (.t 61)),qo 63 (.bin .lss (.t 60) (.t 62)),qm 58 63])
 (.cond (.t 58) (.reg false [qm 64 5,qm 65 1,qo 66 (.fa 1 (.t 7)),qo 67 (.ld none (.t 66)),qo 68 (.ia 1 (.t 65) (.t 67)),qo 69 (.ld none (.t 68)),qo 70 (.bsl true 1 ([.i .i64 0]) [(0,1,.t 69)]),qo 71 (.appM 1 8 (.t 64) (.t 70)),qm 5 71])
 (.reg false [qm 20 5,qo 21 (.bsl true 1 ([.i .i64 0]) [(0,1,.c (.i .i64 0))]),qo 22 (.appM 1 8 (.t 20) (.t 21)),qm 5 22])))))))))))
 (.reg false [qo 72 (.bin .add (.t 14) (.c (.i .i64 1))),qm 14 72])))))))
 (.seq (.reg false [qm 73 5,qo 74 (.ia 1 (.t 73) (.c (.i .i64 0))),qo 75 (.ld none (.t 74)),qm 4 75])
 .ret))))) }
def A_expr_ops:AFun:={ res:=[.cell 0 (some 7)],body:=(.seq (.reg false [qo 0 (.new (List.replicate 7 (.nilf)))])
 (.seq (.reg false [qo 1 (.build ([.nilf]) [(0,1,.c (.fn 362 [] []))]),qo 2 (.build ([.nilf]) [(0,1,.c (.fn 363 [] []))]),qo 3 (.build ([.nilf]) [(0,1,.c (.fn 364 [] []))]),qo 4 (.build ([.nilf]) [(0,1,.c (.fn 365 [] []))]),qo 5 (.build ([.nilf]) [(0,1,.c (.fn 366 [] []))]),qo 6 (.build ([.nilf]) [(0,1,.c (.fn 368 [] []))]),qo 7 (.build (List.replicate 7 (.nilf)) [(1,1,.t 1),(2,1,.t 2),(3,1,.t 3),(4,1,.t 4),(5,1,.t 5),(6,1,.t 6)]),qn (.st 7 (.t 0) (.t 7))])
 .ret)) }
def A_expr_ops_1:AFun:={ res:=[.t 4],body:=(.seq (.reg false [qo 4 (.mv (.c (.i .i64 0)))])
 (.seq (.reg false [qm 5 0,qm 6 1,qo 7 (.bin .add (.t 5) (.t 6)),qm 4 7])
 .ret)) }
def A_expr_ops_2:AFun:={ res:=[.t 4],body:=(.seq (.reg false [qo 4 (.mv (.c (.i .i64 0)))])
 (.seq (.reg false [qm 5 0,qm 6 1,qo 7 (.bin .sub (.t 5) (.t 6)),qm 4 7])
 .ret)) }
def A_expr_ops_3:AFun:={ res:=[.t 4],body:=(.seq (.reg false [qo 4 (.mv (.c (.i .i64 0)))])
 (.seq (.reg false [qm 5 0,qm 6 1,qo 7 (.bin .mul (.t 5) (.t 6)),qm 4 7])
 .ret)) }
def A_expr_ops_4:AFun:={ res:=[.t 4],body:=(.seq (.reg false [qo 4 (.mv (.c (.i .i64 0)))])
 (.seq (.reg false [qm 5 0,qm 6 1,qo 7 (.bin .xor (.t 5) (.t 6)),qm 4 7])
 .ret)) }
def A_expr_ops_5:AFun:={ res:=[.t 4],body:=(.seq (.reg false [qo 4 (.mv (.c (.i .i64 0)))])
 (.seq (.reg false [qm 5 0,qm 6 1,qo 7 (.bin .eql (.t 5) (.t 6)),qo 8 (.call .pure (.c (.fn 367 [] [])) [.t 7]),qm 4 8])
 .ret)) }
def A_expr_one:AFun:={ res:=[.t 2],body:=(.seq (.reg false [qo 2 (.mv (.c (.i .i64 0)))])
 (.seq (.seq (.reg false [qm 3 0])
 (.cond (.t 3) (.seq (.reg false [qo 2 (.mv (.c (.i .i64 1)))])
 .ret)
 .skip))
 (.seq (.reg false [qo 2 (.mv (.c (.i .i64 0)))])
 .ret))) }
def A_expr_ops_6:AFun:={ res:=[.t 4],body:=(.seq (.reg false [qo 4 (.mv (.c (.i .i64 0)))])
 (.seq (.reg false [qm 5 0,qm 6 1,qo 7 (.bin .lss (.t 5) (.t 6)),qo 8 (.call .pure (.c (.fn 367 [] [])) [.t 7]),qm 4 8])
 .ret)) }
end Go.Ab
end
section
set_option linter.unusedVariables false
set_option linter.unusedSimpArgs false
namespace Go.Ab
variable {F:Funs}
theorem sp_may (h:F 331 = some A_expr_may) (p:Int × Int):pureS F 331 [.agg [.i .i64 p.1,.i .i64 p.2]] = some (.b (wdB p)):=by
 refine pure_of h ?_
 unfold wdB
 by_cases c1:p.1 = 1
 ·by_cases c2:-2147483648≤p.2
  ·by_cases c3:p.2≤2147483647
   ·have c3':p.2 < 2147483648:=by omega
    simp (disch:=omega) only[A_expr_may,wp,qa,qb,qc,c1,c2,c3,c3',if_true,Int.reduceBEq]
   ·have c3':¬ p.2 < 2147483648:=by omega
    simp (disch:=omega) only[A_expr_may,wp,qa,qb,qc,c1,c2,c3,c3',if_true,Int.reduceBEq]
  ·simp (disch:=omega) only[A_expr_may,wp,qa,qb,qc,c1,c2,if_true,Int.reduceBEq]
 have c1':(p.1 == 1) = false:=by simpa using c1
 by_cases c4:p.1 = 2
 ·by_cases c2:0≤p.2
  ·by_cases c3:p.2 < 8<;>simp (disch:=omega) only[A_expr_may,wp,qa,qb,qc,c4,c2,c3,if_true,if_false,Int.reduceBEq,Int.reduceEq]
  ·simp (disch:=omega) only[A_expr_may,wp,qa,qb,qc,c4,c2,if_true,if_false,Int.reduceBEq,Int.reduceEq]
 have c4':(p.1 == 2) = false:=by simpa using c4
 by_cases c5:p.1 = 3
 ·by_cases c2:1≤p.2
  ·by_cases c3:p.2≤6<;>simp (disch:=omega) only[A_expr_may,wp,qa,qb,qc,c5,c2,c3,if_true,if_false,Int.reduceBEq,Int.reduceEq]
  ·simp (disch:=omega) only[A_expr_may,wp,qa,qb,qc,c5,c2,if_true,if_false,Int.reduceBEq,Int.reduceEq]
 have c5':(p.1 == 3) = false:=by simpa using c5
 simp (disch:=omega) only[A_expr_may,wp,qa,qb,qc,c1,c4,c5,c1',c4',c5',if_false]
theorem sp_exprCheck (h308:F 308 = some A_expr_Check) (h331:F 331 = some A_expr_may) (ex:List (Int × Int)) (hl:ex.length≤1000000):pureS F 308 [exV ex] = some (.b (chkX ex)):=by
 refine pure_of h308 ?_
 have s2:∀ b1 b2 c1 c2:AV,splice [b1,b2] 0 [c1,c2] = [c1,c2]:=fun _ _ _ _ => rfl
 unfold exV
 simp (disch:=omega) only[A_expr_Check,wp,qa,qb,qc]
 refine blk_cutR (fun e g => ∃ d:Nat,e 0 = .sl (tkC ex) ex.length .non∧e 3 = .i .i64 ((d:Nat):Int)∧chkG ex 0 = some d) ?_ ?_
 ·refine W_loop (fun q e g => ∃ k d:Nat,q = ex.length - k∧k≤ex.length∧d≤k∧e 0 = .sl (tkC ex) ex.length .non∧e 6 = .sl (tkC ex) ex.length .non∧e 7 = .i .i64 ((ex.length:Nat):Int)∧e 3 = .i .i64 ((d:Nat):Int)∧e 8 = .i .i64 ((k:Nat):Int)∧chkG ex 0 = chkG (ex.drop k) d) ex.length ?_ ?_
  ·refine ⟨0,0,rfl,Nat.zero_le _,Nat.le_refl _,?_⟩
   simp (disch:=omega) only[wp,qa,qb,qc]
   exact ⟨rfl,rfl,rfl⟩
  ·rintro q e g ⟨k,d,rfl,hk,hd,e0,e6,e7,e3,e8,hc⟩
   by_cases c1:k < ex.length
   ·have c1':((k:Nat):Int) < ((ex.length:Nat):Int):=by omega
    have ha:=tk_ag c1
    have hw:=succ_wrap (k:=k) (by omega)
    have hwd:=succ_wrap (k:=d) (by omega)
    have hsp:=sp_may h331 (ex.getD k (0,0))
    have hdc:=drop_cons (d:=((0,0):Int × Int)) c1
    rw[hdc,chkG_cons] at hc
    generalize ex.getD k (0,0) = p at ha hsp hc
    cases c2:wdB p with
    | false =>
      rw[c2] at hsp hc
      simp (disch:=omega) only[wp,qa,qb,qc,e0,e3,e6,e7,e8,c1',ha,hsp,s2,part_22,frz_ag2]
      unfold chkX
      rw[hc]
      simp
    | true =>
      rw[c2] at hsp hc
      rw[if_pos rfl] at hc
      by_cases c3:p.1 = 3
      ·rw[if_pos c3] at hc
       have c3':(p.1 == 3) = true:=by simpa using c3
       by_cases c4:d < 2
       ·rw[if_pos c4] at hc
        have c4':((d:Nat):Int) < 2:=by omega
        simp (disch:=omega) only[wp,qa,qb,qc,e0,e3,e6,e7,e8,c1',ha,hsp,c3',c4',s2,part_22,frz_ag2]
        unfold chkX
        rw[hc]
       ·rw[if_neg c4] at hc
        have c4':¬ ((d:Nat):Int) < 2:=by omega
        have hs:IntKind.i64.wrap (((d:Nat):Int) - 1) = ((d - 1:Nat):Int):=by rw[i64_wrap (by omega) (by omega)];omega
        simp (disch:=omega) only[wp,qa,qb,qc,e0,e3,e6,e7,e8,c1',ha,hsp,c3',c4',hs,hw,s2,part_22,frz_ag2]
        exact ⟨ex.length - (k + 1),by omega,k + 1,d - 1,rfl,by omega,by omega,rfl,rfl,hc⟩
      ·rw[if_neg c3] at hc
       have c3':(p.1 == 3) = false:=by simpa using c3
       simp (disch:=omega) only[wp,qa,qb,qc,e0,e3,e6,e7,e8,c1',ha,hsp,c3',hw,hwd,s2,part_22,frz_ag2]
       exact ⟨ex.length - (k + 1),by omega,k + 1,d + 1,rfl,by omega,by omega,rfl,rfl,hc⟩
   ·have c1':¬ ((k:Nat):Int) < ((ex.length:Nat):Int):=by omega
    obtain rfl:k = ex.length:=by omega
    rw[List.drop_length] at hc
    simp (disch:=omega) only[wp,qa,qb,qc,e0,e3,e6,e7,e8,c1']
    exact ⟨d,rfl,hc⟩
 ·rintro e g ⟨d,e0,e3,hc⟩
  unfold chkX
  rw[hc]
  by_cases c1:d = 1
  ·subst c1
   have c2:((((1:Nat):Int)) == 1) = true:=rfl
   by_cases c3:ex.length≤9
   ·have c3':((ex.length:Nat):Int)≤9:=by omega
    simp (disch:=omega) only[wp,qa,qb,qc,e0,e3,c2,c3,c3']
   ·have c3':¬ ((ex.length:Nat):Int)≤9:=by omega
    simp (disch:=omega) only[wp,qa,qb,qc,e0,e3,c2,c3,c3']
  ·have c2:(((d:Nat):Int) == 1) = false:=by simp;omega
   simp (disch:=omega) only[wp,qa,qb,qc,e0,e3,c1,c2]
structure ExprF (F:Funs):Prop where
 may:F 331 = some A_expr_may
 check:F 308 = some A_expr_Check
 eval:F 358 = some A_expr_Eval
 ops:F 361 = some A_expr_ops
 o1:F 362 = some A_expr_ops_1
 o2:F 363 = some A_expr_ops_2
 o3:F 364 = some A_expr_ops_3
 o4:F 365 = some A_expr_ops_4
 o5:F 366 = some A_expr_ops_5
 one:F 367 = some A_expr_one
 o6:F 368 = some A_expr_ops_6
theorem sp_xone (h:F 367 = some A_expr_one) (b:Bool):pureS F 367 [.b b] = some (.i .i64 (if b then 1 else 0)):=by
 refine pure_of h ?_
 cases b<;>simp (disch:=omega) only[A_expr_one,wp,qa,qb,qc]<;>rfl
def opN (o:Int):Nat:=if o = 6 then 368 else (361 + o.toNat)
theorem sp_opN (A:ExprF F) {o:Int} (h1:1≤o) (h6:o≤6) (a b:Int):pureS F (opN o) [.i .i64 a,.i .i64 b] = some (.i .i64 (doX o a b)):=by
 have hs:o = 1∨o = 2∨o = 3∨o = 4∨o = 5∨o = 6:=by omega
 rcases hs with rfl | rfl | rfl | rfl | rfl | rfl
 ·refine pure_of A.o1 ?_
  simp (disch:=omega) only[A_expr_ops_1,wp,qa,qb,qc];rfl
 ·refine pure_of A.o2 ?_
  simp (disch:=omega) only[A_expr_ops_2,wp,qa,qb,qc];rfl
 ·refine pure_of A.o3 ?_
  simp (disch:=omega) only[A_expr_ops_3,wp,qa,qb,qc];rfl
 ·refine pure_of A.o4 ?_
  simp (disch:=omega) only[A_expr_ops_4,wp,qa,qb,qc,b_xor];rfl
 ·refine pure_of A.o5 ?_
  have h:=sp_xone A.one (a == b)
  simp (disch:=omega) only[A_expr_ops_5,wp,qa,qb,qc,h]
  simp[doX]
 ·refine pure_of A.o6 ?_
  have h:=sp_xone A.one (decide (a < b))
  simp (disch:=omega) only[A_expr_ops_6,wp,qa,qb,qc,h]
  simp[doX]
def opsV:AV:=.agg [.nilf,.fn 362 [] [],.fn 363 [] [],.fn 364 [] [],.fn 365 [] [],.fn 366 [] [],.fn 368 [] []]
theorem sp_ops (h:F 361 = some A_expr_ops):pureS F 361 [] = some opsV:=by
 refine pure_of h ?_
 have r7:∀ x:AV,List.replicate 7 x = [x,x,x,x,x,x,x]:=fun _ => rfl
 have s7:∀ b1 b2 b3 b4 b5 b6 b7 c1 c2 c3 c4 c5 c6 c7:AV,splice [b1,b2,b3,b4,b5,b6,b7] 0 [c1,c2,c3,c4,c5,c6,c7] = [c1,c2,c3,c4,c5,c6,c7]:=fun _ _ _ _ _ _ _ _ _ _ _ _ _ _ => rfl
 have cf:∀ k,cellsOf (.fn k [] []) = [.fn k [] []]:=fun _ => rfl
 have z:∀ hp,frz hp depth opsV = some opsV:=fun hp => by
  show frz hp (8 + 1) _ = _
  simp only[opsV,frz,frzL]
  rfl
 have on:one .nilf = true:=rfl
 have of:∀ k,one (.fn k [] []) = true:=fun _ => rfl
 simp (disch:=omega) only[A_expr_ops,wp,qa,qb,qc,r7,s7,cf,on,of,List.length_cons,List.length_nil]
 have hr:∀ (e:Env) (g:G),e 0 = .mp 0 0→g.hp 0 = some (.cells [.nilf,.fn 362 [] [],.fn 363 [] [],.fn 364 [] [],.fn 365 [] [],.fn 366 [] [],.fn 368 [] []] false)→resE [ARes.cell 0 (some 7)] e g = some opsV:=by
  intro e g h1 h2
  simp only[resE,resAll,resOne,h1,h2]
  rfl
 rw[hr _ _ (by simp (disch:=omega) only[wp,qa,qb,qc]) (by simp (disch:=omega) only[wp,qa,qb,qc])]
 exact z _
theorem ops_at {o:Int} (h1:1≤o) (h6:o≤6) (g:G):vIdx 7 1 (some 1) opsV (.i .i64 o) g = some (.agg [.fn (opN o) [] []],g):=by
 have hs:o = 1∨o = 2∨o = 3∨o = 4∨o = 5∨o = 6:=by omega
 rcases hs with rfl | rfl | rfl | rfl | rfl | rfl<;>rfl
end Go.Ab
end
