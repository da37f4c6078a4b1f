/- What RulesNumbers rests on, part 2: lemmas, no claim of its own. -/
import Derived.LoopN
import Derived.Scope
import Derived.Test.YtacmiicckhaagaaGreatPRulesNumbers1
set_option maxRecDepth 100000
set_option maxHeartbeats 16000000
open Nat renaming reduceAdd → qa, reduceMul → qb, reduceSub → qc
section
set_option linter.unusedVariables false
set_option linter.unusedSimpArgs false
namespace Go.Ab
def Opd.names:Opd→List Nat
 | .t n => [n]
 | .c _ => []
def onames:Option Opd→List Nat
 | some x => x.names
 | none => []
def pnames (ps:List (Nat × Nat × Opd)):List Nat:=ps.flatMap fun p => p.2.2.names
def AOp.names:AOp→List Nat
 | .mv x | .box x | .boxI x | .ld _ x | .ldF _ x | .nilck x | .eqs _ x | .clr _ _ x | .un _ x | .conv _ x | .fa _ x | .fld _ _ x | .ext _ x | .len x | .slen x => x.names
 | .pick x y z | .mput x y z => x.names ++ y.names ++ z.names
 | .new _ | .mkmap => []
 | .build _ ps | .bsl _ _ _ ps => pnames ps
 | .st _ x y | .stL _ x y | .stW _ x y | .bin _ x y | .eqb _ x y | .eqn _ x y | .eqa _ _ x y | .mget x y | .mksl _ _ _ x y | .ia _ x y | .iaa _ _ x y | .idx _ _ _ x y | .sidx x y | .mx x y | .mn x y | .app _ _ x y | .appM _ _ x y | .cutM _ x y => x.names ++ y.names
 | .bad => []
 | .ldQ _ x t => x.names ++ [t]
 | .stN _ x y ts => x.names ++ y.names ++ ts
 | .mkfn _ a b => a.flatMap (·.names) ++ b.flatMap (·.names)
 | .slice _ x l h m => x.names ++ onames l ++ onames h ++ onames m
 | .sslice x l h => x.names ++ onames l ++ onames h
 | .call _ f asx => f.names ++ asx.flatMap (·.names)
theorem ev_congr {e e':Env} {x:Opd} (h:∀ t∈x.names,e' t = e t):x.ev e' = x.ev e:=by
 cases x with
 | t n => exact h n (by simp[Opd.names])
 | c v => rfl
theorem evo_congr {e e':Env} {x:Option Opd} (h:∀ t∈onames x,e' t = e t):evo e' x = evo e x:=by
 cases x with
 | none => rfl
 | some x => exact congrArg some (ev_congr h)
theorem evl_congr {e e':Env}:∀ {xs:List Opd},(∀ t∈xs.flatMap (·.names),e' t = e t)→xs.map (·.ev e') = xs.map (·.ev e)
 | [],_ => rfl
 | x :: xs,h => by
   rw[List.map_cons,List.map_cons,ev_congr (fun t ht => h t (by simp[ht])),evl_congr (xs:=xs) (fun t ht => h t (by rw[List.flatMap_cons];exact List.mem_append_right _ ht))]
theorem fill_congr {e e':Env}:∀ {ps:List (Nat × Nat × Opd)} {cs:List AV},(∀ t∈pnames ps,e' t = e t)→fill e' cs ps = fill e cs ps
 | [],_,_ => rfl
 | (off,n,x) :: ps,cs,h => by
   have hx:x.ev e' = x.ev e:=ev_congr (fun t ht => h t (by simp[pnames,ht]))
   simp only[fill,hx]
   split
   ·exact fill_congr (ps:=ps) (fun t ht => h t (by
     unfold pnames at ht ⊢
     rw[List.flatMap_cons]
     exact List.mem_append_right _ ht))
   ·rfl
theorem opE_congr {call:CS} {al:Nat→Bool} {lo id:Nat} {op:AOp} {e e':Env} (h:∀ t∈op.names,e' t = e t) (g:G):opE call al lo id op e' g = opE call al lo id op e g:=by
 have l1:∀ {x:Opd} {ns:List Nat},(∀ t∈x.names ++ ns,e' t = e t)→x.ev e' = x.ev e:=fun h => ev_congr fun t ht => h t (List.mem_append_left _ ht)
 cases op<;>simp only[AOp.names] at h<;>simp only[opE]
 case mv => rw[ev_congr h]
 case pick => rw[ev_congr fun t ht => h t (by simp[ht]),ev_congr fun t ht => h t (by simp[ht]),ev_congr fun t ht => h t (by simp[ht])]
 case box => rw[ev_congr h]
 case boxI => rw[ev_congr h]
 case build => rw[fill_congr h]
 case bsl => rw[fill_congr h]
 case ld => rw[ev_congr h]
 case ldF => rw[ev_congr h]
 case ldQ => rw[ev_congr fun t ht => h t (by simp[ht]),h _ (by simp)]
 case stN =>
  rename_i n a x ts
  have hts:ts.map e' = ts.map e:=List.map_congr_left fun t ht => h t (by simp[ht])
  rw[ev_congr fun t ht => h t (by simp[ht]),ev_congr fun t ht => h t (by simp[ht]),hts]
 case stW => rw[ev_congr fun t ht => h t (by simp[ht]),ev_congr fun t ht => h t (by simp[ht])]
 case st => rw[ev_congr fun t ht => h t (by simp[ht]),ev_congr fun t ht => h t (by simp[ht])]
 case stL => rw[ev_congr fun t ht => h t (by simp[ht]),ev_congr fun t ht => h t (by simp[ht])]
 case nilck => rw[ev_congr h]
 case bin => rw[ev_congr fun t ht => h t (by simp[ht]),ev_congr fun t ht => h t (by simp[ht])]
 case eqb => rw[ev_congr fun t ht => h t (by simp[ht]),ev_congr fun t ht => h t (by simp[ht])]
 case eqn => rw[ev_congr fun t ht => h t (by simp[ht]),ev_congr fun t ht => h t (by simp[ht])]
 case eqs => rw[ev_congr h]
 case clr => rw[ev_congr h]
 case eqa => rw[ev_congr fun t ht => h t (by simp[ht]),ev_congr fun t ht => h t (by simp[ht])]
 case un => rw[ev_congr h]
 case conv => rw[ev_congr h]
 case mkfn => rw[evl_congr fun t ht => h t (List.mem_append_left _ ht),evl_congr fun t ht => h t (List.mem_append_right _ ht)]
 case mput => rw[ev_congr fun t ht => h t (by simp[ht]),ev_congr fun t ht => h t (by simp[ht]),ev_congr fun t ht => h t (by simp[ht])]
 case mget => rw[ev_congr fun t ht => h t (by simp[ht]),ev_congr fun t ht => h t (by simp[ht])]
 case mksl => rw[ev_congr fun t ht => h t (by simp[ht]),ev_congr fun t ht => h t (by simp[ht])]
 case slice => rw[ev_congr fun t ht => h t (by simp[ht]),evo_congr fun t ht => h t (by simp[ht]),evo_congr fun t ht => h t (by simp[ht]),evo_congr fun t ht => h t (by simp[ht])]
 case sslice => rw[ev_congr fun t ht => h t (by simp[ht]),evo_congr fun t ht => h t (by simp[ht]),evo_congr fun t ht => h t (by simp[ht])]
 case fa => rw[ev_congr h]
 case fld => rw[ev_congr h]
 case ia => rw[ev_congr fun t ht => h t (by simp[ht]),ev_congr fun t ht => h t (by simp[ht])]
 case iaa => rw[ev_congr fun t ht => h t (by simp[ht]),ev_congr fun t ht => h t (by simp[ht])]
 case idx => rw[ev_congr fun t ht => h t (by simp[ht]),ev_congr fun t ht => h t (by simp[ht])]
 case sidx => rw[ev_congr fun t ht => h t (by simp[ht]),ev_congr fun t ht => h t (by simp[ht])]
 case ext => rw[ev_congr h]
 case len => rw[ev_congr h]
 case slen => rw[ev_congr h]
 case mx => rw[ev_congr fun t ht => h t (by simp[ht]),ev_congr fun t ht => h t (by simp[ht])]
 case mn => rw[ev_congr fun t ht => h t (by simp[ht]),ev_congr fun t ht => h t (by simp[ht])]
 case app => rw[ev_congr fun t ht => h t (by simp[ht]),ev_congr fun t ht => h t (by simp[ht])]
 case appM => rw[ev_congr fun t ht => h t (by simp[ht]),ev_congr fun t ht => h t (by simp[ht])]
 case cutM => rw[ev_congr fun t ht => h t (by simp[ht]),ev_congr fun t ht => h t (by simp[ht])]
 case call => rw[l1 h,evl_congr fun t ht => h t (List.mem_append_right _ ht)]
inductive Cls where
 | p | r | a | t | s | x
 deriving DecidableEq
def cls:AOp→Cls
 | .ld _ _ | .mget _ _ | .call .pure _ _ => .r
 | .new _ | .box _ | .bsl false _ _ _ | .mkmap | .mksl _ _ _ _ _ | .call .thaw _ _ | .call .melt _ _ => .a
 | .app _ _ _ _ => .t
 | .stL _ _ _ => .s
 | .appM _ _ (.c (.sl [] 0 .rig)) _ => .a
 | .st _ _ _ | .mput _ _ _ | .call .raw _ _ | .call .see _ _ | .call .lock _ _ | .appM _ _ _ _ | .cutM _ _ _ | .clr _ _ _ | .bad | .ldF _ _ | .stW _ _ _ | .ldQ _ _ _ | .stN _ _ _ _ => .x
 | _ => .p
theorem cls_appM (esz b:Nat) (x y:Opd):cls (.appM esz b x y) = .x∨(cls (.appM esz b x y) = .a∧x = .c (.sl [] 0 .rig)):=by
 cases x with
 | t n => exact .inl rfl
 | c v =>
   cases v with
   | sl cs n t =>
     cases cs with
     | cons _ _ => exact .inl rfl
     | nil => cases n with
       | succ _ => exact .inl rfl
       | zero => cases t with
         | rig => exact .inr ⟨rfl,rfl⟩
         | _ => exact .inl rfl
   | _ => exact .inl rfl
theorem cls_appM_ne {esz b:Nat} {x y:Opd} {c:Cls} (h:cls (.appM esz b x y) = c) (h1:c≠.x) (h2:c≠.a):False:=by
 rcases cls_appM esz b x y with e | ⟨e,_⟩
 ·exact h1 (h.symm.trans e)
 ·exact h2 (h.symm.trans e)
def CM:Option Blk→Prop
 | some (.cells _ _) | some (.map _) => True
 | _ => False
def isT:Option Blk→Prop
 | some (.tok true) => True
 | _ => False
def Rd (c:Cls) (al:Nat→Bool) (lo:Nat) (g:G) (i:Nat):Prop:=match c with
 | .p => False
 | .r | .a => al i = true∧CM (g.hp i)
 | .t => al i = true∧(CM (g.hp i)∨isT (g.hp i))
 | .s => lo≤i∧al i = true∧CM (g.hp i)
 | .x => True
def Wr (c:Cls) (al:Nat→Bool) (lo id:Nat) (g:G) (i:Nat):Prop:=match c with
 | .p | .r => False
 | .a => i = id
 | .t => i = id∨(al i = true∧isT (g.hp i))
 | .s => lo≤i∧al i = true∧CM (g.hp i)
 | .x => True
open Classical in
structure Foot (call:CS) (al:Nat→Bool) (lo id:Nat) (op:AOp) (e:Env) (g:G) (v:AV) (g1:G):Prop where
 nx:g1.nx = g.nx
 kind:∀ i,i≠id→CM (g1.hp i)→CM (g.hp i)
 foot:∃ W:Nat→Prop,(∀ i,W i→Wr (cls op) al lo id g i)∧(∀ i,¬ W i→g1.hp i = g.hp i) ∧
  ∀ g':G,(∀ i,Rd (cls op) al lo g i→g'.hp i = g.hp i)→opE call al lo id op e g' = some (v,⟨fun i => if W i then g1.hp i else g'.hp i,g'.nx⟩)
theorem foot_none {call:CS} {al:Nat→Bool} {lo id:Nat} {op:AOp} {e:Env} {g:G} {v:AV} (h:∀ g':G,(∀ i,Rd (cls op) al lo g i→g'.hp i = g.hp i)→opE call al lo id op e g' = some (v,g')):Foot call al lo id op e g v g:=
 ⟨rfl,fun _ _ h => h,fun _ => False,fun _ h => h.elim,fun _ _ => rfl,fun g' hg' => by
  rw[h g' hg']
  congr 2
  simp⟩
theorem foot_new {call:CS} {al:Nat→Bool} {lo id:Nat} {op:AOp} {e:Env} {g:G} {v:AV} {b:Blk} (hw:Wr (cls op) al lo id g id) (h:∀ g':G,(∀ i,Rd (cls op) al lo g i→g'.hp i = g.hp i)→opE call al lo id op e g' = some (v,⟨upd g'.hp id (some b),g'.nx⟩)):Foot call al lo id op e g v ⟨upd g.hp id (some b),g.nx⟩:=
 ⟨rfl,fun i hi h => by
  have h:CM (upd g.hp id (some b) i):=h
  rwa [upd,if_neg hi] at h,fun i => i = id,fun i hi => by subst hi;exact hw,fun i hi => by show upd _ _ _ _ = _;rw[upd,if_neg hi],fun g' hg' => by
  rw[h g' hg']
  congr 3
  funext i
  by_cases hi:i = id
  ·subst hi;simp[upd]
  ·simp[upd,hi]⟩
mutual
theorem frz_agree {hp hp':Nat→Option Blk} (h:∀ i,CM (hp i)→hp' i = hp i):∀ (k:Nat) {x y:AV},frz hp k x = some y→frz hp' k x = some y∧vis hp' k x = vis hp k x
 | 0,_,_,hf => by simp[frz] at hf
 | k + 1,x,y,hf => by
   cases x with
   | agg cs =>
     simp only[frz] at hf
     cases hc:frzL hp k cs with
     | none => rw[hc] at hf;cases hf
     | some ds => rw[hc] at hf;obtain ⟨h1,h2⟩:=frzL_agree h k hc;exact ⟨by simp only[frz,h1];exact hf,by simp only[vis,h2]⟩
   | tup cs =>
     simp only[frz] at hf
     cases hc:frzL hp k cs with
     | none => rw[hc] at hf;cases hf
     | some ds => rw[hc] at hf;obtain ⟨h1,h2⟩:=frzL_agree h k hc;exact ⟨by simp only[frz,h1];exact hf,by simp only[vis,h2]⟩
   | fn f asx bs =>
     simp only[frz] at hf
     cases hc:frzL hp k asx with
     | none => rw[hc] at hf;cases hf
     | some ds =>
       cases hd:frzL hp k bs with
       | none => rw[hc,hd] at hf;cases hf
       | some es =>
         rw[hc,hd] at hf
         obtain ⟨h1,h2⟩:=frzL_agree h k hc
         obtain ⟨h3,h4⟩:=frzL_agree h k hd
         exact ⟨by simp only[frz,h1,h3];exact hf,by simp only[vis,h2,h4]⟩
   | ifc t v =>
     simp only[frz] at hf
     cases hc:frz hp k v with
     | none => rw[hc] at hf;cases hf
     | some ds => rw[hc] at hf;obtain ⟨h1,h2⟩:=frz_agree h k hc;exact ⟨by simp only[frz,h1];exact hf,by simp only[vis,h2]⟩
   | mp id off =>
     simp only[frz] at hf
     split at hf
     ·rename_i cs ro hb
      have hb':hp' id = some (.cells cs ro):=by rw[h id (by rw[hb];trivial),hb]
      cases hc:frzL hp k (cs.drop off) with
      | none => rw[hc] at hf;cases hf
      | some ds =>
        rw[hc] at hf
        obtain ⟨h1,h2⟩:=frzL_agree h k hc
        exact ⟨by simp only[frz,hb',h1];exact hf,by simp only[vis,hb',hb,h2]⟩
     ·cases hf
   | ms id off n =>
     simp only[frz] at hf
     split at hf
     ·rename_i cs ro hb
      have hb':hp' id = some (.cells cs ro):=by rw[h id (by rw[hb];trivial),hb]
      cases hc:frzL hp k (cs.drop off) with
      | none => rw[hc] at hf;cases hf
      | some ds =>
        rw[hc] at hf
        obtain ⟨h1,h2⟩:=frzL_agree h k hc
        exact ⟨by simp only[frz,hb',h1];exact hf,by simp only[vis,hb',hb,h2]⟩
     ·cases hf
   | mm id => simp[frz] at hf
   | mc id k e n => simp[frz] at hf
   | undef => exact ⟨by simpa only[frz] using hf,by simp only[vis]⟩
   | b x => exact ⟨by simpa only[frz] using hf,by simp only[vis]⟩
   | i k n => exact ⟨by simpa only[frz] using hf,by simp only[vis]⟩
   | s x => exact ⟨by simpa only[frz] using hf,by simp only[vis]⟩
   | nilp => exact ⟨by simpa only[frz] using hf,by simp only[vis]⟩
   | nilf => exact ⟨by simpa only[frz] using hf,by simp only[vis]⟩
   | nili => exact ⟨by simpa only[frz] using hf,by simp only[vis]⟩
   | sl cs n t => exact ⟨by simpa only[frz] using hf,by simp only[vis]⟩
   | ptr cs => exact ⟨by simpa only[frz] using hf,by simp only[vis]⟩
theorem frzL_agree {hp hp':Nat→Option Blk} (h:∀ i,CM (hp i)→hp' i = hp i):∀ (k:Nat) {cs ds:List AV},frzL hp k cs = some ds→frzL hp' k cs = some ds∧cs.flatMap (vis hp' k) = cs.flatMap (vis hp k)
 | k,[],ds,hf => ⟨by simpa only[frzL] using hf,rfl⟩
 | k,x :: cs,ds,hf => by
   simp only[frzL] at hf
   split at hf
   ·rename_i hx hs
    obtain ⟨h1,h2⟩:=frz_agree h k hx
    obtain ⟨h3,h4⟩:=frzL_agree h k hs
    refine ⟨by simp only[frzL,h1,h3];exact hf,?_⟩
    rw[List.flatMap_cons,List.flatMap_cons,h2,h4]
   ·cases hf
end
theorem rd_agree {al:Nat→Bool} {g g':G} (h:∀ i,(al i = true∧CM (g.hp i))→g'.hp i = g.hp i):∀ i,CM (rd g al i)→rd g' al i = rd g al i:=by
 intro i hi
 unfold rd at hi ⊢
 split at hi
 ·rename_i ha
  rw[if_pos ha,if_pos ha]
  exact h i ⟨ha,hi⟩
 ·cases hi
theorem rd_cells {al:Nat→Bool} {g g':G} (h:∀ i,(al i = true∧CM (g.hp i))→g'.hp i = g.hp i) {i:Nat} {b:Blk} (hb:rd g al i = some b) (hc:CM (some b)):rd g' al i = some b:=by
 rw[rd_agree h i (by rw[hb];exact hc),hb]
def Any (f:G→Option (AV × G)):Prop:=∀ g v g1,f g = some (v,g1)→g1 = g∧∀ g',f g' = some (v,g')
theorem any_pick (c a b:AV):Any (vPick c a b):=by
 intro g v g1 h;cases c<;>simp only[vPick] at h<;>first | (cases h;done) | (cases h;exact ⟨rfl,fun _ => rfl⟩)
theorem any_map (o:Option AV):Any fun g => vMap g o:=by
 intro g v g1 h;cases o<;>simp only[vMap] at h<;>first | (cases h;done) | (cases h;exact ⟨rfl,fun _ => rfl⟩)
theorem any_mapL (f) (o:Option (List AV)):Any fun g => vMapL f g o:=by
 intro g v g1 h;cases o<;>simp only[vMapL] at h<;>first | (cases h;done) | (cases h;exact ⟨rfl,fun _ => rfl⟩)
theorem any_some (x:AV):Any fun g => some (x,g):=by intro g v g1 h;cases h;exact ⟨rfl,fun _ => rfl⟩
theorem any_none:Any fun _ => none:=by intro g v g1 h;cases h
theorem any_ite (c:Prop) [Decidable c] {f k:G→Option (AV × G)} (h1:Any f) (h2:Any k):Any fun g => if c then f g else k g:=by
 by_cases h:c
 ·simpa only[if_pos h] using h1
 ·simpa only[if_neg h] using h2
theorem any_boxI (x:AV):Any (vBoxI x):=by unfold vBoxI;exact any_ite _ (any_mapL _ _) any_none
theorem any_bslI (id n:Nat) (o:Option (List AV)):Any (vBsl id true n o):=by
 cases o with
 | none => exact any_none
 | some cs => exact any_mapL _ _
theorem any_nil (x:AV):Any (vNil x):=by cases x<;>first | exact any_none | exact any_some _
theorem any_conv (k:IntKind) (x:AV):Any (vConv k x):=by cases x<;>first | exact any_none | exact any_some _
theorem any_slice (esz:Nat) (x:AV) (l h m:Option AV):Any (vSlice esz x l h m):=by
 cases x<;>first | exact any_none | skip
 ·rename_i cs n t
  show Any fun g => vSlice esz (.sl cs n t) l h m g
  simp only[vSlice]
  split<;>first | exact any_none | exact any_ite _ (any_some _) any_none
 ·rename_i id off n
  show Any fun g => vSlice esz (.ms id off n) l h m g
  simp only[vSlice]
  split<;>first | exact any_none | exact any_ite _ (any_some _) any_none
theorem any_sslice (x:AV) (l h:Option AV):Any (vSslice x l h):=by
 cases x<;>first | exact any_none | skip
 rename_i s
 show Any fun g => vSslice (.s s) l h g
 simp only[vSslice]
 split<;>first | exact any_none | exact any_ite _ (any_some _) any_none
theorem any_fa (off:Nat) (x:AV):Any (vFa off x):=by cases x<;>first | exact any_none | exact any_some _ | exact any_ite _ (any_some _) any_none
theorem any_fld (off:Nat) (agg) (x:AV):Any (vFld off agg x):=by cases x<;>first | exact any_none | exact any_map _
theorem any_ia (esz:Nat) (x i:AV):Any (vIa esz x i):=by
 cases x<;>cases i<;>first | exact any_none | exact any_ite _ (any_some _) any_none
theorem any_iaa (len esz:Nat) (x i:AV):Any (vIaa len esz x i):=by
 cases x<;>cases i<;>first | exact any_none | exact any_ite _ (any_some _) any_none
theorem any_idx (len esz:Nat) (agg) (x i:AV):Any (vIdx len esz agg x i):=by
 cases x<;>cases i<;>first | exact any_none | exact any_ite _ (any_map _) any_none
theorem any_sidx (x i:AV):Any (vSidx x i):=by
 cases x<;>cases i<;>first | exact any_none | skip
 rename_i s k z
 show Any fun g => vSidx (.s s) (.i k z) g
 simp only[vSidx]
 split<;>first | exact any_none | exact any_some _
theorem any_ext (i:Nat) (x:AV):Any (vExt i x):=by cases x<;>first | exact any_none | exact any_map _
theorem any_len (x:AV):Any (vLen x):=by cases x<;>first | exact any_none | exact any_some _
theorem any_slen (x:AV):Any (vSlen x):=by cases x<;>first | exact any_none | exact any_some _
theorem any_mx (x y:AV):Any (vMx x y):=by cases x<;>cases y<;>first | exact any_none | exact any_some _
theorem any_mn (x y:AV):Any (vMn x y):=by cases x<;>cases y<;>first | exact any_none | exact any_some _
section
variable {call:CS} {al:Nat→Bool} {lo id:Nat} {e:Env} {g:G} {v:AV} {g1:G}
theorem any_p {op:AOp} (hc:cls op = .p):Any (opE call al lo id op e):=by
 cases op
 case mv => exact any_some _
 case pick => exact any_pick _ _ _
 case boxI => exact any_boxI _
 case build => exact any_mapL _ _
 case bsl imm n z ps =>
  cases imm with
  | false => cases hc
  | true => exact any_bslI _ _ _
 case nilck => exact any_nil _
 case bin => exact any_map _
 case eqb => exact any_map _
 case eqn => exact any_map _
 case eqs => exact any_map _
 case eqa => exact any_map _
 case un => exact any_map _
 case conv => exact any_conv _ _
 case mkfn => exact any_some _
 case slice => exact any_slice _ _ _ _ _
 case sslice => exact any_sslice _ _ _
 case fa => exact any_fa _ _
 case fld => exact any_fld _ _ _
 case ia => exact any_ia _ _ _
 case iaa => exact any_iaa _ _ _ _
 case idx => exact any_idx _ _ _ _ _
 case sidx => exact any_sidx _ _
 case ext => exact any_ext _ _
 case len => exact any_len _
 case slen => exact any_slen _
 case mx => exact any_mx _ _
 case mn => exact any_mn _ _
 case call m f asx => cases m<;>cases hc
 case appM => exact (cls_appM_ne hc (by decide) (by decide)).elim
 all_goals cases hc
theorem foot_p {op:AOp} (hc:cls op = .p) (h:opE call al lo id op e g = some (v,g1)):Foot call al lo id op e g v g1:=by
 obtain ⟨rfl,hk⟩:=any_p hc g v g1 h
 exact foot_none fun g' _ => hk g'
theorem foot_r {op:AOp} (hc:cls op = .r) (h:opE call al lo id op e g = some (v,g1)):Foot call al lo id op e g v g1:=by
 have key:g1 = g∧∀ g':G,(∀ i,Rd (cls op) al lo g i→g'.hp i = g.hp i)→opE call al lo id op e g' = some (v,g'):=by
  rw[hc]
  cases op
  case ld agg x =>
   simp only[opE] at h ⊢
   unfold vLd at h ⊢
   split at h
   ·rename_i cs hx
    obtain ⟨rfl,hk⟩:=any_map _ _ _ _ h
    exact ⟨rfl,fun g' _ => hk g'⟩
   ·rename_i b off hx
    split at h
    ·rename_i cs ro hb
     obtain ⟨rfl,hk⟩:=any_map _ _ _ _ h
     exact ⟨rfl,fun g' hg' => by simp only[rd_cells hg' hb trivial];exact hk g'⟩
    ·cases h
   ·cases h
  case mget m k =>
   simp only[opE] at h ⊢
   unfold vMget at h ⊢
   split at h
   ·rename_i b s hx hy
    split at h
    ·rename_i es hb
     obtain ⟨rfl,hk⟩:=any_map _ _ _ _ h
     exact ⟨rfl,fun g' hg' => by simp only[rd_cells hg' hb trivial];exact hk g'⟩
    ·cases h
   ·cases h
  case call m f asx =>
   cases m with
   | pure =>
     simp only[opE] at h ⊢
     unfold vCall at h ⊢
     split at h
     ·rename_i fid fst caps hx
      simp only at h
      split at h
      ·cases h
      ·rename_i bs hbs
       split at h
       ·cases h
       ·rename_i v' g' hcr
        split at h
        ·cases h
        ·rename_i v2 hfz
         split at h
         ·rename_i hcond
          cases h
          refine ⟨rfl,fun g'' hg' => ?_⟩
          obtain ⟨h1,h2⟩:=frzL_agree (rd_agree hg') depth hbs
          simp only[h1,hcr,hfz,h2,hcond,if_true]
         ·cases h
     ·cases h
   | lock => cases hc
   | thaw => cases hc
   | melt => cases hc
   | raw => cases hc
   | see => cases hc
  case bsl imm n z ps => cases imm<;>cases hc
  case appM => exact (cls_appM_ne hc (by decide) (by decide)).elim
  all_goals cases hc
 obtain ⟨rfl,hk⟩:=key
 exact foot_none hk
theorem vSrcM_agree {esz:Nat} {y:AV} {g g':G} {r:List AV × Nat} (h:∀ i,(al i = true∧CM (g.hp i))→g'.hp i = g.hp i) (hs:vSrcM al esz y g = some r):vSrcM al esz y g' = some r:=by
 unfold vSrcM at hs ⊢
 cases y<;>simp only at hs ⊢<;>first | exact hs | (cases hs;done) | skip
 split at hs
 ·rename_i hb
  simp only[rd_cells h hb trivial]
  exact hs
 ·cases hs
theorem foot_a {op:AOp} (hc:cls op = .a) (h:opE call al lo id op e g = some (v,g1)):Foot call al lo id op e g v g1:=by
 have hw:Wr (cls op) al lo id g id:=by rw[hc];rfl
 cases op
 case new z =>
  simp only[opE] at h;cases h
  exact foot_new hw fun g' _ => rfl
 case box x =>
  simp only[opE] at h
  unfold vBox at h
  split at h
  ·rename_i hh
   cases h
   exact foot_new hw fun g' _ => by simp only[opE,vBox];rw[if_pos hh]
  ·cases h
 case bsl imm n z ps =>
  cases imm with
  | true => cases hc
  | false =>
    simp only[opE] at h
    unfold vBsl at h
    split at h
    ·cases h
    ·rename_i cs hf
     simp only[Bool.false_eq_true,if_false] at h
     cases h
     exact foot_new hw fun g' _ => by simp only[opE,vBsl,hf,Bool.false_eq_true,if_false]
 case mkmap =>
  simp only[opE] at h;cases h
  exact foot_new hw fun g' _ => rfl
 case mksl z esz b l cp =>
  simp only[opE] at h
  unfold vMksl at h
  split at h
  ·rename_i n m hx hy
   split at h
   ·rename_i h1
    split at h
    ·rename_i h2
     cases h
     exact foot_new hw fun g' _ => by simp only[opE,vMksl,hx,hy];rw[if_pos h1,if_pos h2]
    ·rename_i h2
     split at h
     ·rename_i h3
      cases h
      exact foot_new hw fun g' _ => by simp only[opE,vMksl,hx,hy];rw[if_pos h1,if_neg h2,if_pos h3]
     ·cases h
   ·cases h
  ·cases h
 case call m f asx =>
  cases m with
  | thaw =>
    simp only[opE] at h
    unfold vCall at h
    split at h
    ·rename_i fid fst caps hx
     simp only at h
     split at h
     ·cases h
     ·rename_i bs hbs
      split at h
      ·rename_i b g' hcr
       split at h
       ·rename_i cs hb
        split at h
        ·rename_i cs' hfz
         split at h
         ·rename_i hcond
          cases h
          refine foot_new hw fun g'' hg' => ?_
          rw[hc] at hg'
          obtain ⟨h1,h2⟩:=frzL_agree (rd_agree hg') depth hbs
          simp only[opE,vCall,hx,h1,hcr,hb,hfz,h2,hcond,if_true]
         ·cases h
        ·cases h
       ·cases h
      ·cases h
    ·cases h
  | melt =>
    simp only[opE] at h
    unfold vCall at h
    split at h
    ·rename_i fid fst caps hx
     simp only at h
     split at h
     ·cases h
     ·rename_i bs hbs
      split at h
      ·rename_i b n g' hcr
       split at h
       ·rename_i cs hb
        split at h
        ·rename_i cs' hfz
         split at h
         ·rename_i hcond
          cases h
          refine foot_new hw fun g'' hg' => ?_
          rw[hc] at hg'
          obtain ⟨h1,h2⟩:=frzL_agree (rd_agree hg') depth hbs
          simp only[opE,vCall,hx,h1,hcr,hb,hfz,h2,hcond,if_true]
         ·cases h
        ·cases h
       ·cases h
      ·cases h
    ·cases h
  | pure => cases hc
  | lock => cases hc
  | raw => cases hc
  | see => cases hc
 case appM esz b x y =>
  rcases cls_appM esz b x y with e' | ⟨_,rfl⟩
  ·rw[e'] at hc;cases hc
  ·simp only[opE,Opd.ev] at h
   unfold vAppM at h
   split at h
   ·cases h
   ·rename_i ds m hsrc
    simp only at h
    split at h
    ·rename_i h0
     cases h
     refine foot_none fun g' hg' => ?_
     rw[hc] at hg'
     simp only[opE,Opd.ev,vAppM,vSrcM_agree hg' hsrc]
     rw[if_pos h0]
    rename_i h0
    split at h
    ·rename_i hcond
     cases h
     refine foot_new hw fun g' hg' => ?_
     rw[hc] at hg'
     simp only[opE,Opd.ev,vAppM,vSrcM_agree hg' hsrc]
     rw[if_neg h0,if_pos hcond]
    ·cases h
 all_goals cases hc
theorem vSrc_agree {esz:Nat} {y:AV} {g g':G} {r:List AV × Nat} (h:∀ i,(al i = true∧CM (g.hp i))→g'.hp i = g.hp i) (hs:vSrc al esz y g = some r):vSrc al esz y g' = some r:=by
 unfold vSrc at hs ⊢
 cases y<;>simp only at hs ⊢<;>first | exact hs | (cases hs;done) | skip
 split at hs
 ·rename_i hb
  simp only[rd_cells h hb trivial]
  exact hs
 ·cases hs
open Classical in
theorem foot_t {op:AOp} (hc:cls op = .t) (h:opE call al lo id op e g = some (v,g1)):Foot call al lo id op e g v g1:=by
 cases op
 case app esz b x y =>
  simp only[opE] at h
  unfold vApp at h
  split at h
  ·rename_i cs n tk hx
   split at h
   ·cases h
   ·rename_i ds m hsrc
    split at h
    ·rename_i hcond
     have hsrc':∀ g':G,(∀ i,Rd (cls (.app esz b x y)) al lo g i→g'.hp i = g.hp i)→vSrc al esz (y.ev e) g' = some (ds,m):=fun g' hg' => vSrc_agree (fun i hi => hg' i ⟨hi.1,.inl hi.2⟩) hsrc
     split at h
     ·cases h
     ·split at h
      ·rename_i hm
       cases h
       exact foot_none fun g' hg' => by simp only[opE,vApp,hx,hsrc' g' hg',if_pos hcond,if_pos hm]
      ·rename_i hm
       cases h
       exact foot_new (.inl rfl) fun g' hg' => by simp only[opE,vApp,hx,hsrc' g' hg',if_pos hcond,if_neg hm]
     ·rename_i τ e'
      split at h
      ·rename_i htk
       split at h
       ·rename_i he'
        cases h
        have hal:al τ = true:=by
         unfold rd at htk;split at htk
         ·assumption
         ·cases htk
        have hhp:=rd_g htk
        refine ⟨rfl,fun i hi h => ?_,fun i => i = id∨i = τ,fun i hi => ?_,fun i hi => ?_,fun g' hg' => ?_⟩
        ·have h:CM (upd (upd g.hp τ (some (.tok false))) id (some (.tok true)) i):=h
         rw[upd,if_neg hi] at h
         by_cases h2:i = τ
         ·subst h2;rw[upd,if_pos rfl] at h;exact h.elim
         ·rwa [upd,if_neg h2] at h
        ·rcases hi with rfl | rfl
         ·exact .inl rfl
         ·exact .inr ⟨hal,by rw[hhp];trivial⟩
        ·show upd _ _ _ _ = _
         rw[upd,if_neg (fun h => hi (.inl h)),upd,if_neg (fun h => hi (.inr h))]
        ·have hrd:rd g' al τ = some (.tok true):=by
          unfold rd;rw[if_pos hal,hg' τ ⟨hal,.inr (by rw[hhp];trivial)⟩,hhp]
         simp only[opE,vApp,hx,hsrc' g' hg',if_pos hcond,hrd,if_pos he']
         congr 3
         funext i
         by_cases h1:i = id
         ·subst h1;simp[upd]
         ·by_cases h2:i = τ
          ·subst h2;simp[upd,h1]
          ·simp[upd,h1,h2]
       ·cases h
      ·cases h
    ·cases h
  ·cases h
 case bsl imm n z ps => cases imm<;>cases hc
 case call m f asx => cases m<;>cases hc
 case appM => exact (cls_appM_ne hc (by decide) (by decide)).elim
 all_goals cases hc
open Classical in
theorem foot_s {op:AOp} (hc:cls op = .s) (h:opE call al lo id op e g = some (v,g1)):Foot call al lo id op e g v g1:=by
 cases op
 case stL n x y =>
  simp only[opE] at h
  unfold vSt at h
  split at h
  ·rename_i b off hx
   split at h
   ·rename_i cs hb
    split at h
    ·rename_i hcond
     cases h
     have hal:lo≤b∧al b = true:=by
      unfold rd at hb;split at hb
      ·rename_i hh;simpa using hh
      ·cases hb
     have hhp:=rd_g hb
     refine ⟨rfl,fun i hi h => ?_,fun i => i = b,fun i hi => ?_,fun i hi => ?_,fun g' hg' => ?_⟩
     ·by_cases h2:i = b
      ·subst h2;rw[hhp];trivial
      ·have h:CM (upd g.hp b _ i):=h
       rwa [upd,if_neg h2] at h
     ·subst hi;exact ⟨hal.1,hal.2,by rw[hhp];trivial⟩
     ·show upd _ _ _ _ = _
      rw[upd,if_neg hi]
     ·have hrd:rd g' (fun i => decide (lo≤i) && al i) b = some (.cells cs false):=by
       unfold rd;rw[if_pos (by simp[hal.1,hal.2]),hg' b ⟨hal.1,hal.2,by rw[hhp];trivial⟩,hhp]
      simp only[opE,vSt,hx,hrd,if_pos hcond]
      congr 3
      funext i
      by_cases h1:i = b
      ·subst h1;simp[upd]
      ·simp[upd,h1]
    ·cases h
   ·cases h
  ·cases h
 case bsl imm n z ps => cases imm<;>cases hc
 case call m f asx => cases m<;>cases hc
 case appM => exact (cls_appM_ne hc (by decide) (by decide)).elim
 all_goals cases hc
theorem foot_all {op:AOp} (hc:cls op≠.x) (h:opE call al lo id op e g = some (v,g1)):Foot call al lo id op e g v g1:=by
 cases hcl:cls op with
 | p => exact foot_p hcl h
 | r => exact foot_r hcl h
 | a => exact foot_a hcl h
 | t => exact foot_t hcl h
 | s => exact foot_s hcl h
 | x => exact absurd hcl hc
end
end Go.Ab
end
section
set_option linter.unusedVariables false
set_option linter.unusedSimpArgs false
namespace Go.Ab
open Go.RowKit
def gnames:Option (Nat × Bool)→List Nat
 | none => []
 | some (t,_) => [t]
def AOper.looks (o:AOper):List Nat:=gnames o.grd ++ o.op.names
def dnot (d:Option Nat) (l:List Nat):Bool:=match d with
 | none => true
 | some d => !l.contains d
def ddif (d d':Option Nat):Bool:=match d,d' with
 | some a,some b => a != b
 | _,_ => true
def clsOk0 (k i:Nat) (x y:AOper):Bool:=
 cls x.op == .p || cls y.op == .p || (cls x.op != .x && cls y.op != .x &&
  (!y.pre.contains k && !x.pre.contains i && (!(cls x.op == .s || cls y.op == .s) || x.pre.all (fun p => !y.pre.contains p)) && !(cls x.op == .t && cls y.op == .t)))
def fOp:AOp→Bool
 | .ldF _ _ => true
 | _ => false
def wOp:AOp→Bool
 | .stW _ _ _ => true
 | _ => false
def lOp:AOp→Bool
 | .ld _ _ => true
 | _ => false
def fwOk (x y:AOp):Bool:=(fOp x && fOp y) || (fOp x && wOp y) || (wOp x && fOp y) || (fOp x && lOp y) || (lOp x && fOp y)
def qnOk (x y:AOp):Bool:=match x,y with
 | .ldQ _ _ _,.ldQ _ _ _ => true
 | .ldQ _ _ t,.stN _ _ _ ts => ts.contains t
 | .stN _ _ _ ts,.ldQ _ _ t => ts.contains t
 | _,_ => false
def seeOk (x y:AOp):Bool:=match x,y with
 | .ld _ _,.call .see _ _ => true
 | _,_ => false
def clsOk (k i:Nat) (x y:AOper):Bool:=seeOk x.op y.op || (qnOk x.op y.op || (fwOk x.op y.op || clsOk0 k i x y))
def swapB (k i:Nat) (x y:AOper):Bool:=
 dnot x.dst y.looks && dnot y.dst x.looks && ddif x.dst y.dst && clsOk k i x y
theorem put_not {d:Option Nat} {l:List Nat} (h:dnot d l = true) (e:Env) (v:AV):∀ t∈l,put e d v t = e t:=by
 intro t ht
 cases d with
 | none => rfl
 | some d =>
   simp only[dnot,Bool.not_eq_true',List.contains_eq_mem,decide_eq_false_iff_not] at h
   have:t≠d:=fun h' => h (h' ▸ ht)
   simp only[put,upd,if_neg this]
theorem put_comm {d d':Option Nat} (h:ddif d d' = true) (e:Env) (v u:AV):put (put e d v) d' u = put (put e d' u) d v:=by
 cases d with
 | none => cases d'<;>rfl
 | some d =>
   cases d' with
   | none => rfl
   | some d' =>
     simp only[ddif,bne_iff_ne,ne_eq] at h
     funext t
     simp only[put,upd]
     by_cases h1:t = d'
     ·subst h1;rw[if_pos rfl,if_neg (fun h2 => h h2.symm),if_pos rfl]
     ·rw[if_neg h1]
      by_cases h2:t = d
      ·rw[if_pos h2,if_pos h2]
      ·rw[if_neg h2,if_neg h2,if_neg h1]
theorem wanted_congr {e e':Env} {grd:Option (Nat × Bool)} (h:∀ t∈gnames grd,e' t = e t):wanted e' grd = wanted e grd:=by
 cases grd with
 | none => rfl
 | some p => obtain ⟨t,w⟩:=p;simp only[wanted];rw[h t (by simp[gnames])]
noncomputable def stepV (call:CS) (base j:Nat) (o:AOper) (e:Env) (g:G):Option (AV × G):=
 if wanted e o.grd then opE call (allow true base o.pre) base (base + j) o.op e g else some (.undef,g)
theorem opStep_V (call:CS) (base j:Nat) (o:AOper) (e:Env) (g:G):opStep call true base j o e g = (stepV call base j o e g).map fun r => (put e o.dst r.1,r.2):=by
 unfold opStep stepV
 by_cases h:wanted e o.grd = true
 ·rw[if_pos h,if_pos h]
  cases opE call (allow true base o.pre) base (base + j) o.op e g with
  | none => rfl
  | some r => rfl
 ·rw[if_neg h,if_neg h];rfl
theorem stepV_congr {call:CS} {base j:Nat} {o:AOper} {e e':Env} (h:∀ t∈o.looks,e' t = e t) (g:G):stepV call base j o e' g = stepV call base j o e g:=by
 unfold stepV
 rw[wanted_congr fun t ht => h t (List.mem_append_left _ ht),opE_congr fun t ht => h t (List.mem_append_right _ ht)]
theorem allow_slot {base k:Nat} {pre:List Nat} (h:allow true base pre (base + k) = true):pre.contains k = true:=by
 simp only[allow,Bool.not_true,Bool.false_or,Bool.or_eq_true,decide_eq_true_eq] at h
 rcases h with h | h
 ·omega
 ·simpa using h
theorem allow_ge {base k:Nat} {pre:List Nat} (h:allow true base pre k = true) (hk:base≤k):pre.contains (k - base) = true:=by
 simp only[allow,Bool.not_true,Bool.false_or,Bool.or_eq_true,decide_eq_true_eq] at h
 rcases h with h | h
 ·omega
 ·exact h
theorem Foot.out {call:CS} {al:Nat→Bool} {lo id:Nat} {op:AOp} {e:Env} {g:G} {v:AV} {g1:G} (F:Foot call al lo id op e g v g1) {i:Nat} (h:¬ Wr (cls op) al lo id g i):g1.hp i = g.hp i:=by
 obtain ⟨_,_,W,h1,h2,_⟩:=F
 exact h2 i fun hw => h (h1 i hw)
open Classical in
theorem opE_swap0 {call:CS} {base k i:Nat} (hki:k≠i) {x y:AOper} (hc:clsOk0 k i x y = true) {e:Env} {g g1 g2:G} {v u:AV}
  (h1:opE call (allow true base x.pre) base (base + k) x.op e g = some (v,g1)) (h2:opE call (allow true base y.pre) base (base + i) y.op e g1 = some (u,g2)):
  ∃ g1',opE call (allow true base y.pre) base (base + i) y.op e g = some (u,g1')∧opE call (allow true base x.pre) base (base + k) x.op e g1' = some (v,g2):=by
 by_cases hx:cls x.op = .p
 ·obtain ⟨rfl,hh⟩:=any_p hx _ _ _ h1
  exact ⟨g2,h2,hh g2⟩
 by_cases hy:cls y.op = .p
 ·obtain ⟨rfl,hh⟩:=any_p hy _ _ _ h2
  exact ⟨g,hh g,h1⟩
 simp only[clsOk0,Bool.or_eq_true,beq_iff_eq,hx,hy,false_or,Bool.and_eq_true,bne_iff_ne,ne_eq,Bool.not_eq_true'] at hc
 obtain ⟨⟨cx,cy⟩,⟨⟨pk,pi⟩,ps⟩,ptt⟩:=hc
 have ak:allow true base y.pre (base + k)≠true:=fun h => by rw[allow_slot h] at pk;cases pk
 have ai:allow true base x.pre (base + i)≠true:=fun h => by rw[allow_slot h] at pi;cases pi
 have pp:(cls x.op = .s∨cls y.op = .s)→∀ m,base≤m→allow true base x.pre m = true→allow true base y.pre m = true→False:=by
  intro hs m hm h3 h4
  rcases ps with ps | ps
  ·simp only[Bool.or_eq_false_iff,beq_eq_false_iff_ne,ne_eq] at ps
   rcases hs with hs | hs
   ·exact ps.1 hs
   ·exact ps.2 hs
  ·have h3:=allow_ge h3 hm
   have h4:=allow_ge h4 hm
   have:=List.all_eq_true.1 ps (m - base) (by simpa using h3)
   rw[h4] at this;cases this
 have tt:¬ (cls x.op = .t∧cls y.op = .t):=by simpa [Bool.and_eq_false_iff] using ptt
 have F:=foot_all cx h1
 have F':=foot_all cy h2
 have out1:∀ m,¬ Wr (cls x.op) (allow true base x.pre) base (base + k) g m→g1.hp m = g.hp m:=fun m hm => F.out hm
 -- what y looks at,x has not turned
 have A:∀ m,Rd (cls y.op) (allow true base y.pre) base g1 m→¬ Wr (cls x.op) (allow true base x.pre) base (base + k) g m:=by
  intro m hr hw
  have hal:allow true base y.pre m = true:=by
   cases hcy:cls y.op<;>rw[hcy] at hr<;>simp only[Rd] at hr
   ·exact hr.1
   ·exact hr.1
   ·exact hr.1
   ·exact hr.2.1
   ·exact absurd hcy cy
  have hne:m≠base + k:=fun h => ak (h ▸ hal)
  cases hcx:cls x.op with
  | p => exact hx hcx
  | r => rw[hcx] at hw;exact hw
  | a => rw[hcx] at hw;exact hne hw
  | t =>
    rw[hcx] at hw
    rcases hw with hw | hw
    ·exact hne hw
    ·have hcm:CM (g1.hp m):=by
      cases hcy:cls y.op<;>rw[hcy] at hr<;>simp only[Rd] at hr
      ·exact hr.2
      ·exact hr.2
      ·exact absurd ⟨hcx,hcy⟩ tt
      ·exact hr.2.2
      ·exact absurd hcy cy
     have:=F.kind m hne hcm
     have h3:=hw.2
     cases hh:g.hp m with
     | none => rw[hh] at h3;exact h3
     | some b => rw[hh] at h3 this;cases b<;>first | exact h3 | exact this
  | s =>
    rw[hcx] at hw
    exact pp (.inl hcx) m hw.1 hw.2.1 hal
  | x => exact cx hcx
 have B:∀ m,Wr (cls y.op) (allow true base y.pre) base (base + i) g1 m→¬ Wr (cls x.op) (allow true base x.pre) base (base + k) g m:=by
  intro m hr hw
  have hor:m = base + i∨Rd (cls y.op) (allow true base y.pre) base g1 m:=by
   cases hcy:cls y.op<;>rw[hcy] at hr<;>simp only[Wr] at hr
   ·exact .inl hr
   ·rcases hr with hr | hr
    ·exact .inl hr
    ·exact .inr ⟨hr.1,.inr hr.2⟩
   ·exact .inr hr
   ·exact absurd hcy cy
  rcases hor with rfl | hr
  ·cases hcx:cls x.op with
   | p => exact hx hcx
   | r => rw[hcx] at hw;exact hw
   | a => rw[hcx] at hw;simp only[Wr] at hw;omega
   | t =>
     rw[hcx] at hw
     rcases hw with hw | hw
     ·omega
     ·exact ai hw.1
   | s => rw[hcx] at hw;exact ai hw.2.1
   | x => exact cx hcx
  ·exact A m hr hw
 have C:∀ m,Rd (cls x.op) (allow true base x.pre) base g m→¬ Wr (cls y.op) (allow true base y.pre) base (base + i) g1 m:=by
  intro m hr hw
  have hal:allow true base x.pre m = true:=by
   cases hcx:cls x.op<;>rw[hcx] at hr<;>simp only[Rd] at hr
   ·exact hr.1
   ·exact hr.1
   ·exact hr.1
   ·exact hr.2.1
   ·exact absurd hcx cx
  have hne:m≠base + i:=fun h => ai (h ▸ hal)
  have hold:g1.hp m = g.hp m:=out1 m (B m hw)
  cases hcy:cls y.op with
  | p => exact hy hcy
  | r => rw[hcy] at hw;exact hw
  | a => rw[hcy] at hw;exact hne hw
  | t =>
    rw[hcy] at hw
    rcases hw with hw | hw
    ·exact hne hw
    ·have h3:=hw.2
     rw[hold] at h3
     have hcm:CM (g.hp m):=by
      cases hcx:cls x.op<;>rw[hcx] at hr<;>simp only[Rd] at hr
      ·exact hr.2
      ·exact hr.2
      ·exact absurd ⟨hcx,hcy⟩ tt
      ·exact hr.2.2
      ·exact absurd hcx cx
     cases hh:g.hp m with
     | none => rw[hh] at h3;exact h3
     | some b => rw[hh] at h3 hcm;cases b<;>first | exact h3 | exact hcm
  | s =>
    rw[hcy] at hw
    exact pp (.inr hcy) m hw.1 hal hw.2.1
  | x => exact cy hcy
 obtain ⟨n1,_,W,w1,w2,w3⟩:=F
 obtain ⟨n2,_,W',w1',w2',w3'⟩:=F'
 have hAg:∀ m,Rd (cls y.op) (allow true base y.pre) base g1 m→g.hp m = g1.hp m:=fun m hm => (out1 m (A m hm)).symm
 refine ⟨_,w3' g hAg,?_⟩
 rw[w3 _ (fun m hm => ?_)]
 ·congr 2
  have:g2 = ⟨g2.hp,g2.nx⟩:=rfl
  rw[this]
  congr 1
  ·funext m
   show (if W m then g1.hp m else if W' m then g2.hp m else g.hp m) = g2.hp m
   by_cases hm:W m
   ·rw[if_pos hm]
    exact (w2' m (fun h' => B m (w1' m h') (w1 m hm))).symm
   ·rw[if_neg hm]
    by_cases hm':W' m
    ·rw[if_pos hm']
    ·rw[if_neg hm',w2' m hm',w2 m hm]
  ·show g.nx = g2.nx
   rw[n2,n1]
 ·show (if W' m then g2.hp m else g.hp m) = g.hp m
  rw[if_neg (fun h' => C m hm (w1' m h'))]
theorem ldF_any {call:CS} {al:Nat→Bool} {lo id:Nat} {op:AOp} (ho:fOp op = true) {e:Env} {g g1:G} {v:AV} (h:opE call al lo id op e g = some (v,g1)):
  g1 = g∧∀ g':G,(∀ i cs,g.hp i = some (.cells cs true)→g'.hp i = g.hp i)→opE call al lo id op e g' = some (v,g'):=by
 cases op<;>first | (cases ho;done) | skip
 rename_i agg x
 simp only[opE] at h ⊢
 unfold vLdF at h ⊢
 split at h
 ·obtain ⟨rfl,hk⟩:=any_map _ _ _ _ h
  exact ⟨rfl,fun g' _ => hk g'⟩
 ·rename_i b off hx
  split at h
  ·rename_i cs hb
   obtain ⟨rfl,hk⟩:=any_map _ _ _ _ h
   refine ⟨rfl,fun g' hg' => ?_⟩
   have hrd:rd g' al b = some (.cells cs true):=by
    unfold rd at hb ⊢
    split at hb
    ·rename_i ha
     rw[if_pos ha,hg' b cs hb];exact hb
    ·cases hb
   simp only[hrd]
   exact hk g'
  ·cases h
 ·cases h
theorem stW_keeps {call:CS} {al:Nat→Bool} {lo id:Nat} {op:AOp} (ho:wOp op = true) {e:Env} {g g1:G} {v:AV} (h:opE call al lo id op e g = some (v,g1)):
  (∀ i cs,g.hp i = some (.cells cs true)→g1.hp i = g.hp i)∧(∀ i cs,g1.hp i = some (.cells cs true)→g.hp i = g1.hp i):=by
 cases op<;>first | (cases ho;done) | skip
 rename_i n a x
 simp only[opE] at h
 unfold vSt at h
 split at h
 ·rename_i b off hx
  split at h
  ·rename_i cs hb
   split at h
   ·cases h
    have hhp:g.hp b = some (.cells cs false):=by
     unfold rd at hb
     split at hb
     ·exact hb
     ·cases hb
    refine ⟨fun i ds hi => ?_,fun i ds hi => ?_⟩
    ·have hne:i≠b:=fun h => by subst h;rw[hhp] at hi;cases hi
     show upd _ _ _ _ = _
     rw[upd,if_neg hne]
    ·have hne:i≠b:=fun h => by
      subst h
      have hi:upd g.hp i _ i = _:=hi
      rw[upd,if_pos rfl] at hi
      cases hi
     show _ = upd _ _ _ _
     rw[upd,if_neg hne]
   ·cases h
  ·cases h
 ·cases h
theorem ldQ_any {call:CS} {al:Nat→Bool} {lo id:Nat} {agg:Option Nat} {x:Opd} {t:Nat} {e:Env} {g g1:G} {v:AV} (h:opE call al lo id (.ldQ agg x t) e g = some (v,g1)):
  g1 = g∧∀ g':G,(∀ i,i∈ids1 (e t)→g'.hp i = g.hp i)→opE call al lo id (.ldQ agg x t) e g' = some (v,g'):=by
 simp only[opE] at h ⊢
 unfold vLdQ at h ⊢
 split at h
 ·rename_i b off hx
  split at h
  ·rename_i hb0
   split at h
   ·rename_i cs ro hb
    obtain ⟨rfl,hk⟩:=any_map _ _ _ _ h
    refine ⟨rfl,fun g' hg' => ?_⟩
    have hrd:rd g' al b = some (.cells cs ro):=by
     unfold rd at hb ⊢
     split at hb
     ·rename_i ha
      rw[if_pos ha,hg' b (by simpa using hb0)];exact hb
     ·cases hb
    rw[if_pos hb0]
    simp only[hrd]
    exact hk g'
   ·cases h
  ·cases h
 ·cases h
theorem stN_keeps {call:CS} {al:Nat→Bool} {lo id:Nat} {n:Nat} {a x:Opd} {ts:List Nat} {e:Env} {g g1:G} {v:AV} (h:opE call al lo id (.stN n a x ts) e g = some (v,g1)) {t:Nat} (ht:t∈ts) {i:Nat} (hi:i∈ids1 (e t)):g1.hp i = g.hp i:=by
 simp only[opE] at h
 unfold vStN at h
 split at h
 ·rename_i hall
  unfold vSt at h
  split at h
  ·rename_i b off hx
   split at h
   ·split at h
    ·cases h
     have hne:i≠b:=by
      intro hib
      subst hib
      rw[hx] at hall
      have h1:=List.all_eq_true.1 hall i (by simp[ids1])
      have h2:i∈(ts.map e).flatMap ids1:=List.mem_flatMap.2 ⟨e t,List.mem_map.2 ⟨t,ht,rfl⟩,hi⟩
      have h3:((ts.map e).flatMap ids1).contains i = true:=by simpa using h2
      rw[h3] at h1
      cases h1
     show upd _ _ _ _ = _
     rw[upd,if_neg hne]
    ·cases h
   ·cases h
  ·cases h
 ·cases h
theorem opE_swapQ {call:CS} {base k i:Nat} {x y:AOper} (hc:qnOk x.op y.op = true) {e:Env} {g g1 g2:G} {v u:AV}
  (h1:opE call (allow true base x.pre) base (base + k) x.op e g = some (v,g1)) (h2:opE call (allow true base y.pre) base (base + i) y.op e g1 = some (u,g2)):
  ∃ g1',opE call (allow true base y.pre) base (base + i) y.op e g = some (u,g1')∧opE call (allow true base x.pre) base (base + k) x.op e g1' = some (v,g2):=by
 unfold qnOk at hc
 split at hc
 ·rename_i hx hy
  rw[hx] at h1 ⊢
  rw[hy] at h2 ⊢
  obtain ⟨rfl,_⟩:=ldQ_any h1
  obtain ⟨rfl,_⟩:=ldQ_any h2
  exact ⟨g2,h2,h1⟩
 ·rename_i hx hy
  rw[hx] at h1 ⊢
  rw[hy] at h2 ⊢
  obtain ⟨rfl,k1⟩:=ldQ_any h1
  exact ⟨g2,h2,k1 g2 fun j hj => stN_keeps h2 (by simpa using hc) hj⟩
 ·rename_i hx hy
  rw[hx] at h1 ⊢
  rw[hy] at h2 ⊢
  obtain ⟨rfl,k2⟩:=ldQ_any h2
  exact ⟨g,k2 g fun j hj => (stN_keeps h1 (by simpa using hc) hj).symm,h1⟩
 ·cases hc
theorem ld_any {call:CS} {al:Nat→Bool} {lo id:Nat} {agg:Option Nat} {x:Opd} {e:Env} {g g1:G} {v:AV} (h:opE call al lo id (.ld agg x) e g = some (v,g1)):
  g1 = g∧∀ g':G,(∀ i b,g.hp i = some b→g'.hp i = some b)→opE call al lo id (.ld agg x) e g' = some (v,g'):=by
 have F:=foot_all (fun h => by cases h) h
 obtain ⟨hnx,_,W,h1,h2,h3⟩:=F
 have hW:∀ i,¬ W i:=fun i hi => h1 i hi
 have hg:g1 = g:=by
  obtain ⟨hp,nx⟩:=g
  obtain ⟨hp1,nx1⟩:=g1
  simp only at hnx h2
  subst hnx
  congr 1
  funext i
  exact h2 i (hW i)
 refine ⟨hg,fun g' hk => ?_⟩
 rw[h3 g' fun i hi => by
  have hc:CM (g.hp i):=hi.2
  cases hb:g.hp i with
  | none => rw[hb] at hc;exact hc.elim
  | some b => exact hk i b hb]
 congr 2
 obtain ⟨hp',nx'⟩:=g'
 congr 1
 funext i
 exact if_neg (hW i)
theorem opE_swapS {call:CS} {base k i:Nat} {x y:AOper} (hc:seeOk x.op y.op = true) {e:Env} {g g1 g2:G} {v u:AV}
  (h1:opE call (allow true base x.pre) base (base + k) x.op e g = some (v,g1)) (h2:opE call (allow true base y.pre) base (base + i) y.op e g1 = some (u,g2)):
  ∃ g1',opE call (allow true base y.pre) base (base + i) y.op e g = some (u,g1')∧opE call (allow true base x.pre) base (base + k) x.op e g1' = some (v,g2):=by
 unfold seeOk at hc
 split at hc
 ·rename_i hx hy
  rw[hx] at h1 ⊢
  rw[hy] at h2 ⊢
  obtain ⟨rfl,k1⟩:=ld_any h1
  refine ⟨g2,h2,k1 g2 ?_⟩
  simp only[opE,vCall] at h2
  split at h2
  ·obtain ⟨g',hce,h3,hkp⟩:=seeR_inv h2
   simp only at h3
   rw[h3]
   exact hkp
  ·cases h2
 ·cases hc
theorem ld_same {call:CS} {al:Nat→Bool} {lo id:Nat} {op:AOp} (ho:lOp op = true) {e:Env} {g g1:G} {v:AV} (h:opE call al lo id op e g = some (v,g1)):g1 = g:=by
 unfold lOp at ho
 split at ho
 ·rename_i agg x
  simp only[opE] at h
  unfold vLd at h
  split at h
  ·exact (any_map _ _ _ _ h).1
  ·split at h
   ·exact (any_map _ _ _ _ h).1
   ·cases h
  ·cases h
 ·cases ho
theorem opE_swap {call:CS} {base k i:Nat} (hki:k≠i) {x y:AOper} (hc:clsOk k i x y = true) {e:Env} {g g1 g2:G} {v u:AV}
  (h1:opE call (allow true base x.pre) base (base + k) x.op e g = some (v,g1)) (h2:opE call (allow true base y.pre) base (base + i) y.op e g1 = some (u,g2)):
  ∃ g1',opE call (allow true base y.pre) base (base + i) y.op e g = some (u,g1')∧opE call (allow true base x.pre) base (base + k) x.op e g1' = some (v,g2):=by
 unfold clsOk at hc
 rw[Bool.or_eq_true,Bool.or_eq_true,Bool.or_eq_true] at hc
 rcases hc with hc | hc | hc | hc
 ·exact opE_swapS hc h1 h2
 ·exact opE_swapQ hc h1 h2
 ·unfold fwOk at hc
  simp only[Bool.or_eq_true,Bool.and_eq_true] at hc
  rcases hc with (((⟨hx,hy⟩ | ⟨hx,hy⟩) | ⟨hx,hy⟩) | ⟨hx,hy⟩) | ⟨hx,hy⟩
  ·obtain ⟨rfl,k1⟩:=ldF_any hx h1
   obtain ⟨rfl,k2⟩:=ldF_any hy h2
   exact ⟨g2,h2,h1⟩
  ·obtain ⟨rfl,k1⟩:=ldF_any hx h1
   exact ⟨g2,h2,k1 g2 (stW_keeps hy h2).1⟩
  ·obtain ⟨rfl,k2⟩:=ldF_any hy h2
   exact ⟨g,k2 g (stW_keeps hx h1).2,h1⟩
  ·obtain ⟨rfl,k1⟩:=ldF_any hx h1
   have:=ld_same hy h2
   subst this
   exact ⟨_,h2,h1⟩
  ·obtain ⟨rfl,k2⟩:=ldF_any hy h2
   have:=ld_same hx h1
   subst this
   exact ⟨_,h2,h1⟩
 ·exact opE_swap0 hki hc h1 h2
theorem stepV_swap {call:CS} {base k i:Nat} (hki:k≠i) {x y:AOper} (hc:clsOk k i x y = true) {e:Env} {g g1 g2:G} {v u:AV}
  (h1:stepV call base k x e g = some (v,g1)) (h2:stepV call base i y e g1 = some (u,g2)):∃ g1',stepV call base i y e g = some (u,g1')∧stepV call base k x e g1' = some (v,g2):=by
 unfold stepV at *
 by_cases hx:wanted e x.grd = true
 ·rw[if_pos hx] at h1
  by_cases hy:wanted e y.grd = true
  ·rw[if_pos hy] at h2
   obtain ⟨g1',h3,h4⟩:=opE_swap hki hc h1 h2
   exact ⟨g1',by rw[if_pos hy];exact h3,by rw[if_pos hx];exact h4⟩
  ·rw[if_neg hy] at h2
   cases h2
   exact ⟨g,by rw[if_neg hy],by rw[if_pos hx];exact h1⟩
 ·rw[if_neg hx] at h1
  cases h1
  exact ⟨g2,h2,by rw[if_neg hx]⟩
theorem opStep_swap {call:CS} {base k i:Nat} (hki:k≠i) {x y:AOper} (hc:swapB k i x y = true) {e e1 e2:Env} {g g1 g2:G}
  (h1:opStep call true base k x e g = some (e1,g1)) (h2:opStep call true base i y e1 g1 = some (e2,g2)):
  ∃ e1' g1',opStep call true base i y e g = some (e1',g1')∧opStep call true base k x e1' g1' = some (e2,g2):=by
 simp only[swapB,Bool.and_eq_true] at hc
 obtain ⟨⟨⟨d1,d2⟩,d3⟩,d4⟩:=hc
 rw[opStep_V] at h1 h2
 cases hv:stepV call base k x e g with
 | none => rw[hv] at h1;cases h1
 | some r =>
   obtain ⟨v,g1⟩:=r
   rw[hv] at h1
   cases h1
   rw[stepV_congr (put_not d1 e v)] at h2
   cases hu:stepV call base i y e g1 with
   | none => rw[hu] at h2;cases h2
   | some r =>
     obtain ⟨u,g2⟩:=r
     rw[hu] at h2
     cases h2
     obtain ⟨g1',h3,h4⟩:=stepV_swap hki d4 hv hu
     refine ⟨put e y.dst u,g1',by rw[opStep_V,h3];rfl,?_⟩
     rw[opStep_V,stepV_congr (put_not d2 e u),h4]
     show some _ = some _
     rw[put_comm d3]
noncomputable def runL (call:CS) (base:Nat) (aos:List AOper):List Nat→Env→G→Option (Env × G)
 | [],e,g => some (e,g)
 | i :: is,e,g => match aos[i]? with
   | some o => match opStep call true base i o e g with
     | some (e',g') => runL call base aos is e' g'
     | none => none
   | none => none
theorem runL_text (call:CS) (base:Nat) (aos:List AOper):∀ (os:List AOper) (j:Nat) (e:Env) (g:G),(∀ i o,os[i]? = some o→aos[j + i]? = some o)→runL call base aos (List.range' j os.length) e g = regE call true base j os e g
 | [],j,e,g,_ => rfl
 | o :: os,j,e,g,h => by
   rw[regE_step,List.length_cons,List.range'_succ]
   have h0:aos[j]? = some o:=by simpa using h 0 o rfl
   simp only[runL,h0]
   cases opStep call true base j o e g with
   | none => rfl
   | some r =>
     obtain ⟨e',g'⟩:=r
     exact runL_text call base aos os (j + 1) e' g' (fun i o' hi => by have:=h (i + 1) o' (by simpa using hi);rwa [show j + (i + 1) = j + 1 + i by omega] at this)
theorem runL_front {call:CS} {base:Nat} {aos:List AOper} {i:Nat} {y:AOper} (hy:aos[i]? = some y):∀ (pre post:List Nat) (e e':Env) (g g':G),(∀ k∈pre,k≠i∧∀ x,aos[k]? = some x→swapB k i x y = true) →
  runL call base aos (pre ++ i :: post) e g = some (e',g')→runL call base aos (i :: (pre ++ post)) e g = some (e',g')
 | [],post,e,e',g,g',_,h => h
 | k :: pre,post,e,e',g,g',hp,h => by
   rw[List.cons_append] at h
   simp only[runL] at h
   split at h
   ·rename_i x hx
    split at h
    ·rename_i e1 g1 hst
     have:=runL_front hy pre post e1 e' g1 g' (fun m hm => hp m (List.mem_cons_of_mem _ hm)) h
     simp only[runL,hy] at this
     split at this
     ·rename_i e2 g2 hst2
      obtain ⟨hne,hsw⟩:=hp k (List.mem_cons_self ..)
      obtain ⟨e1',g1',h3,h4⟩:=opStep_swap hne (hsw x hx) hst hst2
      simp only[runL,hy,h3,List.cons_append,hx,h4]
      exact this
     ·cases this
    ·cases h
   ·cases h
def cloAt (es:Array Edge) (clo:List Nat):Nat:=
 es.foldl (fun b e => if Region.binds .any e then b ||| (1 <<< e.on) ||| (clo.getD e.on 0) else b) 0
def clos:List Oper→List Nat→List Nat
 | [],clo => clo
 | o :: os,clo => clos os (clo ++ [cloAt o.after clo])
def edgesB:Nat→List Oper→Bool
 | _,[] => true
 | j,o :: os => o.after.all (fun e => !Region.binds .any e || decide (e.on < j)) && edgesB (j + 1) os
def pairsB (clo:Nat) (i:Nat) (y:AOper):Nat→List AOper→Bool
 | _,[] => true
 | k,x :: xs => (clo.testBit k || swapB k i x y) && pairsB clo i y (k + 1) xs
def drawB (aos:List AOper):Nat→List AOper→List Nat→Bool
 | _,[],_ => true
 | i,y :: ys,clo :: cs => pairsB clo i y 0 (aos.take i) && drawB aos (i + 1) ys cs
 | _,_ :: _,[] => false
end Go.Ab
end
section
set_option linter.unusedVariables false
set_option linter.unusedSimpArgs false
set_option linter.unnecessarySimpa false
namespace Go.Ab
open Go.RowKit
theorem testBit_fold (es:List Edge) (clo:List Nat) (k:Nat):∀ b:Nat,(es.foldl (fun b e => if Region.binds .any e then b ||| (1 <<< e.on) ||| (clo.getD e.on 0) else b) b).testBit k = true →
  b.testBit k = true∨∃ e∈es,Region.binds .any e = true∧(k = e.on∨(clo.getD e.on 0).testBit k = true):=by
 induction es with
 | nil => intro b h;exact .inl h
 | cons e es ih =>
   intro b h
   rw[List.foldl_cons] at h
   rcases ih _ h with h1 | ⟨e',he',h2⟩
   ·by_cases hb:Region.binds .any e = true
    ·rw[if_pos hb] at h1
     simp only[Nat.testBit_or,Bool.or_eq_true] at h1
     rcases h1 with (h1 | h1) | h1
     ·exact .inl h1
     ·refine .inr ⟨e,List.mem_cons_self ..,hb,.inl ?_⟩
      rw[Nat.testBit_shiftLeft] at h1
      simp only[Bool.and_eq_true,decide_eq_true_eq] at h1
      have h2:Nat.testBit 1 (k - e.on) = true:=h1.2
      have h3:k - e.on = 0:=by
       cases hz:k - e.on with
       | zero => rfl
       | succ z => rw[hz] at h2;simp[Nat.testBit_succ] at h2
      omega
     ·exact .inr ⟨e,List.mem_cons_self ..,hb,.inr h1⟩
    ·rw[if_neg hb] at h1
     exact .inl h1
   ·exact .inr ⟨e',List.mem_cons_of_mem _ he',h2⟩
def cloB (clo:List Nat):List Oper→List Nat→Bool
 | [],[] => true
 | o :: os,c :: cs => (cloAt o.after clo == c) && cloB clo os cs
 | _,_ => false
theorem cloB_get {clo:List Nat}:∀ {os:List Oper} {cs:List Nat},cloB clo os cs = true→os.length = cs.length∧∀ (i:Nat) o,os[i]? = some o→cs[i]? = some (cloAt o.after clo)
 | [],[],_ => ⟨rfl,fun _ _ h => by simp at h⟩
 | [],_ :: _,h => by simp[cloB] at h
 | _ :: _,[],h => by simp[cloB] at h
 | o :: os,c :: cs,h => by
   simp only[cloB,Bool.and_eq_true,beq_iff_eq] at h
   obtain ⟨h1,h2⟩:=cloB_get h.2
   refine ⟨by simp[h1],fun i o' hi => ?_⟩
   cases i with
   | zero => simp at hi;subst hi;simp[h.1]
   | succ i => simp at hi ⊢;exact h2 i o' hi
theorem edgesB_get:∀ {os:List Oper} {j:Nat},edgesB j os = true→∀ (i:Nat) o,os[i]? = some o→∀ e∈o.after,Region.binds .any e = true→e.on < j + i
 | [],_,_,_,_,h => by simp at h
 | o :: os,j,h,i,o',hi => by
   simp only[edgesB,Bool.and_eq_true] at h
   cases i with
   | zero =>
     simp at hi;subst hi
     intro e he hb
     have:=Array.all_eq_true_iff_forall_mem.1 h.1 e he
     rw[hb] at this
     simpa using this
   | succ i =>
     simp at hi
     intro e he hb
     have:=edgesB_get h.2 i o' hi e he hb
     omega
def Closed (ops:List Oper) (L:Nat→Bool):Prop:=∀ (i:Nat) o,ops[i]? = some o→L i = true→∀ e∈o.after,Region.binds .any e = true→L e.on = true
theorem clo_sound {ops:List Oper} {clo:List Nat} (hc:cloB clo ops clo = true) (he:edgesB 0 ops = true) {L:Nat→Bool} (hL:Closed ops L):∀ (i:Nat) (o:Oper),ops[i]? = some o→(∀ e∈o.after,Region.binds .any e = true→L e.on = true)→∀ k,(clo.getD i 0).testBit k = true→L k = true:=by
 intro i
 induction i using Nat.strongRecOn with
 | _ i ih =>
   intro o ho hp k hk
   obtain ⟨hl,hg⟩:=cloB_get hc
   have h1:clo.getD i 0 = cloAt o.after clo:=by rw[List.getD_eq_getElem?_getD,hg i o ho];rfl
   rw[h1] at hk
   unfold cloAt at hk
   rw[←Array.foldl_toList] at hk
   rcases testBit_fold _ _ _ _ hk with h2 | ⟨e,hm,hb,h2⟩
   ·simp at h2
   ·have hm':e∈o.after:=Array.mem_toList_iff.1 hm
    rcases h2 with rfl | h2
    ·exact hp e hm' hb
    ·have hlt:=edgesB_get he i o ho e hm' hb
     cases ho':ops[e.on]? with
     | none =>
       rw[List.getElem?_eq_none_iff] at ho'
       rw[List.getD_eq_getElem?_getD,List.getElem?_eq_none (by omega)] at h2
       simp at h2
     | some o' => exact ih e.on (by omega) o' ho' (fun e' he' hb' => hL e.on o' ho' (hp e hm' hb) e' he' hb') k h2
theorem pairsB_get {clo i:Nat} {y:AOper}:∀ {xs:List AOper} {j:Nat},pairsB clo i y j xs = true→∀ (k:Nat) x,xs[k]? = some x→clo.testBit (j + k) = true∨swapB (j + k) i x y = true
 | [],_,_,_,_,h => by simp at h
 | x :: xs,j,h,k,x',hk => by
   simp only[pairsB,Bool.and_eq_true,Bool.or_eq_true] at h
   cases k with
   | zero => simp at hk;subst hk;exact h.1
   | succ k =>
     simp at hk
     have:=pairsB_get h.2 k x' hk
     rwa [show j + 1 + k = j + (k + 1) by omega] at this
theorem drawB_get {aos:List AOper}:∀ {ys:List AOper} {cs:List Nat} {j:Nat},drawB aos j ys cs = true→∀ (i:Nat) y,ys[i]? = some y→pairsB (cs.getD i 0) (j + i) y 0 (aos.take (j + i)) = true
 | [],_,_,_,_,_,h => by simp at h
 | y :: ys,[],_,h,_,_,_ => by simp[drawB] at h
 | y :: ys,c :: cs,j,h,i,y',hi => by
   simp only[drawB,Bool.and_eq_true] at h
   cases i with
   | zero => simp at hi;subst hi;simpa using h.1
   | succ i =>
     simp at hi
     have:=drawB_get h.2 i y' hi
     rw[show j + 1 + i = j + (i + 1) by omega] at this
     simpa using this
theorem opersB_get {P:Program} {nm:Nat→Nat} {N:Nat} {ops:Array Oper}:∀ {os:List Oper} {aos:List AOper},opersB P nm N ops os aos = true→os.length = aos.length∧∀ (i:Nat) o,os[i]? = some o→∃ ao,aos[i]? = some ao∧operB P nm N ops o ao = true
 | [],[],_ => ⟨rfl,fun _ _ h => by simp at h⟩
 | [],_ :: _,h => by simp[opersB] at h
 | _ :: _,[],h => by simp[opersB] at h
 | o :: os,ao :: aos,h => by
   simp only[opersB,Bool.and_eq_true] at h
   obtain ⟨h1,h2⟩:=opersB_get h.2
   refine ⟨by simp[h1],fun i o' hi => ?_⟩
   cases i with
   | zero => simp at hi;subst hi;exact ⟨ao,rfl,h.1⟩
   | succ i => simp at hi ⊢;exact h2 i o' hi
def regB (P:Program) (nm:Nat→Nat) (N:Nat) (ops:Array Oper) (draw:Bool) (aos:List AOper):Bool:=
 opersB P nm N ops ops.toList aos && (!draw || (edgesB 0 ops.toList && (let clo:=clos ops.toList [];cloB clo ops.toList clo && drawB aos 0 aos clo)))
def pend (ops:Array Oper) (listed:Array Bool):List Nat:=(List.range ops.size).filter fun i => !listed.getD i true
theorem ready_some {ops:Array Oper} {listed:Array Bool} (he:edgesB 0 ops.toList = true) (hs:listed.size = ops.size):∀ i,i < ops.size→listed.getD i true = false→Region.ready .any ops listed≠[]:=by
 intro i
 induction i using Nat.strongRecOn with
 | _ i ih =>
   intro hi hl hr
   have ho:ops[i]? = some ops[i]:=Array.getElem?_eq_getElem hi
   by_cases hall:(ops[i].after.all fun e => !Region.binds .any e || listed.getD e.on false) = true
   ·have:i∈Region.ready .any ops listed:=by
     unfold Region.ready
     rw[List.mem_filter]
     exact ⟨List.mem_range.2 hi,by rw[hl,ho];simpa using hall⟩
    rw[hr] at this
    cases this
   ·rw[Array.all_eq_true_iff_forall_mem] at hall
    simp only[Bool.or_eq_true,Bool.not_eq_true'] at hall
    have:∃ e∈ops[i].after,Region.binds .any e = true∧listed.getD e.on false≠true:=by
     refine Classical.byContradiction fun hn => hall fun e hm => ?_
     by_cases hb:Region.binds .any e = true
     ·by_cases hl:listed.getD e.on false = true
      ·exact .inr hl
      ·exact absurd ⟨e,hm,hb,hl⟩ hn
     ·exact .inl (by simpa using hb)
    obtain ⟨e,hm,hb,hne⟩:=this
    have hlt:=edgesB_get he i ops[i] (by simpa using ho) e hm hb
    have hlt':e.on < ops.size:=by omega
    refine ih e.on (by omega) hlt' ?_ hr
    have h1:e.on < listed.size:=by omega
    simp only[Array.getD_eq_getD_getElem?,Array.getElem?_eq_getElem h1,Option.getD_some] at hne ⊢
    simpa using hne
section
variable {P:Program} {call:CS} {N:Nat}
theorem any_wp {num:Nat→Nat} (hcall:CallOk P num call) (hk:CallKeep call) {ops:Array Oper} {aos:List AOper} (hb:regB P num N ops true aos = true) {Q:Exit→Act→World→Prop} {base:Nat} {e':Env} {g':G}:
  ∀ (fuel:Nat) (listed:Array Bool) {c:Cx} {e:Env} {g:G} {a:Act},listed.size = ops.size→(pend ops listed).length = fuel→Closed ops.toList (fun i => listed.getD i false)→c.num = num→St N c e g a→base + ops.size≤g.nx →
  (∀ i∈pend ops listed,g.hp (base + i) = none)→runL call base aos (pend ops listed) e g = some (e',g')→(∀ c' a',Evo c c'→St N c' e' g' a'→Q .normal a' c'.w)→wpAny P .any ops Q fuel listed a c.w
 | 0,listed,c,e,g,a,hs,hl,hc,hn,S,hnx,hf,hr,hQ => by
   have hp:pend ops listed = []:=List.eq_nil_of_length_eq_zero hl
   refine ⟨?_,?_⟩
   ·refine List.eq_nil_iff_forall_not_mem.2 fun i hi => ?_
    have:i∈pend ops listed:=by
     unfold Region.ready at hi
     rw[List.mem_filter] at hi
     unfold pend
     rw[List.mem_filter]
     exact ⟨hi.1,by have:=hi.2;simp only[Bool.and_eq_true] at this;exact this.1⟩
    rw[hp] at this;cases this
   ·rw[hp] at hr
    simp only[runL] at hr
    cases hr
    exact hQ c a (Evo.refl c) S
 | fuel + 1,listed,c,e,g,a,hs,hl,hc,hn,S,hnx,hf,hr,hQ => by
   simp only[regB,Bool.and_eq_true,Bool.not_true,Bool.false_or] at hb
   obtain ⟨hb1,hb2,hb3,hb4⟩:=hb
   refine ⟨fun h0 => ?_,fun i hi => ?_⟩
   ·exfalso
    cases hp:pend ops listed with
    | nil => rw[hp] at hl;simp at hl
    | cons m ms =>
      have hm:m∈pend ops listed:=by rw[hp];exact List.mem_cons_self ..
      unfold pend at hm
      rw[List.mem_filter] at hm
      exact ready_some hb2 hs m (List.mem_range.1 hm.1) (by simpa using hm.2) h0
   ·have hi':=hi
    unfold Region.ready at hi'
    rw[List.mem_filter] at hi'
    obtain ⟨hir,hiu⟩:=hi'
    have hilt:i < ops.size:=List.mem_range.1 hir
    simp only[Bool.and_eq_true,Bool.not_eq_true'] at hiu
    obtain ⟨hul,hpre⟩:=hiu
    have ho:ops[i]? = some ops[i]:=Array.getElem?_eq_getElem hilt
    rw[ho] at hpre
    simp only[Option.map_some,Option.getD_some] at hpre
    have hpre':∀ ed∈ops[i].after,Region.binds .any ed = true→listed.getD ed.on false = true:=by
     intro ed hm hbd
     have:=Array.all_eq_true_iff_forall_mem.1 hpre ed hm
     rw[hbd] at this
     simpa using this
    have him:i∈pend ops listed:=by
     unfold pend;rw[List.mem_filter];exact ⟨hir,by rw[hul];rfl⟩
    obtain ⟨pre,post,hsplit⟩:=List.append_of_mem him
    have hsort:(pend ops listed).Pairwise (· < ·):=List.Pairwise.filter _ List.pairwise_lt_range
    rw[hsplit,List.pairwise_append] at hsort
    obtain ⟨s1,s2,s3⟩:=hsort
    rw[List.pairwise_cons] at s2
    obtain ⟨hlen,hget⟩:=opersB_get hb1
    obtain ⟨y,hy,hoy⟩:=hget i ops[i] (by simpa using ho)
    have hmem:∀ k,k∈pre∨k∈post→k∈pend ops listed:=by
     intro k hk;rw[hsplit]
     rcases hk with hk | hk
     ·exact List.mem_append_left _ hk
     ·exact List.mem_append_right _ (List.mem_cons_of_mem _ hk)
    have hfront:=runL_front hy pre post e e' g g' (fun k hk => by
     have hki:k < i:=s3 k hk i (List.mem_cons_self ..)
     refine ⟨by omega,fun x hx => ?_⟩
     have hpb:=drawB_get hb4 i y hy
     rw[Nat.zero_add] at hpb
     have:=pairsB_get hpb k x (by rw[List.getElem?_take_of_lt hki];exact hx)
     rw[Nat.zero_add] at this
     rcases this with h1 | h1
     ·exfalso
      have hL:=clo_sound hb3 hb2 hc i ops[i] (by simpa using ho) hpre' k h1
      have hkm:=hmem k (.inl hk)
      unfold pend at hkm
      rw[List.mem_filter] at hkm
      have hkl:k < listed.size:=by rw[hs];exact List.mem_range.1 hkm.1
      have h2:=hkm.2
      simp only[Array.getD_eq_getD_getElem?,Array.getElem?_eq_getElem hkl,Option.getD_some] at hL h2
      rw[hL] at h2;cases h2
     ·exact h1) (by rw[hsplit] at hr;exact hr)
    simp only[runL,hy] at hfront
    have hpend':pend ops (listed.setIfInBounds i true) = pre ++ post:=by
     have h1:pend ops (listed.setIfInBounds i true) = (pend ops listed).filter (fun k => k != i):=by
      unfold pend
      rw[List.filter_filter]
      refine List.filter_congr fun k hk => ?_
      have hkl:k < listed.size:=by rw[hs];exact List.mem_range.1 hk
      by_cases hki:k = i
      ·subst hki
       rw[Array.getD_eq_getD_getElem?,Array.getElem?_setIfInBounds_self_of_lt hkl]
       simp
      ·rw[Array.getD_eq_getD_getElem?,Array.getElem?_setIfInBounds_ne (fun h => hki h.symm),Array.getD_eq_getD_getElem?]
       simp[hki]
     rw[h1,hsplit,List.filter_append,List.filter_cons]
     have f1:pre.filter (fun k => k != i) = pre:=List.filter_eq_self.2 fun k hk => by
      have:=s3 k hk i (List.mem_cons_self ..)
      simp;omega
     have f2:post.filter (fun k => k != i) = post:=List.filter_eq_self.2 fun k hk => by
      have:=s2.1 k hk
      simp;omega
     rw[f1,f2]
     simp
    split at hfront
    ·rename_i e1 g1 hst
     have hkp:=opStep_keep hk hst
     refine opStep_wp (hn ▸ hcall) S ho (hn ▸ hoy) (hf i him) (by omega) hst (fun c1 a1 E1 S1 => ?_)
     have hb:regB P num N ops true aos = true:=by
      simp only[regB,Bool.and_eq_true,Bool.not_true,Bool.false_or]
      exact ⟨hb1,hb2,hb3,hb4⟩
     refine any_wp hcall hk hb fuel (listed.setIfInBounds i true) (by simpa using hs) (by
       rw[hpend']
       rw[hsplit] at hl
       simp at hl ⊢
       omega) ?_ (E1.num.trans hn) S1 (Nat.le_trans hnx hkp.1) ?_ (by rw[hpend'];exact hfront) (fun c' a' E' S' => hQ c' a' (E1.trans E') S')
     ·intro m o hm hlm ed hed hbd
      have hset:∀ k,listed.getD k false = true→(listed.setIfInBounds i true).getD k false = true:=by
       intro k hk
       by_cases hki:k = i
       ·subst hki
        have hkl:k < listed.size:=by omega
        rw[Array.getD_eq_getD_getElem?,Array.getElem?_setIfInBounds_self_of_lt hkl];rfl
       ·rw[Array.getD_eq_getD_getElem?,Array.getElem?_setIfInBounds_ne (fun h => hki h.symm),←Array.getD_eq_getD_getElem?];exact hk
      refine hset _ ?_
      by_cases hmi:m = i
      ·subst hmi
       have:o = ops[m]:=by
        have h2:ops[m]? = some o:=by simpa using hm
        rw[ho] at h2;cases h2;rfl
       subst this
       exact hpre' ed hed hbd
      ·have hlm':listed.getD m false = true:=by
        have h3:(listed.setIfInBounds i true).getD m false = true:=hlm
        rw[Array.getD_eq_getD_getElem?,Array.getElem?_setIfInBounds_ne (fun h => hmi h.symm),←Array.getD_eq_getD_getElem?] at h3
        exact h3
       exact hc m o hm hlm' ed hed hbd
     ·intro k hk
      rw[hpend'] at hk
      have hkm:=hmem k (List.mem_append.1 hk)
      have hki:k≠i:=by
       rcases List.mem_append.1 hk with hk | hk
       ·have:=s3 k hk i (List.mem_cons_self ..);omega
       ·have:=s2.1 k hk;omega
      have hklt:k < ops.size:=by
       unfold pend at hkm;rw[List.mem_filter] at hkm;exact List.mem_range.1 hkm.1
      exact hkp.2 _ (by omega) (by omega) (hf k hkm)
    ·cases hfront
theorem region_wp {num:Nat→Nat} (hcall:CallOk P num call) (hk:CallKeep call) (hm:P.follows .mixedOrders = true) {ops:Array Oper} {draw:Bool} {aos:List AOper} (hb:regB P num N ops draw aos = true) {Q:Exit→Act→World→Prop} {id:Nat}
  {c:Cx} {e e':Env} {g g':G} {a:Act} (hn:c.num = num) (S:St N c e g a) (h:regE call draw g.nx 0 aos e { g with nx:=g.nx + aos.length } = some (e',g')) (hQ:∀ c' a',Evo c c'→St N c' e' g' a'→Q .normal a' c'.w):(Code.region id ops draw).wp P Q a c.w:=by
 have hb':=hb
 simp only[regB,Bool.and_eq_true] at hb'
 obtain ⟨hlen,_⟩:=opersB_get hb'.1
 have hlen':ops.size = aos.length:=by simpa using hlen
 have S':St N c e { g with nx:=g.nx + aos.length } a:=⟨S.env,⟨S.ok.basele,S.ok.cells,S.ok.maps,S.ok.toks,S.ok.inj,fun id hid => S.ok.fresh id (by have:g.nx + aos.length≤id:=hid;omega),S.ok.gl⟩,S.hp,S.size,S.defers⟩
 have hfree:∀ i,i < ops.size→g.hp (g.nx + i) = none:=fun i _ => by rw[←S.hp];exact S.ok.fresh _ (by omega)
 cases draw with
 | false =>
   refine wp_region ?_
   rw[List.range_eq_range']
   have:=reg_wp (Q:=Q) hcall hk (draw:=false) (base:=g.nx) (n:=ops.size) ops.toList aos 0 hn (fun i o hi => by simpa using hi) hb'.1 (by simp) S' (by simp[hlen']) (fun i _ hi => hfree i hi) h hQ
   simpa using this
 | true =>
   refine wp_region_any hm ?_
   have hpend:pend ops (Array.replicate ops.size false) = List.range ops.size:=by
    unfold pend
    refine List.filter_eq_self.2 fun i hi => ?_
    have hi:=List.mem_range.1 hi
    rw[Array.getD_eq_getD_getElem?,Array.getElem?_replicate,if_pos hi];rfl
   refine any_wp (c:=c.drew) (base:=g.nx) hcall hk hb ops.size (Array.replicate ops.size false) (by simp) (by rw[hpend];simp) ?_ hn ⟨S'.env.evo (Evo.drew c),S'.ok.drew,S'.hp,S'.size,S'.defers⟩ (by show g.nx + ops.size≤g.nx + aos.length;omega) (fun i hi => ?_) ?_ (fun c' a' E Sc => hQ c' a' ((Evo.drew c).trans E) Sc)
   ·intro i o _ hl
    have hl:(Array.replicate ops.size false).getD i false = true:=hl
    rw[Array.getD_eq_getD_getElem?,Array.getElem?_replicate] at hl
    split at hl<;>cases hl
   ·rw[hpend] at hi
    exact hfree i (List.mem_range.1 hi)
   ·rw[hpend,List.range_eq_range',hlen']
    rw[runL_text call g.nx aos aos 0 e _ (fun i o hi => by simpa using hi)]
    exact h
end
end Go.Ab
end
section
set_option linter.unusedVariables false
set_option linter.unusedSimpArgs false
set_option linter.unnecessarySimpa false
namespace Go.Ab
open Go.RowKit
def codeB (P:Program) (nm:Nat→Nat) (N:Nat):Code→ACode→Bool
 | .skip,.skip => true
 | .region _ ops d,.reg d' aos => (d == d') && regB P nm N ops d aos
 | .seq a b,.seq a' b' => codeB P nm N a a' && codeB P nm N b b'
 | .cond c t f,.cond c' t' f' => opdB nm c c' && codeB P nm N t t' && codeB P nm N f f'
 | .block i c,.blk i' c' => (i == i') && codeB P nm N c c'
 | cd,.lck _ c' => codeB P nm N cd c'
 | cd,.lckS _ c' => codeB P nm N cd c'
 | cd,.imm _ c' => codeB P nm N cd c'
 | cd,.tmp c' => codeB P nm N cd c'
 | .scope c,.scp c' => codeB P nm N c c'
 | .label _,.lab => true
 | .loop c,.loop c' => codeB P nm N c c'
 | .exit i,.ext i' => i == i'
 | .ret,.ret => true
 | _,_ => false
def Keeps (g g':G):Prop:=g.nx≤g'.nx∧∀ i,i < g.nx→g.hp i = none→g'.hp i = none
theorem Keeps.refl (g:G):Keeps g g:=⟨Nat.le_refl _,fun _ _ h => h⟩
theorem Keeps.trans {g g1 g2:G} (h:Keeps g g1) (k:Keeps g1 g2):Keeps g g2:=⟨Nat.le_trans h.1 k.1,fun i hi hn => k.2 i (Nat.lt_of_lt_of_le hi h.1) (h.2 i hi hn)⟩
theorem regE_keep {call:CS} (hk:CallKeep call) {draw:Bool} {base:Nat} {e':Env} {g':G}:∀ (aos:List AOper) (j:Nat) {e:Env} {g:G},regE call draw base j aos e g = some (e',g')→g.nx≤g'.nx∧∀ i,i < base→i < g.nx→g.hp i = none→g'.hp i = none
 | [],j,e,g,h => by simp only[regE] at h;cases h;exact ⟨Nat.le_refl _,fun _ _ _ h => h⟩
 | o :: os,j,e,g,h => by
   rw[regE_step] at h
   split at h
   ·rename_i e1 g1 hst
    have h1:=opStep_keep hk hst
    have h2:=regE_keep hk os (j + 1) h
    exact ⟨Nat.le_trans h1.1 h2.1,fun i hb hi hn => h2.2 i hb (Nat.lt_of_lt_of_le hi h1.1) (h1.2 i hi (by omega) hn)⟩
   ·cases h
theorem iter_keep {f:Env→G→Option (Out × Env × G)} (hf:∀ e g o e' g',f e g = some (o,e',g')→Keeps g g'):∀ (k:Nat) {e:Env} {g:G} {o:Out} {e':Env} {g':G},iter f k e g = some (o,e',g')→Keeps g g'
 | 0,_,_,_,_,_,h => by simp[iter] at h
 | k + 1,e,g,o,e',g',h => by
   simp only[iter] at h
   split at h
   ·rename_i e1 g1 h1
    exact (hf _ _ _ _ _ h1).trans (iter_keep hf k h)
   ·exact hf _ _ _ _ _ h
theorem primE_keep {f:List AV→(Nat→Option Blk)→Option (AV × Option (Nat × List AV))} {asx:List AV} {g g':G} {v:AV} (h:primE f asx g = some (v,g')):Keeps g g':=by
 unfold primE at h
 split at h
 ·cases h
 ·cases h;exact Keeps.refl _
 ·rename_i v0 id cs hf
  split at h
  ·rename_i cs0 hid
   cases h
   refine ⟨Nat.le_refl _,fun i hi hn => ?_⟩
   by_cases he:i = id
   ·subst he;rw[hid] at hn;cases hn
   ·show upd g.hp id _ i = none
    unfold upd;rw[if_neg he];exact hn
  ·cases h
theorem codeE_keep {call:CS} (hk:CallKeep call) (k:Nat):∀ (c:ACode) {e:Env} {g:G} {o:Out} {e':Env} {g':G},codeE call k c e g = some (o,e',g')→Keeps g g'
 | .skip,_,_,_,_,_,h => by simp only[codeE] at h;cases h;exact Keeps.refl _
 | .reg draw ops,e,g,_,_,_,h => by
   simp only[codeE] at h
   split at h
   ·rename_i e1 g1 h1
    cases h
    have:=regE_keep hk ops 0 h1
    exact ⟨Nat.le_trans (Nat.le_add_right _ _) this.1,fun i hi hn => this.2 i hi (Nat.lt_of_lt_of_le hi (Nat.le_add_right _ _)) hn⟩
   ·cases h
 | .seq a b,_,_,_,_,_,h => by
   simp only[codeE] at h
   split at h
   ·rename_i e1 g1 h1
    exact (codeE_keep hk k a h1).trans (codeE_keep hk k b h)
   ·exact codeE_keep hk k a h
 | .cond c t f,e,g,_,_,_,h => by
   simp only[codeE] at h
   split at h
   ·split at h
    ·exact codeE_keep hk k t h
    ·exact codeE_keep hk k f h
   ·cases h
 | .blk id c,_,_,_,_,_,h => by
   simp only[codeE] at h
   split at h
   ·rename_i n e1 g1 h1
    cases h
    exact codeE_keep hk k c h1
   ·exact codeE_keep hk k c h
 | .scp c,_,_,_,_,_,h => by
   simp only[codeE] at h
   exact codeE_keep hk k c h
 | .lab,_,_,_,_,_,h => by simp only[codeE] at h;cases h;exact Keeps.refl _
 | .tmp c,e0,gg,_,_,_,h => by
   simp only[codeE] at h
   split at h
   ·rename_i o e2 g2 h1
    split at h
    ·cases h
     exact ⟨(codeE_keep hk k c h1).1,fun _ _ hn => hn⟩
    ·cases h
   ·cases h
 | .imm t c,e0,gg,_,_,_,h => by
   simp only[codeE] at h
   split at h
   ·rename_i v hv
    have h2:=codeE_keep hk k c h
    refine Keeps.trans (g1:=⟨Ab.lock gg.hp (vis gg.hp depth (e0 t)),gg.nx⟩) ⟨Nat.le_refl _,fun i hi hn => ?_⟩ h2
    show Ab.lock _ _ _ = none
    rcases lock_cases _ _ i with h' | ⟨_,cs,ro,h1,_⟩
    ·rw[h'];exact hn
    ·rw[hn] at h1;cases h1
   ·cases h
 | .lckS t c,e0,gg,_,_,_,h => by
   simp only[codeE] at h
   have h2:=codeE_keep hk k c h
   refine Keeps.trans (g1:=⟨Ab.lock gg.hp (ids1 (e0 t)),gg.nx⟩) ⟨Nat.le_refl _,fun i hi hn => ?_⟩ h2
   show Ab.lock _ _ _ = none
   rcases lock_cases _ _ i with h' | ⟨_,cs,ro,h1,_⟩
   ·rw[h'];exact hn
   ·rw[hn] at h1;cases h1
 | .lck t c,e0,gg,_,_,_,h => by
   simp only[codeE] at h
   have h2:=codeE_keep hk k c h
   refine Keeps.trans (g1:=⟨Ab.lock gg.hp (vis gg.hp depth (e0 t)),gg.nx⟩) ⟨Nat.le_refl _,fun i hi hn => ?_⟩ h2
   show Ab.lock _ _ _ = none
   rcases lock_cases _ _ i with h' | ⟨_,cs,ro,h1,_⟩
   ·rw[h'];exact hn
   ·rw[hn] at h1;cases h1
 | .loop c,_,_,_,_,_,h => by
   simp only[codeE] at h
   exact iter_keep (fun e g o e' g' h => codeE_keep hk k c h) k h
 | .ext _,_,_,_,_,_,h => by simp only[codeE] at h;cases h;exact Keeps.refl _
 | .ret,_,_,_,_,_,h => by simp only[codeE] at h;cases h;exact Keeps.refl _
 | .prim n f,_,_,_,_,_,h => by
   simp only[codeE] at h
   split at h
   ·rename_i v g1 hp
    cases h
    exact primE_keep hp
   ·cases h
theorem St.lock {N:Nat} {c:Cx} {e:Env} {g:G} {a:Act} (S:St N c e g a) (ids:List Nat):St N (c.lock ids) e ⟨Ab.lock g.hp ids,g.nx⟩ a:=
 ⟨S.env.evo (Evo.lock c ids),S.ok.lock ids,by show Ab.lock c.hp ids = _;rw[S.hp],S.size,S.defers⟩
theorem tmpOk_at {hp hp2:Nat→Option Blk} {n i:Nat} (h:tmpOk hp hp2 n = true) (hi:i < n):(∀ es,hp i≠some (.map es))∧(hp i = some (.tok true)→hp2 i = some (.tok true))∧(∀ cs ro,hp i = some (.cells cs ro)→∃ cs' ro',hp2 i = some (.cells cs' ro')):=by
 have:=List.all_eq_true.1 h i (List.mem_range.2 hi)
 refine ⟨fun es he => ?_,fun he => ?_,fun cs ro he => ?_⟩
 ·rw[he] at this;cases this
 ·rw[he] at this
  simp only at this
  split at this
  ·assumption
  ·cases this
 ·rw[he] at this
  simp only at this
  split at this
  ·exact ⟨_,_,by assumption⟩
  ·cases this
theorem lock_isSome {hp:Nat→Option Blk} {ids:List Nat} {i:Nat} (h:(hp i).isSome):(Ab.lock hp ids i).isSome:=by
 rcases lock_cases hp ids i with h1 | ⟨_,cs,ro,_,h1⟩
 ·rw[h1];exact h
 ·rw[h1];rfl
def Cx.unl (c1:Cx) (hp:Nat→Option Blk):Cx:={ c1 with hp:=hp }
section
variable {c c1:Cx} {nx nx2:Nat}
theorem id_lt (K:Ok c nx) {i:Nat} (h:(c.hp i).isSome):i < nx:=by
 by_cases hi:i < nx
 ·exact hi
 ·rw[K.fresh i (by omega)] at h;cases h
theorem Evo.unl (K:Ok c nx) (E1:Evo (c.lock (List.range nx)) c1) (hk:tmpOk c.hp c1.hp nx = true):Evo c (c1.unl c.hp) where
 num:=E1.num
 dr:=E1.dr
 base:=E1.base
 J:=E1.J
 below:=E1.below
 imm:=fun ad hI => by
  have h1:=E1.imm ad ((Evo.lock c (List.range nx)).imm ad hI).1
  refine ⟨?_,fun v hv => h1.2 v hv⟩
  have hb:c1.base = c.base:=E1.base
  rcases hI with ⟨a1,a2⟩ | ⟨a1,a2,a3⟩
  ·refine .inl ⟨by show _ < c1.base;rw[hb];exact a1,?_⟩
   have:c1.J = c.J:=E1.J
   show c1.J ad
   rw[this];exact a2
  ·refine .inr ⟨by show c1.base≤_;rw[hb];exact a1,Nat.lt_of_lt_of_le a2 E1.below.size,fun hw => a3 ?_⟩
   rcases hw with ⟨i,cs,hi,hl⟩ | ⟨i,hi,hl,ho⟩
   ·have hi':c.hp i = some (.cells cs false):=hi
    have e:=(E1.ids i (lock_isSome (by show (c.hp i).isSome;rw[hi'];rfl))).2
    have hl':(c1.loc i).1 = ad.block:=hl
    rw[e] at hl'
    exact .inl ⟨i,cs,hi',hl'⟩
   ·have hi':c.hp i = some (.tok true):=hi
    have e:=(E1.ids i (lock_isSome (by show (c.hp i).isSome;rw[hi'];rfl))).2
    have hl':(c1.loc i).1 = ad.block:=hl
    have ho':(c1.loc i).2≤ad.off:=ho
    rw[e] at hl' ho'
    exact .inr ⟨i,hi',hl',ho'⟩
 ids:=fun i hi => ⟨hi,(E1.ids i (lock_isSome hi)).2⟩
 tok:=fun i hi ht => by
  have ht:c.hp i = some (.tok true):=ht
  refine ⟨ht,?_⟩
  exact (E1.tok i (lock_isSome hi) ((tmpOk_at hk (id_lt K hi)).2.1 ht)).2
 cel:=fun i cs ro hi hc => by
  have hc:c.hp i = some (.cells cs ro):=hc
  obtain ⟨cs',ro',h1⟩:=(tmpOk_at hk (id_lt K hi)).2.2 cs ro hc
  obtain ⟨_,_,_,_,h2⟩:=E1.cel i cs' ro' (lock_isSome hi) h1
  exact ⟨cs,ro,hc,rfl,h2⟩
theorem Ok.unl (K:Ok c nx) (E1:Evo (c.lock (List.range nx)) c1) (hk:tmpOk c.hp c1.hp nx = true) (K1:Ok c1 nx2) (hn:nx≤nx2):Ok (c1.unl c.hp) nx2:=by
 have E:=Evo.unl K E1 hk
 have hloc:∀ i,(c.hp i).isSome→c1.loc i = c.loc i:=fun i hi => (E.ids i hi).2
 refine ⟨K1.basele,?_,?_,?_,?_,?_,K.gl.evo E⟩
 ·intro i cs ro hi
  have hi:c.hp i = some (.cells cs ro):=hi
  have hs:(c.hp i).isSome:=by rw[hi];rfl
  obtain ⟨cs1,ro1,h1⟩:=(tmpOk_at hk (id_lt K hs)).2.2 cs ro hi
  obtain ⟨k1,vs1,us1,ty1,k2,k3,_⟩:=K1.cells i cs1 ro1 h1
  obtain ⟨cs0,ro0,h0,hl0,_⟩:=E1.cel i cs1 ro1 (lock_isSome hs) h1
  obtain ⟨j1,vs,us,ty,j2,j3,j4⟩:=K.cells i cs ro hi
  have hcl:cs.length = cs1.length:=by
   rcases lock_cases c.hp (List.range nx) i with h | ⟨_,cs2,ro2,h3,h4⟩
   ·have h0':Ab.lock c.hp (List.range nx) i = some (.cells cs0 ro0):=h0
    rw[h,hi] at h0';cases h0';exact hl0
   ·have h0':Ab.lock c.hp (List.range nx) i = some (.cells cs0 ro0):=h0
    rw[h4] at h0'
    rw[hi] at h3
    cases h3;cases h0';exact hl0
  have hvl:vs.length = vs1.length:=by rw[←j3.1,hcl,k3.1]
  have hv:vs1 = vs:=by
   refine List.ext_getElem? fun j => ?_
   by_cases hj:j < vs.length
   ·have hc0:c.w.cell? ⟨(c.loc i).1,j,none⟩ = some vs[j]:=by
     rw[cell_of_heap j2]
     simp[List.getElem?_append_left hj]
    have hI:(c.lock (List.range nx)).I ⟨(c.loc i).1,j,none⟩:=by
     refine .inr ⟨j1,(Array.getElem?_eq_some_iff.1 j2).1,fun hw => ?_⟩
     rcases hw with ⟨i',cs',hi',hl'⟩ | ⟨i',hi',hl',ho'⟩
     ·have hi':Ab.lock c.hp (List.range nx) i' = some (.cells cs' false):=hi'
      rcases lock_cases c.hp (List.range nx) i' with h | ⟨_,cs2,ro2,h3,h4⟩
      ·rw[h] at hi'
       have hlt:=id_lt K (i:=i') (by rw[hi'];rfl)
       have:Ab.lock c.hp (List.range nx) i' = some (.cells cs' true):=by
        unfold Ab.lock
        rw[if_pos (by simpa using hlt),hi']
       rw[h,hi'] at this
       cases this
      ·rw[h4] at hi';cases hi'
     ·have hi':Ab.lock c.hp (List.range nx) i' = some (.tok true):=hi'
      have hi2:c.hp i' = some (.tok true):=by
       rcases lock_cases c.hp (List.range nx) i' with h | ⟨_,cs2,ro2,h3,h4⟩
       ·rw[←h];exact hi'
       ·rw[h4] at hi';cases hi'
      have hne:i'≠i:=fun h => by rw[h,hi] at hi2;cases hi2
      exact K.inj i' i hne ⟨_,hi2,by simp⟩ ⟨_,hi,by simp⟩ hl'
    have h2:=(E1.imm _ hI).2 _ hc0
    rw[←hloc i hs,cell_of_heap k2] at h2
    have hj1:j < vs1.length:=hvl ▸ hj
    have h3:(vs1 ++ us1)[j]? = some vs[j]:=by simpa using h2
    rw[List.getElem?_append_left hj1] at h3
    rw[h3,List.getElem?_eq_getElem hj]
   ·rw[List.getElem?_eq_none (by omega),List.getElem?_eq_none (by omega)]
  subst hv
  exact ⟨k1,vs1,us1,ty1,k2,j3.evo E,j4⟩
 ·intro i es hi
  have hi:c.hp i = some (.map es):=hi
  exact absurd hi ((tmpOk_at hk (id_lt K (by rw[hi];rfl))).1 es)
 ·intro i hi
  have hi:c.hp i = some (.tok true):=hi
  exact K1.toks i ((tmpOk_at hk (id_lt K (by rw[hi];rfl))).2.1 hi)
 ·intro i j hij hi hj
  have hi:c.live i:=hi
  have hj:c.live j:=hj
  have si:(c.hp i).isSome:=by obtain ⟨b,hb,_⟩:=hi;rw[hb];rfl
  have sj:(c.hp j).isSome:=by obtain ⟨b,hb,_⟩:=hj;rw[hb];rfl
  show (c1.loc i).1≠(c1.loc j).1
  rw[hloc i si,hloc j sj]
  exact K.inj i j hij hi hj
 ·intro i hi
  exact K.fresh i (by omega)
theorem rigid_rep {hp:Nat→Option Blk} {x:AV} {v:Value} (h:Rep c1 true x v):Rep (c1.unl hp) true (rigid hp x) v:=by
 unfold rigid
 by_cases hf:flat x = true
 ·rw[if_pos hf];exact rep_flat hf h
 ·rw[if_neg hf]
  cases h with
  | undef v hb => exact .undef v hb
  | b x => exact absurd rfl hf
  | i k n => exact absurd rfl hf
  | s x => exact absurd rfl hf
  | nilp => exact absurd rfl hf
  | nilf => exact absurd rfl hf
  | nili => exact absurd rfl hf
  | agg vs hl h => exact .undef _ (fun x h => by cases h)
  | tup vs hl h => exact .undef _ (fun x h => by cases h)
  | sl ad vs hc hm hr ho hz h1 hl ha hk h ht => exact .undef _ (fun x h => by cases h)
  | ptr ad vs h1 hl hk h => exact .undef _ (fun x h => by cases h)
  | mp id off h =>
    simp only
    by_cases hs:(hp id).isSome = true
    ·rw[if_pos hs];exact Rep.mp (c:=c1.unl hp) id off hs
    ·rw[if_neg hs];exact .undef _ (fun x h => by cases h)
  | ms id off n cap h hc hm hp => exact .undef _ (fun x h => by cases h)
  | mc id k e n cap h hk hc hm hp => exact .undef _ (fun x h => by cases h)
  | fn vs us hl hl' h h' => exact .undef _ (fun x h => by cases h)
  | mm id h => exact .undef _ (fun x h => by cases h)
end
theorem St.unl {N:Nat} {c c1:Cx} {e2:Env} {g g2:G} {a1:Act} (K:Ok c g.nx) (hg:c.hp = g.hp) (E1:Evo (c.lock (List.range g.nx)) c1) (S1:St N c1 e2 g2 a1) (hk:tmpOk g.hp g2.hp g.nx = true) (hn:g.nx≤g2.nx):St N (c1.unl g.hp) (tmpEnv g.hp e2) ⟨g.hp,g2.nx⟩ a1:=by
 rw[←hg] at hk ⊢
 rw[←S1.hp] at hk
 exact ⟨fun t => rigid_rep (S1.env t),Ok.unl K E1 hk S1.ok hn,rfl,S1.size,S1.defers⟩
def exOf:Out→Exit
 | .nrm => .normal
 | .ext n => .exit n
 | .ret => .ret
section
variable {P:Program} {call:CS} {N:Nat}
theorem rounds_wp {num:Nat→Nat} {cd:Code} {f:Env→G→Option (Out × Env × G)} {Q:Exit→Act→World→Prop}
  (hf:∀ {Q:Exit→Act→World→Prop} {c:Cx} {e e':Env} {g g':G} {a:Act} {o:Out},c.num = num→St N c e g a→f e g = some (o,e',g')→(∀ c' a',Evo c c'→St N c' e' g' a'→Q (exOf o) a' c'.w)→cd.wp P Q a c.w):
  ∀ (k:Nat) {c:Cx} {e e':Env} {g g':G} {a:Act} {o:Out},c.num = num→St N c e g a→iter f k e g = some (o,e',g')→(∀ c' a',Evo c c'→St N c' e' g' a'→Q (exOf o) a' c'.w)→(o = .nrm→False)→Code.rounds P cd Q k a c.w
 | 0,_,_,_,_,_,_,_,_,_,h,_,_ => by simp[iter] at h
 | k + 1,c,e,e',g,g',a,o,hn,S,h,hQ,hno => by
   simp only[iter] at h
   rw[rounds_succ]
   split at h
   ·rename_i e1 g1 h1
    exact hf hn S h1 fun c1 a1 E1 S1 => rounds_wp hf k (E1.num.trans hn) S1 h (fun c' a' E' S' => hQ c' a' (E1.trans E') S') hno
   ·refine hf hn S h fun c1 a1 E1 S1 => ?_
    have:=hQ c1 a1 E1 S1
    cases o with
    | nrm => exact (hno rfl).elim
    | ext n => exact this
    | ret => exact this
theorem iter_out {f:Env→G→Option (Out × Env × G)}:∀ (k:Nat) {e e':Env} {g g':G} {o:Out},iter f k e g = some (o,e',g')→o = .nrm→False
 | 0,_,_,_,_,_,h,_ => by simp[iter] at h
 | k + 1,e,e',g,g',o,h,ho => by
   simp only[iter] at h
   split at h
   ·exact iter_out k h ho
   ·rename_i hne
    subst ho
    exact hne _ _ h
theorem code_wp {num:Nat→Nat} (hcall:CallOk P num call) (hk:CallKeep call) (hm:P.follows .mixedOrders = true) (k:Nat):∀ (ac:ACode) {cd:Code} {Q:Exit→Act→World→Prop} {c:Cx} {e e':Env} {g g':G} {a:Act} {o:Out},
  codeB P num N cd ac = true→c.num = num→St N c e g a→codeE call k ac e g = some (o,e',g')→(∀ c' a',Evo c c'→St N c' e' g' a'→Q (exOf o) a' c'.w)→cd.wp P Q a c.w
 | .skip,cd,Q,c,e,e',g,g',a,o,hb,hn,S,h,hQ => by
   cases cd<;>simp only[codeB,Bool.false_eq_true] at hb
   simp only[codeE] at h;cases h
   exact wp_skip (hQ c a (Evo.refl c) S)
 | .reg d aos,cd,Q,c,e,e',g,g',a,o,hb,hn,S,h,hQ => by
   cases cd<;>simp only[codeB,Bool.false_eq_true] at hb
   simp only[Bool.and_eq_true,beq_iff_eq] at hb
   obtain ⟨rfl,hb⟩:=hb
   simp only[codeE] at h
   split at h
   ·rename_i e1 g1 h1
    cases h
    exact region_wp hcall hk hm hb hn S h1 hQ
   ·cases h
 | .seq x y,cd,Q,c,e,e',g,g',a,o,hb,hn,S,h,hQ => by
   cases cd<;>simp only[codeB,Bool.false_eq_true] at hb
   simp only[Bool.and_eq_true] at hb
   simp only[codeE] at h
   refine wp_seq ?_
   split at h
   ·rename_i e1 g1 h1
    exact code_wp hcall hk hm k x hb.1 hn S h1 fun c1 a1 E1 S1 => code_wp hcall hk hm k y hb.2 (E1.num.trans hn) S1 h fun c' a' E' S' => hQ c' a' (E1.trans E') S'
   ·rename_i hne
    refine code_wp hcall hk hm k x hb.1 hn S h fun c1 a1 E1 S1 => ?_
    have:=hQ c1 a1 E1 S1
    cases o with
    | nrm => exact (hne _ _ h).elim
    | ext n => exact this
    | ret => exact this
 | .cond x t f,cd,Q,c,e,e',g,g',a,o,hb,hn,S,h,hQ => by
   cases cd<;>simp only[codeB,Bool.false_eq_true] at hb
   simp only[Bool.and_eq_true] at hb
   obtain ⟨⟨h1,h2⟩,h3⟩:=hb
   have hr:=opdB_rep S.env (hn ▸ h1)
   simp only[codeE] at h
   split at h
   ·rename_i b hx
    rw[hx] at hr
    refine wp_cond (t:=b) (by
     generalize a.eval _ = u at hr
     cases hr;rfl) ?_
    cases b with
    | true =>
      simp only[if_true] at h ⊢
      exact code_wp hcall hk hm k t h2 hn S h hQ
    | false =>
      simp only[Bool.false_eq_true,if_false] at h ⊢
      exact code_wp hcall hk hm k f h3 hn S h hQ
   ·cases h
 | .blk i x,cd,Q,c,e,e',g,g',a,o,hb,hn,S,h,hQ => by
   cases cd<;>simp only[codeB,Bool.false_eq_true] at hb
   simp only[Bool.and_eq_true,beq_iff_eq] at hb
   obtain ⟨rfl,hb⟩:=hb
   simp only[codeE] at h
   refine wp_block ?_
   split at h
   ·rename_i n e1 g1 h1
    cases h
    refine code_wp hcall hk hm k x hb hn S h1 fun c1 a1 E1 S1 => ?_
    have:=hQ c1 a1 E1 S1
    show if _ then _ else _
    split
    ·rename_i hni;rw[if_pos hni] at this;exact this
    ·rename_i hni;rw[if_neg hni] at this;exact this
   ·rename_i hne
    refine code_wp hcall hk hm k x hb hn S h fun c1 a1 E1 S1 => ?_
    have:=hQ c1 a1 E1 S1
    cases o with
    | nrm => exact this
    | ext n => exact (hne _ _ _ h).elim
    | ret => exact this
 | .scp x,cd,Q,c,e,e',g,g',a,o,hb,hn,S,h,hQ => by
   cases cd<;>simp only[codeB,Bool.false_eq_true] at hb
   simp only[codeE] at h
   refine wp_scope_straight (code_wp hcall hk hm k x hb hn S h fun c1 a1 E1 S1 => ?_)
   have:=hQ c1 a1 E1 S1
   cases o<;>exact this
 | .lab,cd,Q,c,e,e',g,g',a,o,hb,hn,S,h,hQ => by
   cases cd<;>simp only[codeB,Bool.false_eq_true] at hb
   simp only[codeE] at h;cases h
   exact wp_label (hQ c a (Evo.refl c) S)
 | .tmp x,cd,Q,c,e,e',g,g',a,o,hb,hn,S,h,hQ => by
   have hb:codeB P num N cd x = true:=by cases cd<;>simpa only[codeB] using hb
   simp only[codeE] at h
   split at h
   ·rename_i o2 e2 g2 h1
    split at h
    ·rename_i hk2
     cases h
     have E:=Evo.lock c (List.range g.nx)
     refine code_wp hcall hk hm k x (c:=c.lock (List.range g.nx)) hb (E.num.trans hn) (S.lock _) h1 fun c1 a1 E1 S1 => ?_
     have hk3:tmpOk c.hp c1.hp g.nx = true:=by rw[S.hp,S1.hp];exact hk2
     have hQ1:=hQ (c1.unl g.hp) a1 (by have:=Evo.unl S.ok E1 hk3;rwa [S.hp] at this) (St.unl S.ok S.hp E1 S1 hk2 (codeE_keep hk k x h1).1)
     exact hQ1
    ·cases h
   ·cases h
 | .imm t x,cd,Q,c,e,e',g,g',a,o,hb,hn,S,h,hQ => by
   have hb:codeB P num N cd x = true:=by cases cd<;>simpa only[codeB] using hb
   simp only[codeE] at h
   split at h
   ·rename_i v hv
    have E:=Evo.lock c (vis g.hp depth (e t))
    have S1:=S.lock (vis g.hp depth (e t))
    have hr:=frz_rep S.ok (hp:=g.hp) (ids:=vis g.hp depth (e t)) (fun i b hib => by rw[S.hp];exact hib) depth hv (fun _ h => h) (S.env t)
    have S2:St N (c.lock (vis g.hp depth (e t))) (upd e t v) ⟨Ab.lock g.hp (vis g.hp depth (e t)),g.nx⟩ a:=by
     refine ⟨fun t' => ?_,S1.ok,S1.hp,S1.size,S1.defers⟩
     unfold upd
     split
     ·rename_i ht;subst ht;exact hr.up
     ·exact S1.env t'
    exact code_wp hcall hk hm k x (c:=c.lock (vis g.hp depth (e t))) hb (E.num.trans hn) S2 h fun c1 a1 E1 S1 => hQ c1 a1 (E.trans E1) S1
   ·cases h
 | .lckS t x,cd,Q,c,e,e',g,g',a,o,hb,hn,S,h,hQ => by
   have hb:codeB P num N cd x = true:=by cases cd<;>simpa only[codeB] using hb
   simp only[codeE] at h
   have E:=Evo.lock c (ids1 (e t))
   exact code_wp hcall hk hm k x (c:=c.lock (ids1 (e t))) hb (E.num.trans hn) (S.lock _) h fun c1 a1 E1 S1 => hQ c1 a1 (E.trans E1) S1
 | .lck t x,cd,Q,c,e,e',g,g',a,o,hb,hn,S,h,hQ => by
   have hb:codeB P num N cd x = true:=by cases cd<;>simpa only[codeB] using hb
   simp only[codeE] at h
   have E:=Evo.lock c (vis g.hp depth (e t))
   exact code_wp hcall hk hm k x (c:=c.lock (vis g.hp depth (e t))) hb (E.num.trans hn) (S.lock _) h fun c1 a1 E1 S1 => hQ c1 a1 (E.trans E1) S1
 | .loop x,cd,Q,c,e,e',g,g',a,o,hb,hn,S,h,hQ => by
   cases cd<;>simp only[codeB,Bool.false_eq_true] at hb
   simp only[codeE] at h
   exact wp_loop_rounds k (rounds_wp (fun hn S h hQ => code_wp hcall hk hm k x hb hn S h hQ) k hn S h hQ (iter_out k h))
 | .ext i,cd,Q,c,e,e',g,g',a,o,hb,hn,S,h,hQ => by
   cases cd<;>simp only[codeB,Bool.false_eq_true] at hb
   simp only[beq_iff_eq] at hb
   subst hb
   simp only[codeE] at h;cases h
   exact wp_exit (hQ c a (Evo.refl c) S)
 | .ret,cd,Q,c,e,e',g,g',a,o,hb,hn,S,h,hQ => by
   cases cd<;>simp only[codeB,Bool.false_eq_true] at hb
   simp only[codeE] at h;cases h
   exact wp_ret (hQ c a (Evo.refl c) S)
 | .prim n f,cd,Q,c,e,e',g,g',a,o,hb,hn,S,h,hQ => by
   cases cd<;>simp only[codeB,Bool.false_eq_true] at hb
end
def resB (P:Program):List ResultVar→List ARes→Bool
 | [],[] => true
 | .tmp t :: rs,.t t' :: rs' => (t == t') && resB P rs rs'
 | .cell a t :: rs,.cell a' agg :: rs' => (a == a') && aggB P t agg && resB P rs rs'
 | _,_ => false
def funB (P:Program) (nm:Nat→Nat) (fn:Func) (A:AFun):Bool:=
 (match fn.body with
  | some cd => codeB P nm fn.ntmps cd A.body
  | none => false) && resB P fn.results.toList A.res && !(fn.name == "runtime.NumGoroutine")
def resVar (tmps:Array Value):ResultVar→Sem Value
 | .tmp t => pure (tmps.getD t undef)
 | .cell a t => do loadVar t (← asAddr (tmps.getD a undef))
theorem results_eq (fn:Func) (tmps:Array Value):results fn tmps = (fn.results.mapM (resVar tmps) >>= fun vs => pure (if h:vs.size = 1 then vs[0] else .tuple vs)):=by
 unfold results
 congr 1
theorem resB_ok {P:Program} {c:Cx} {e:Env} {a:Act} {g:G} (he:EnvOk c e a) (K:Ok c g.nx) (hg:c.hp = g.hp):∀ {rs:List ResultVar} {asx:List ARes} {vs:List AV},resB P rs asx = true→resAll e g asx = some vs→∃ us:List Value,(rs.mapM (resVar a.tmps)).run P c.w = .ok us c.w∧Reps c true vs us
 | [],[],vs,_,h => by
   simp only[resAll] at h;cases h
   exact ⟨[],rfl,Reps.nil⟩
 | .tmp t :: rs,.t t' :: asx,vs,hb,h => by
   simp only[resB,Bool.and_eq_true,beq_iff_eq] at hb
   obtain ⟨rfl,hb⟩:=hb
   simp only[resAll,resOne] at h
   split at h
   ·rename_i v vs' h1 h2
    cases h1;cases h
    obtain ⟨us,hu,hr⟩:=resB_ok he K hg hb h2
    refine ⟨a.tmps.getD t undef :: us,?_,Reps.cons (he t) hr⟩
    rw[List.mapM_cons,Sem.run_bind]
    show Result.andThen (.ok (a.tmps.getD t undef) c.w) _ = _
    rw[Result.andThen_ok,Sem.run_bind,hu]
    rfl
   ·cases h
 | .cell q t :: rs,.cell q' agg :: asx,vs,hb,h => by
   simp only[resB,Bool.and_eq_true,beq_iff_eq] at hb
   obtain ⟨⟨rfl,hagg⟩,hb⟩:=hb
   simp only[resAll] at h
   split at h
   ·rename_i v vs' h1 h2
    cases h
    obtain ⟨us,hu,hr⟩:=resB_ok he K hg hb h2
    simp only[resOne] at h1
    split at h1
    ·rename_i b off hq
     split at h1
     ·rename_i cs ro hbk
      have hrq:=he q
      rw[hq] at hrq
      have hv:=rep_mp hrq
      have hbk':c.hp b = some (.cells cs ro):=by rw[hg];exact hbk
      obtain ⟨_,ws,rs,ty,g2,g3,_⟩:=K.cells b cs ro hbk'
      obtain ⟨val,hrun,hval⟩:=run_loadVar_ab (P:=P) (w:=c.w) hagg g3 h1 (ad:=⟨(c.loc b).1,off,none⟩) (fun j u hu => by rw[add_mk,cell_of_heap g2,List.getElem?_toArray,List.getElem?_append_left (List.getElem?_eq_some_iff.1 hu).1];exact hu)
      refine ⟨val :: us,?_,Reps.cons hval hr⟩
      have hone:(resVar a.tmps (.cell q t)).run P c.w = .ok val c.w:=by
       simp only[resVar,hv]
       exact hrun
      rw[List.mapM_cons,Sem.run_bind,hone,Result.andThen_ok,Sem.run_bind,hu]
      rfl
     ·cases h1
    ·cases h1
   ·cases h
 | [],_ :: _,_,h,_ => by simp[resB] at h
 | .tmp _ :: _,[],_,h,_ => by simp[resB] at h
 | .tmp _ :: _,.cell _ _ :: _,_,h,_ => by simp[resB] at h
 | .cell _ _ :: _,[],_,h,_ => by simp[resB] at h
 | .cell _ _ :: _,.t _ :: _,_,h,_ => by simp[resB] at h
theorem res_ok {P:Program} {c:Cx} {e:Env} {a:Act} {g:G} (he:EnvOk c e a) (K:Ok c g.nx) (hg:c.hp = g.hp) {fn:Func} {asx:List ARes} {v:AV} (hb:resB P fn.results.toList asx = true) (h:resE asx e g = some v):∃ u,(results fn a.tmps).run P c.w = .ok u c.w∧Rep c true v u:=by
 unfold resE at h
 have key:∀ vs,resAll e g asx = some vs→∃ us:List Value,(results fn a.tmps).run P c.w = .ok (if h:us.toArray.size = 1 then us.toArray[0] else .tuple us.toArray) c.w∧Reps c true vs us:=by
  intro vs hv
  obtain ⟨us,hu,hr⟩:=resB_ok (P:=P) he K hg hb hv
  refine ⟨us,?_,hr⟩
  rw[results_eq,Array.mapM_eq_mapM_toList,Sem.run_bind,Sem.run_map,hu]
  rfl
 split at h
 ·rename_i v' hv
  cases h
  obtain ⟨us,hu,hr⟩:=key _ hv
  obtain ⟨u,us',rfl,h1,h2⟩:=Reps.cons_inv hr
  have:=Reps.nil_inv h2
  subst this
  exact ⟨u,by simpa using hu,h1⟩
 ·rename_i vs hne hv
  cases h
  obtain ⟨us,hu,hr⟩:=key _ hv
  refine ⟨_,hu,?_⟩
  rw[dif_neg]
  ·exact .tup us hr.1 hr.2
  ·intro hs
   have hl:vs.length = 1:=by rw[hr.1];simpa using hs
   match vs,hl,hne with
   | [v],_,hne => exact hne v rfl
 ·cases h
theorem argEnv_ok {c:Cx} {asx:List AV} {vs:List Value} (h:Reps c true asx vs) (n:Nat):EnvOk c (argEnv asx) { tmps:=vs.toArray ++ Array.replicate n undef,defers:=[] }:=by
 intro t
 unfold argEnv
 rw[List.getD_eq_getElem?_getD]
 show Rep c true _ ((vs.toArray ++ Array.replicate n undef).getD t undef)
 rw[Array.getD_eq_getD_getElem?,Array.getElem?_append]
 by_cases ht:t < vs.length
 ·rw[if_pos (by simpa using ht)]
  have ht':t < asx.length:=by rw[h.1];exact ht
  rw[List.getElem?_eq_getElem ht',List.getElem?_toArray,List.getElem?_eq_getElem ht]
  exact h.2 t _ _ (List.getElem?_eq_getElem ht') (List.getElem?_eq_getElem ht)
 ·rw[if_neg (by simpa using ht),List.getElem?_eq_none (by have:=h.1;omega)]
  rw[Array.getElem?_replicate]
  split<;>exact Rep.undef0
def PrimOk (P:Program) (num:Nat→Nat) (f:Nat) (A:AFun):Prop:=∃ n h,A.res = [.t 0]∧A.body = .prim n h∧(∃ fn,P.funcs[num f]? = some fn∧fn.body.isSome∧(fn.name == "runtime.NumGoroutine") = false) ∧
 ∀ asx g v g',asx.length = n→primE h ((List.range n).map (argEnv asx)) g = some (v,g')→∀ (c:Cx) (vargs:List Value),c.num = num→c.hp = g.hp→Ok c g.nx→Reps c true asx vargs →
   Calls P (num f) vargs.toArray c.w (fun en w' => ∃ val c',en = .returned val∧c'.w = w'∧Evo c c'∧Ok c' g'.nx∧c'.hp = g'.hp∧Rep c' true v val)
def Table (P:Program) (num:Nat→Nat) (F:Funs):Prop:=∀ f A,F f = some A→(∃ fn,P.funcs[num f]? = some fn∧funB P num fn A = true)∨PrimOk P num f A
theorem callE_ok {P:Program} {num:Nat→Nat} {F:Funs} (hT:Table P num F) (hm:P.follows .mixedOrders = true):∀ k,CallKeep (callE F k)∧CallOk P num (callE F k)
 | 0 => ⟨fun f asx g v g' h => by simp[callE] at h,fun f asx g v g' h => by simp[callE] at h⟩
 | k + 1 => by
   obtain ⟨hk,hcall⟩:=callE_ok hT hm k
   have keep:CallKeep (callE F (k + 1)):=by
    intro f asx g v g' h
    simp only[callE] at h
    split at h
    ·cases h
    ·rename_i fn hF
     cases har:arB fn asx with
     | false => rw[har] at h;cases h
     | true =>
     rw[har] at h
     simp only at h
     split at h
     ·rename_i e1 g1 h1
      have:=codeE_keep hk k _ h1
      cases hr:resE fn.res e1 g1 with
      | none => rw[hr] at h;cases h
      | some x => rw[hr] at h;cases h;exact this
     ·rename_i e1 g1 h1
      have:=codeE_keep hk k _ h1
      cases hr:resE fn.res e1 g1 with
      | none => rw[hr] at h;cases h
      | some x => rw[hr] at h;cases h;exact this
     ·cases h
   refine ⟨keep,fun f asx g v g' h => ⟨keep f asx g v g' h,fun c vargs hn hg K hr => ?_⟩⟩
   simp only[callE] at h
   split at h
   ·cases h
   ·rename_i A hF
    cases har:arB A asx with
    | false => rw[har] at h;cases h
    | true =>
    rw[har] at h
    simp only at h
    rcases hT f A hF with ⟨fn,hfn,hb⟩ | ⟨n,h0,hres,hbody,hfn,hok⟩
    case inr =>
     refine ⟨?_,hfn⟩
     have hlen:asx.length = n:=by
      unfold arB at har
      rw[hbody] at har
      simpa using har
     rw[hres,hbody] at h
     simp only[codeE] at h
     cases hp:primE h0 ((List.range n).map (argEnv asx)) g with
     | none => rw[hp] at h;cases h
     | some r =>
       obtain ⟨v1,g1⟩:=r
       rw[hp] at h
       have h:some (upd (argEnv asx) 0 v1 0,g1) = some (v,g'):=h
       simp only[upd,if_true] at h
       cases h
       exact hok asx g _ _ hlen hp c vargs hn hg K hr
    simp only[funB,Bool.and_eq_true,Bool.not_eq_true'] at hb
    obtain ⟨⟨hb1,hb2⟩,hb3⟩:=hb
    split at hb1
    ·rename_i cd hbody
     refine ⟨?_,fn,hfn,by rw[hbody];rfl,hb3⟩
     have S:St fn.ntmps c (argEnv asx) g { tmps:=vargs.toArray ++ Array.replicate (fn.ntmps - vargs.toArray.size) undef,defers:=[] }:=
      ⟨argEnv_ok hr _,K,hg,by simp;omega,rfl⟩
     have fin:∀ o e1 g1,(o = .nrm∨o = .ret)→codeE (callE F k) k A.body (argEnv asx) g = some (o,e1,g1)→(resE A.res e1 g1).map (·,g1) = some (v,g')→Calls P (num f) vargs.toArray c.w (fun en w' => ∃ val c',en = .returned val∧c'.w = w'∧Evo c c'∧Ok c' g'.nx∧c'.hp = g'.hp∧Rep c' true v val):=by
      intro o e1 g1 ho h1 h2
      cases hre:resE A.res e1 g1 with
      | none => rw[hre] at h2;cases h2
      | some x =>
        rw[hre] at h2;cases h2
        refine calls_of_wp hfn hbody (code_wp hcall hk hm k A.body hb1 hn S h1 fun c' a' E S' => ?_)
        obtain ⟨u,hu,hru⟩:=res_ok (P:=P) S'.env S'.ok S'.hp hb2 hre
        have:a'.defers = []∧∃ v',(results fn a'.tmps).run P c'.w = .ok v' c'.w∧(fun (en:Ending) (w':World) => ∃ val c'',en = .returned val∧c''.w = w'∧Evo c c''∧Ok c'' g'.nx∧c''.hp = g'.hp∧Rep c'' true v val) (.returned v') c'.w:=
         ⟨S'.defers,u,hu,u,c',rfl,rfl,E,S'.ok,S'.hp,hru⟩
        rcases ho with rfl | rfl
        ·exact this
        ·exact this
     split at h
     ·rename_i e1 g1 h1;exact fin .nrm e1 g1 (.inl rfl) h1 h
     ·rename_i e1 g1 h1;exact fin .ret e1 g1 (.inr rfl) h1 h
     ·cases h
    ·cases hb1
end Go.Ab
end
section
namespace Go.Ab
def A_math_bits_Len:AFun:={ res:=[.t 2],body:=(.seq (.reg false [qo 2 (.mv (.c (.i .i64 0)))])
 (.seq (.cond (.c (.b false)) (.seq (.reg false [qm 3 0,qo 4 (.conv .u32 (.t 3)),qo 5 (.call .pure (.c (.fn 432 [] [])) [.t 4]),qm 2 5])
 .ret)
 .skip)
 (.seq (.reg false [qm 6 0,qo 7 (.call .pure (.c (.fn 433 [] [])) [.t 6]),qm 2 7])
 .ret))) }
def A_math_bits_Len32:AFun:={ res:=[.t 2],body:=(.seq (.reg false [qo 2 (.mv (.c (.i .i64 0)))])
 (.seq (.seq (.reg false [qm 3 0,qo 4 (.bin .geq (.t 3) (.c (.i .u32 65536)))])
 (.cond (.t 4) (.seq (.reg false [qm 5 0,qo 6 (.bin .shr (.t 5) (.c (.i .u64 16))),qm 0 6])
 (.reg false [qo 2 (.mv (.c (.i .i64 16)))]))
 .skip))
 (.seq (.seq (.reg false [qm 7 0,qo 8 (.bin .geq (.t 7) (.c (.i .u32 256)))])
 (.cond (.t 8) (.seq (.reg false [qm 9 0,qo 10 (.bin .shr (.t 9) (.c (.i .u64 8))),qm 0 10])
 (.reg false [qm 11 2,qo 12 (.bin .add (.t 11) (.c (.i .i64 8))),qm 2 12]))
 .skip))
 (.seq (.reg false [qm 13 2,qm 14 0,qo 15 (.conv .u8 (.t 14)),qo 16 (.sidx (.c (.s ⟨#[0,1,2,2,3,3,3,3,4,4,4,4,4,4,4,4,5,5,5,5,5,5,5,5,5,5,5,5,5,5,5,5,6,6,6,6,6,6,6,6,6,6,6,6,6,6,6,6,6,6,6,6,6,6,6,6,6,6,6,6,6,6,6,6,7,7,7,7,7,7,7,7,7,7,7,7,7,7,7,7,7,7,7,7,7,7,7,7,7,7,7,7,7,7,7,7,7,7,7,7,7,7,7,7,7,7,7,7,7,7,7,7,7,7,7,7,7,7,7,7,7,7,7,7,7,7,7,7,8,8,8,8,8,8,8,8,8,8,8,8,8,8,8,8,8,8,8,8,8,8,8,8,8,8,8,8,8,8,8,8,8,8,8,8,8,8,8,8,8,8,8,8,8,8,8,8,8,8,8,8,8,8,8,8,8,8,8,8,8,8,8,8,8,8,8,8,8,8,8,8,8,8,8,8,8,8,8,8,8,8,8,8,8,8,8,8,8,8,8,8,8,8,8,8,8,8,8,8,8,8,8,8,8,8,8,8,8,8,8,8,8,8,8,8,8,8,8,8,8,8,8,8,8,8,8,8]⟩)) (.t 15)),qo 17 (.conv .i64 (.t 16)),qo 18 (.bin .add (.t 13) (.t 17)),qm 2 18])
 .ret)))) }
def A_math_bits_Len64:AFun:={ res:=[.t 2],body:=(.seq (.reg false [qo 2 (.mv (.c (.i .i64 0)))])
 (.seq (.seq (.reg false [qm 3 0,qo 4 (.bin .geq (.t 3) (.c (.i .u64 4294967296)))])
 (.cond (.t 4) (.seq (.reg false [qm 5 0,qo 6 (.bin .shr (.t 5) (.c (.i .u64 32))),qm 0 6])
 (.reg false [qo 2 (.mv (.c (.i .i64 32)))]))
 .skip))
 (.seq (.seq (.reg false [qm 7 0,qo 8 (.bin .geq (.t 7) (.c (.i .u64 65536)))])
 (.cond (.t 8) (.seq (.reg false [qm 9 0,qo 10 (.bin .shr (.t 9) (.c (.i .u64 16))),qm 0 10])
 (.reg false [qm 11 2,qo 12 (.bin .add (.t 11) (.c (.i .i64 16))),qm 2 12]))
 .skip))
 (.seq (.seq (.reg false [qm 13 0,qo 14 (.bin .geq (.t 13) (.c (.i .u64 256)))])
 (.cond (.t 14) (.seq (.reg false [qm 15 0,qo 16 (.bin .shr (.t 15) (.c (.i .u64 8))),qm 0 16])
 (.reg false [qm 17 2,qo 18 (.bin .add (.t 17) (.c (.i .i64 8))),qm 2 18]))
 .skip))
 (.seq (.reg false [qm 19 2,qm 20 0,qo 21 (.conv .u8 (.t 20)),qo 22 (.sidx (.c (.s ⟨#[0,1,2,2,3,3,3,3,4,4,4,4,4,4,4,4,5,5,5,5,5,5,5,5,5,5,5,5,5,5,5,5,6,6,6,6,6,6,6,6,6,6,6,6,6,6,6,6,6,6,6,6,6,6,6,6,6,6,6,6,6,6,6,6,7,7,7,7,7,7,7,7,7,7,7,7,7,7,7,7,7,7,7,7,7,7,7,7,7,7,7,7,7,7,7,7,7,7,7,7,7,7,7,7,7,7,7,7,7,7,7,7,7,7,7,7,7,7,7,7,7,7,7,7,7,7,7,7,8,8,8,8,8,8,8,8,8,8,8,8,8,8,8,8,8,8,8,8,8,8,8,8,8,8,8,8,8,8,8,8,8,8,8,8,8,8,8,8,8,8,8,8,8,8,8,8,8,8,8,8,8,8,8,8,8,8,8,8,8,8,8,8,8,8,8,8,8,8,8,8,8,8,8,8,8,8,8,8,8,8,8,8,8,8,8,8,8,8,8,8,8,8,8,8,8,8,8,8,8,8,8,8,8,8,8,8,8,8,8,8,8,8,8,8,8,8,8,8,8,8,8,8,8,8,8,8]⟩)) (.t 21)),qo 23 (.conv .i64 (.t 22)),qo 24 (.bin .add (.t 19) (.t 23)),qm 2 24])
 .ret))))) }
end Go.Ab
end
section
namespace Go.Ab
def A_cmp_Compare_int:AFun:={ res:=[.t 4],body:=(.seq (.reg false [qo 4 (.mv (.c (.i .i64 0)))])
 (.seq (.reg false [qm 7 0,qo 8 (.call .pure (.c (.fn 266 [] [])) [.t 7]),qm 5 8])
 (.seq (.reg false [qm 9 1,qo 10 (.call .pure (.c (.fn 266 [] [])) [.t 9]),qm 6 10])
 (.seq (.seq (.reg false [qm 11 5])
 (.cond (.t 11) (.seq (.seq (.reg false [qm 12 6])
 (.cond (.t 12) (.seq (.reg false [qo 4 (.mv (.c (.i .i64 0)))])
 .ret)
 .skip))
 (.seq (.reg false [qo 4 (.mv (.c (.i .i64 (-1))))])
 .ret))
 .skip))
 (.seq (.seq (.reg false [qm 13 6])
 (.cond (.t 13) (.seq (.reg false [qo 4 (.mv (.c (.i .i64 1)))])
 .ret)
 .skip))
 (.seq (.seq (.reg false [qm 14 0,qm 15 1,qo 16 (.bin .lss (.t 14) (.t 15))])
 (.cond (.t 16) (.seq (.reg false [qo 4 (.mv (.c (.i .i64 (-1))))])
 .ret)
 .skip))
 (.seq (.seq (.reg false [qm 17 0,qm 18 1,qo 19 (.bin .gtr (.t 17) (.t 18))])
 (.cond (.t 19) (.seq (.reg false [qo 4 (.mv (.c (.i .i64 1)))])
 .ret)
 .skip))
 (.seq (.reg false [qo 4 (.mv (.c (.i .i64 0)))])
 .ret)))))))) }
def A_cmp_Or_int:AFun:={ res:=[.t 2],body:=(.seq (.reg false [qo 2 (.mv (.c (.i .i64 0)))])
 (.seq (.reg false [qo 3 (.mv (.c (.i .i64 0)))])
 (.seq (.seq (.reg false [qm 6 0,qo 7 (.len (.t 6)),qo 8 (.mv (.c (.i .i64 0)))])
 (.blk 0 (.loop (.seq (.reg false [qo 9 (.bin .lss (.t 8) (.t 7))])
 (.seq (.cond (.t 9) .skip
 (.ext 0))
 (.seq (.blk 1 (.seq (.reg false [qo 10 (.ia 1 (.t 6) (.t 8)),qo 11 (.ld none (.t 10)),qm 5 11])
 (.seq (.reg false [qm 12 5,qm 13 3,qo 14 (.bin .neq (.t 12) (.t 13))])
 (.cond (.t 14) (.seq (.reg false [qm 15 5,qm 2 15])
 .ret)
 .skip))))
 (.reg false [qo 16 (.bin .add (.t 8) (.c (.i .i64 1))),qm 8 16])))))))
 (.seq (.reg false [qm 17 3,qm 2 17])
 .ret)))) }
def A_cmp_isNaN_int:AFun:={ res:=[.t 2],body:=(.seq (.reg false [qo 2 (.mv (.c (.b false)))])
 (.seq (.reg false [qm 3 0,qm 4 0,qo 5 (.bin .neq (.t 3) (.t 4)),qm 2 5])
 .ret)) }
def A_cmp_Less_int:AFun:={ res:=[.t 4],body:=(.seq (.reg false [qo 4 (.mv (.c (.b false)))])
 (.seq (.reg false [qm 5 0,qo 6 (.call .pure (.c (.fn 266 [] [])) [.t 5]),qm 7 6,qg 8 (.mv (.t 1)) 7 true,qg 9 (.call .pure (.c (.fn 266 [] [])) [.t 8]) 7 true,qg 10 (.un .not (.t 9)) 7 true,qo 11 (.pick (.t 7) (.t 10) (.c (.b false))),qm 12 11,qg 13 (.mv (.t 0)) 12 false,qg 14 (.mv (.t 1)) 12 false,qg 15 (.bin .lss (.t 13) (.t 14)) 12 false,qo 16 (.pick (.t 12) (.c (.b true)) (.t 15)),qm 4 16])
 .ret)) }
structure Pk_cmp (F:Funs):Prop where
 cmp_Compare_int:F 248 = some A_cmp_Compare_int
 cmp_Or_int:F 249 = some A_cmp_Or_int
 cmp_isNaN_int:F 266 = some A_cmp_isNaN_int
end Go.Ab
end
section
namespace Go.Ab
def A_xlaw00_Place:AFun:={ res:=[.t 4],body:=(.seq (.reg false [qo 4 (.mv (.c (.i .i64 0)))])
 (.seq (.reg false [qm 6 0,qm 7 1,qo 8 (.bin .rem (.t 6) (.t 7)),qm 5 8])
 (.seq (.seq (.reg false [qm 9 5,qo 10 (.bin .lss (.t 9) (.c (.i .i64 0)))])
 (.cond (.t 10) (.reg false [qm 11 5,qm 12 1,qo 13 (.bin .add (.t 11) (.t 12)),qm 5 13])
 .skip))
 (.seq (.reg false [qm 14 5,qm 4 14])
 .ret)))) }
def A_xlaw00_Prog:AFun:={ res:=[.cell 6 (some 2)],body:=(.seq (.reg false [qo 6 (.new ([.i .i64 0,.sl [] 0 .rig]))])
 (.seq (.reg false [qm 14 1,qo 15 (.mksl ([.sl [] 0 .rig]) 1 24 (.t 14) (.t 14)),qo 16 (.build ([.i .i64 0,.sl [] 0 .rig]) [(0,1,.c (.i .i64 2)),(1,1,.t 15)]),qo 7 (.new ([.i .i64 0,.sl [] 0 .rig])),qn (.st 2 (.t 7) (.t 16))])
 (.seq (.seq (.reg false [qo 8 (.mv (.c (.i .i64 0)))])
 (.blk 0 (.loop (.seq (.seq (.reg false [qm 17 8,qm 18 1,qo 19 (.bin .lss (.t 17) (.t 18))])
 (.cond (.t 19) .skip
 (.ext 0)))
 (.seq (.blk 1 (.seq (.reg false [qo 9 (.mv (.c (.i .i64 0))),qo 10 (.mv (.c (.i .i64 0)))])
 (.seq (.seq (.reg false [qm 22 8,qm 11 22])
 (.blk 2 (.loop (.seq (.seq (.reg false [qm 23 11,qm 24 0,qo 25 (.len (.t 24)),qo 26 (.bin .lss (.t 23) (.t 25)),qm 27 26,qg 28 (.mv (.t 9)) 27 true,qg 29 (.mv (.t 2)) 27 true,qg 30 (.bin .lss (.t 28) (.t 29)) 27 true,qo 31 (.pick (.t 27) (.t 30) (.c (.b false)))])
 (.cond (.t 31) .skip
 (.ext 2)))
 (.seq (.blk 3 (.reg false [qm 35 9,qo 36 (.bin .add (.t 35) (.c (.i .i64 1))),qm 9 36]))
 (.reg false [qm 32 11,qm 33 1,qo 34 (.bin .add (.t 32) (.t 33)),qm 11 34]))))))
 (.seq (.reg false [qo 12 (.mv (.c (.i .i64 0)))])
 (.blk 4 (.loop (.seq (.seq (.reg false [qm 37 12,qm 38 9,qo 39 (.bin .lss (.t 37) (.t 38))])
 (.cond (.t 39) .skip
 (.ext 4)))
 (.seq (.blk 5 (.seq (.reg true [qm 42 0,qm 43 8,qm 44 12,qm 45 1,qo 46 (.bin .mul (.t 44) (.t 45)),qo 47 (.bin .add (.t 43) (.t 46)),qo 48 (.ia 1 (.t 42) (.t 47)),qo 49 (.ld none (.t 48)),qo 50 (.fa 0 (.t 7)),qo 51 (.ld none (.t 50)),qm 52 9,qo 53 (.bin .sub (.t 52) (.c (.i .i64 1))),qm 54 12,qo 55 (.bin .sub (.t 53) (.t 54)),qo 56 (.call .pure (.c (.fn 97 [] [])) [.t 49,.t 51,.t 55]),qo 13 (.new (List.replicate 5 (.i .i64 0) ++ [.sl [] 0 .rig,.i .i64 0])),qnp (.stL 7 (.t 13) (.t 56)) [15]])
 (.seq (.seq (.reg false [qo 57 (.fa 0 (.t 13)),qo 58 (.ld none (.t 57)),qo 59 (.bin .eql (.t 58) (.c (.i .i64 6)))])
 (.cond (.t 59) (.seq (.reg false [qm 60 10,qo 61 (.bin .add (.t 60) (.c (.i .i64 1))),qm 10 61])
 (.seq (.reg false [qm 62 10,qo 63 (.bin .gtr (.t 62) (.c (.i .i64 2)))])
 (.cond (.t 63) (.reg false [qo 64 (.build (List.replicate 5 (.i .i64 0) ++ [.sl [] 0 .rig,.i .i64 0]) [(0,1,.c (.i .i64 3)),(1,1,.c (.i .i64 4))]),qn (.st 7 (.t 13) (.t 64))])
 .skip)))
 .skip))
 (.reg true [qo 65 (.fa 1 (.t 7)),qo 66 (.ld none (.t 65)),qm 67 8,qo 68 (.fa 1 (.t 7)),qo 69 (.ld none (.t 68)),qm 70 8,qo 71 (.ia 1 (.t 69) (.t 70)),qo 72 (.ld none (.t 71)),qo 73 (.ld (some 7) (.t 13)),qo 74 (.bsl true 1 (List.replicate 5 (.i .i64 0) ++ [.sl [] 0 .rig,.i .i64 0]) [(0,7,.t 73)]),qo 75 (.app 7 72 (.t 72) (.t 74)),qo 76 (.ia 1 (.t 66) (.t 67)),qnp (.st 1 (.t 76) (.t 75)) [10]]))))
 (.reg false [qm 40 12,qo 41 (.bin .add (.t 40) (.c (.i .i64 1))),qm 12 41])))))))))
 (.reg false [qm 20 8,qo 21 (.bin .add (.t 20) (.c (.i .i64 1))),qm 8 21]))))))
 (.seq (.reg false [qo 77 (.ld (some 2) (.t 7)),qn (.st 2 (.t 6) (.t 77))])
 .ret)))) }
def A_xlaw00_Instr:AFun:={ res:=[.cell 6 (some 7)],body:=(.seq (.reg false [qo 6 (.new (List.replicate 5 (.i .i64 0) ++ [.sl [] 0 .rig,.i .i64 0]))])
 (.seq (.reg false [qm 15 0,qo 16 (.call .pure (.c (.fn 10 [] [])) [.t 15,.c (.i .i64 1099511627776)]),qm 7 16])
 (.seq (.reg false [qm 17 7,qo 18 (.bin .quo (.t 17) (.c (.i .i64 20))),qm 8 18])
 (.seq (.reg true [qm 19 8,qo 20 (.bin .rem (.t 19) (.c (.i .i64 3))),qm 21 8,qo 22 (.bin .quo (.t 21) (.c (.i .i64 3))),qm 23 1,qo 24 (.bin .rem (.t 22) (.t 23)),qm 25 8,qo 26 (.bin .quo (.t 25) (.c (.i .i64 12))),qo 27 (.call .pure (.c (.fn 107 [] [])) [.t 26]),qm 9 20,qm 10 24,qm 11 27])
 (.seq (.reg true [qo 28 (.build ([.i .i64 0,.i .i64 0,.i .i64 0]) [(0,1,.c (.i .i64 0)),(1,1,.c (.i .i64 0)),(2,1,.c (.i .i64 1))]),qm 29 8,qo 30 (.bin .quo (.t 29) (.c (.i .i64 7))),qo 31 (.bin .rem (.t 30) (.c (.i .i64 3))),qo 32 (.idx 3 1 none (.t 28) (.t 31)),qo 33 (.build ([.i .i64 0,.i .i64 0,.i .i64 0]) [(0,1,.c (.i .i64 0)),(1,1,.c (.i .i64 0)),(2,1,.c (.i .i64 2))]),qm 34 8,qo 35 (.bin .quo (.t 34) (.c (.i .i64 11))),qo 36 (.bin .rem (.t 35) (.c (.i .i64 3))),qo 37 (.idx 3 1 none (.t 33) (.t 36)),qm 12 32,qm 13 37])
 (.seq (.seq (.reg false [qm 38 7,qo 39 (.bin .rem (.t 38) (.c (.i .i64 20))),qm 14 39])
 (.blk 0 (.seq (.reg false [qm 41 14,qo 42 (.bin .lss (.t 41) (.c (.i .i64 6))),qm 40 42])
 (.cond (.t 40) (.seq (.reg false [qm 43 9,qm 44 10,qm 45 12,qo 46 (.build (List.replicate 5 (.i .i64 0) ++ [.sl [] 0 .rig,.i .i64 0]) [(0,1,.c (.i .i64 1)),(3,1,.t 43),(4,1,.t 44),(1,1,.t 45)]),qn (.st 7 (.t 6) (.t 46))])
 .ret)
 (.seq (.reg false [qm 48 14,qo 49 (.bin .lss (.t 48) (.c (.i .i64 12))),qm 47 49])
 (.cond (.t 47) (.seq (.reg false [qm 50 10,qm 51 13,qm 52 11,qo 53 (.build (List.replicate 5 (.i .i64 0) ++ [.sl [] 0 .rig,.i .i64 0]) [(0,1,.c (.i .i64 2)),(4,1,.t 50),(1,1,.t 51),(5,1,.t 52)]),qn (.st 7 (.t 6) (.t 53))])
 .ret)
 (.seq (.reg false [qm 55 14,qo 56 (.bin .lss (.t 55) (.c (.i .i64 15))),qm 54 56])
 (.cond (.t 54) (.seq (.reg false [qm 57 8,qo 58 (.bin .quo (.t 57) (.c (.i .i64 5))),qo 59 (.bin .rem (.t 58) (.c (.i .i64 4))),qo 60 (.bin .add (.c (.i .i64 1)) (.t 59)),qo 61 (.build (List.replicate 5 (.i .i64 0) ++ [.sl [] 0 .rig,.i .i64 0]) [(0,1,.c (.i .i64 3)),(1,1,.t 60)]),qn (.st 7 (.t 6) (.t 61))])
 .ret)
 (.seq (.reg false [qm 63 14,qo 64 (.bin .lss (.t 63) (.c (.i .i64 16))),qm 62 64])
 (.cond (.t 62) (.seq (.reg false [qm 65 9,qm 66 10,qm 67 12,qm 68 13,qm 69 8,qo 70 (.bin .quo (.t 69) (.c (.i .i64 17))),qo 71 (.bin .rem (.t 70) (.c (.i .i64 2))),qo 72 (.call .pure (.c (.fn 108 [] [])) [.t 71]),qo 73 (.bsl true 1 ([.i .i64 0,.i .i64 0]) [(0,2,.t 72)]),qo 74 (.build (List.replicate 5 (.i .i64 0) ++ [.sl [] 0 .rig,.i .i64 0]) [(0,1,.c (.i .i64 4)),(3,1,.t 65),(4,1,.t 66),(1,1,.t 67),(2,1,.t 68),(5,1,.t 73)]),qn (.st 7 (.t 6) (.t 74))])
 .ret)
 (.seq (.reg false [qm 76 14,qo 77 (.bin .lss (.t 76) (.c (.i .i64 18))),qm 75 77])
 (.cond (.t 75) (.seq (.reg false [qm 78 9,qm 79 11,qo 80 (.build (List.replicate 5 (.i .i64 0) ++ [.sl [] 0 .rig,.i .i64 0]) [(0,1,.c (.i .i64 5)),(3,1,.t 78),(5,1,.t 79)]),qn (.st 7 (.t 6) (.t 80))])
 .ret)
 .skip))))))))))))
 (.seq (.reg false [qm 81 8,qo 82 (.bin .quo (.t 81) (.c (.i .i64 19))),qm 83 2,qo 84 (.bin .add (.t 83) (.c (.i .i64 1))),qo 85 (.bin .rem (.t 82) (.t 84)),qm 86 11,qo 87 (.build (List.replicate 5 (.i .i64 0) ++ [.sl [] 0 .rig,.i .i64 0]) [(0,1,.c (.i .i64 6)),(6,1,.t 85),(5,1,.t 86)]),qn (.st 7 (.t 6) (.t 87))])
 .ret))))))) }
def A_xlaw00_Expr:AFun:={ res:=[.t 2],body:=(.seq (.reg false [qo 2 (.mv (.c (.sl [] 0 .rig)))])
 (.seq (.reg false [qm 6 0,qo 7 (.call .pure (.c (.fn 10 [] [])) [.t 6,.c (.i .i64 1073741824)]),qm 3 7])
 (.seq (.reg false [qm 8 3,qo 9 (.bin .quo (.t 8) (.c (.i .i64 10))),qo 10 (.bin .rem (.t 9) (.c (.i .i64 3))),qo 11 (.call .pure (.c (.fn 123 [] [])) [.t 10]),qm 12 3,qo 13 (.bin .quo (.t 12) (.c (.i .i64 30))),qo 14 (.bin .rem (.t 13) (.c (.i .i64 3))),qo 15 (.call .pure (.c (.fn 108 [] [])) [.t 14]),qo 4 (.new ([.i .i64 0,.i .i64 0])),qo 5 (.new ([.i .i64 0,.i .i64 0])),qn (.st 2 (.t 4) (.t 11)),qn (.st 2 (.t 5) (.t 15))])
 (.seq (.seq (.reg false [qm 16 3,qo 17 (.bin .rem (.t 16) (.c (.i .i64 10)))])
 (.blk 0 (.seq (.seq (.reg false [qo 19 (.bin .eql (.t 17) (.c (.i .i64 0))),qm 18 19])
 (.cond (.t 18) .skip
 (.seq (.reg false [qo 20 (.bin .eql (.t 17) (.c (.i .i64 1))),qm 18 20])
 (.cond (.t 18) .skip
 (.reg false [qo 21 (.bin .eql (.t 17) (.c (.i .i64 2))),qm 18 21])))))
 (.cond (.t 18) (.seq (.reg false [qo 22 (.ld (some 2) (.t 5)),qo 23 (.bsl true 1 ([.i .i64 0,.i .i64 0]) [(0,2,.t 22)]),qm 2 23])
 .ret)
 (.seq (.seq (.reg false [qo 25 (.bin .eql (.t 17) (.c (.i .i64 3))),qm 24 25])
 (.cond (.t 24) .skip
 (.seq (.reg false [qo 26 (.bin .eql (.t 17) (.c (.i .i64 4))),qm 24 26])
 (.cond (.t 24) .skip
 (.reg false [qo 27 (.bin .eql (.t 17) (.c (.i .i64 5))),qm 24 27])))))
 (.cond (.t 24) (.seq (.reg false [qo 28 (.ld (some 2) (.t 4)),qo 29 (.bsl true 1 ([.i .i64 0,.i .i64 0]) [(0,2,.t 28)]),qm 2 29])
 .ret)
 (.seq (.reg false [qo 31 (.bin .eql (.t 17) (.c (.i .i64 6))),qm 30 31])
 (.cond (.t 30) (.seq (.reg true [qo 32 (.ld (some 2) (.t 4)),qo 33 (.ld (some 2) (.t 4)),qo 34 (.call .pure (.c (.fn 124 [] [])) [.c (.i .i64 4)]),qo 35 (.bsl true 3 (List.replicate 6 (.i .i64 0)) [(0,2,.t 32),(2,2,.t 33),(4,2,.t 34)]),qm 2 35])
 .ret)
 (.seq (.reg false [qo 37 (.bin .eql (.t 17) (.c (.i .i64 7))),qm 36 37])
 (.cond (.t 36) (.seq (.reg true [qo 38 (.ld (some 2) (.t 4)),qo 39 (.ld (some 2) (.t 5)),qo 40 (.call .pure (.c (.fn 124 [] [])) [.c (.i .i64 5)]),qo 41 (.bsl true 3 (List.replicate 6 (.i .i64 0)) [(0,2,.t 38),(2,2,.t 39),(4,2,.t 40)]),qm 2 41])
 .ret)
 (.seq (.reg false [qo 43 (.bin .eql (.t 17) (.c (.i .i64 8))),qm 42 43])
 (.cond (.t 42) (.seq (.reg true [qo 44 (.ld (some 2) (.t 4)),qo 45 (.ld (some 2) (.t 5)),qo 46 (.call .pure (.c (.fn 124 [] [])) [.c (.i .i64 6)]),qo 47 (.bsl true 3 (List.replicate 6 (.i .i64 0)) [(0,2,.t 44),(2,2,.t 45),(4,2,.t 46)]),qm 2 47])
 .ret)
 .skip))))))))))))
 (.seq (.reg true [qo 48 (.ld (some 2) (.t 5)),qo 49 (.call .pure (.c (.fn 108 [] [])) [.c (.i .i64 1)]),qo 50 (.call .pure (.c (.fn 124 [] [])) [.c (.i .i64 3)]),qo 51 (.bsl true 3 (List.replicate 6 (.i .i64 0)) [(0,2,.t 48),(2,2,.t 49),(4,2,.t 50)]),qm 2 51])
 .ret))))) }
def A_xlaw00_num:AFun:={ res:=[.cell 2 (some 2)],body:=(.seq (.reg false [qo 2 (.new ([.i .i64 0,.i .i64 0]))])
 (.seq (.reg false [qm 3 0,qo 4 (.build ([.i .i64 0,.i .i64 0]) [(0,1,.c (.i .i64 1)),(1,1,.t 3)]),qn (.st 2 (.t 2) (.t 4))])
 .ret)) }
def A_xlaw00_reg:AFun:={ res:=[.cell 2 (some 2)],body:=(.seq (.reg false [qo 2 (.new ([.i .i64 0,.i .i64 0]))])
 (.seq (.reg false [qm 3 0,qo 4 (.build ([.i .i64 0,.i .i64 0]) [(0,1,.c (.i .i64 2)),(1,1,.t 3)]),qn (.st 2 (.t 2) (.t 4))])
 .ret)) }
def A_xlaw00_op:AFun:={ res:=[.cell 2 (some 2)],body:=(.seq (.reg false [qo 2 (.new ([.i .i64 0,.i .i64 0]))])
 (.seq (.reg false [qm 3 0,qo 4 (.build ([.i .i64 0,.i .i64 0]) [(0,1,.c (.i .i64 3)),(1,1,.t 3)]),qn (.st 2 (.t 2) (.t 4))])
 .ret)) }
def A_xlaw00_FewProg:AFun:={ res:=[.t 2],body:=(.seq (.reg false [qo 1 (.box (.t 0)),qo 2 (.mv (.c (.b false)))])
 (.seq (.seq (.reg false [qo 3 (.mv (.c (.i .i64 0)))])
 (.blk 0 (.loop (.seq (.seq (.reg false [qm 5 3,qo 6 (.fa 1 (.t 1)),qo 7 (.ld none (.t 6)),qo 8 (.len (.t 7)),qo 9 (.bin .lss (.t 5) (.t 8)),qm 10 9,qg 11 (.mv (.t 3)) 10 true,qg 12 (.bin .lss (.t 11) (.c (.i .i64 6))) 10 true,qo 13 (.pick (.t 10) (.t 12) (.c (.b false)))])
 (.cond (.t 13) .skip
 (.ext 0)))
 (.seq (.blk 1 (.seq (.seq (.reg false [qo 4 (.mv (.c (.i .i64 0)))])
 (.blk 2 (.loop (.seq (.seq (.reg false [qm 16 4,qo 17 (.fa 1 (.t 1)),qo 18 (.ld none (.t 17)),qm 19 3,qo 20 (.ia 1 (.t 18) (.t 19)),qo 21 (.ld none (.t 20)),qo 22 (.len (.t 21)),qo 23 (.bin .lss (.t 16) (.t 22)),qm 24 23,qg 25 (.mv (.t 4)) 24 true,qg 26 (.bin .lss (.t 25) (.c (.i .i64 16))) 24 true,qo 27 (.pick (.t 24) (.t 26) (.c (.b false)))])
 (.cond (.t 27) .skip
 (.ext 2)))
 (.seq (.blk 3 (.seq (.reg false [qo 30 (.fa 1 (.t 1)),qo 31 (.ld none (.t 30)),qm 32 3,qo 33 (.ia 1 (.t 31) (.t 32)),qo 34 (.ld none (.t 33)),qm 35 4,qo 36 (.ia 7 (.t 34) (.t 35)),qo 37 (.fa 5 (.t 36)),qo 38 (.ld none (.t 37)),qo 39 (.len (.t 38)),qo 40 (.bin .gtr (.t 39) (.c (.i .i64 12)))])
 (.cond (.t 40) (.seq (.reg false [qo 2 (.mv (.c (.b false)))])
 .ret)
 .skip)))
 (.reg false [qm 28 4,qo 29 (.bin .add (.t 28) (.c (.i .i64 1))),qm 4 29]))))))
 (.seq (.reg false [qo 41 (.fa 1 (.t 1)),qo 42 (.ld none (.t 41)),qm 43 3,qo 44 (.ia 1 (.t 42) (.t 43)),qo 45 (.ld none (.t 44)),qo 46 (.len (.t 45)),qo 47 (.bin .gtr (.t 46) (.c (.i .i64 16)))])
 (.cond (.t 47) (.seq (.reg false [qo 2 (.mv (.c (.b false)))])
 .ret)
 .skip))))
 (.reg false [qm 14 3,qo 15 (.bin .add (.t 14) (.c (.i .i64 1))),qm 3 15]))))))
 (.seq (.reg false [qo 48 (.fa 1 (.t 1)),qo 49 (.ld none (.t 48)),qo 50 (.len (.t 49)),qo 51 (.bin .leq (.t 50) (.c (.i .i64 6))),qm 2 51])
 .ret))) }
def A_xlaw00_Step:AFun:={ res:=[.cell 4 (some 4)],body:=(.seq (.reg false [qo 4 (.new (List.replicate 4 (.i .i64 0)))])
 (.seq (.reg false [qm 7 0,qo 8 (.call .pure (.c (.fn 10 [] [])) [.t 7,.c (.i .i64 1073741824)]),qm 5 8])
 (.seq (.reg false [qm 9 5,qo 10 (.bin .rem (.t 9) (.c (.i .i64 8))),qo 11 (.bin .add (.c (.i .i64 1)) (.t 10)),qm 12 5,qo 13 (.bin .quo (.t 12) (.c (.i .i64 8))),qm 14 1,qo 15 (.bin .rem (.t 13) (.t 14)),qm 16 5,qo 17 (.bin .quo (.t 16) (.c (.i .i64 64))),qo 18 (.bin .rem (.t 17) (.c (.i .i64 5))),qo 19 (.build (List.replicate 4 (.i .i64 0)) [(0,1,.t 11),(1,1,.t 15),(2,1,.t 18)]),qo 6 (.new (List.replicate 4 (.i .i64 0))),qn (.st 4 (.t 6) (.t 19))])
 (.seq (.seq (.reg false [qo 20 (.fa 0 (.t 6)),qo 21 (.ld none (.t 20)),qo 22 (.bin .eql (.t 21) (.c (.i .i64 6))),qm 23 22,qg 24 (.fa 0 (.t 6)) 23 false,qg 25 (.ld none (.t 24)) 23 false,qg 26 (.bin .eql (.t 25) (.c (.i .i64 7))) 23 false,qo 27 (.pick (.t 23) (.c (.b true)) (.t 26))])
 (.cond (.t 27) (.reg false [qm 28 5,qo 29 (.bin .quo (.t 28) (.c (.i .i64 512))),qo 30 (.bin .rem (.t 29) (.c (.i .i64 4))),qo 31 (.bin .add (.c (.i .i64 1)) (.t 30)),qo 32 (.fa 3 (.t 6)),qn (.st 1 (.t 32) (.t 31))])
 .skip))
 (.seq (.reg false [qo 33 (.ld (some 4) (.t 6)),qn (.st 4 (.t 4) (.t 33))])
 .ret))))) }
end Go.Ab
end
section
namespace Go.Ab
def A_xlaw24_awake:AFun:={ res:=[.t 0],body:=(.seq (.reg false [qo 0 (.mv (.c (.b false)))])
 (.seq (.reg false [qo 6 (.build ([.i .i64 0,.i .i64 0]) [(0,1,.c (.i .i64 1)),(1,1,.c (.i .i64 1))]),qo 7 (.bsl true 1 ([.i .i64 0,.i .i64 0]) [(0,2,.t 6)]),qm 1 7])
 (.seq (.reg false [qm 8 1,qo 9 (.build (List.replicate 5 (.i .i64 0) ++ [.sl [] 0 .rig,.i .i64 0]) [(0,1,.c (.i .i64 2)),(5,1,.t 8)]),qm 10 1,qo 11 (.build (List.replicate 5 (.i .i64 0) ++ [.sl [] 0 .rig,.i .i64 0]) [(0,1,.c (.i .i64 2)),(4,1,.c (.i .i64 1)),(5,1,.t 10)]),qo 12 (.bsl true 2 (List.replicate 5 (.i .i64 0) ++ [.sl [] 0 .rig] ++ List.replicate 6 (.i .i64 0) ++ [.sl [] 0 .rig,.i .i64 0]) [(0,7,.t 9),(7,7,.t 11)]),qo 13 (.bsl true 1 ([.sl [] 0 .rig]) [(0,1,.t 12)]),qo 14 (.build ([.i .i64 0,.sl [] 0 .rig]) [(0,1,.c (.i .i64 2)),(1,1,.t 13)]),qo 2 (.new ([.i .i64 0,.sl [] 0 .rig])),qn (.st 2 (.t 2) (.t 14))])
 (.seq (.reg false [qo 15 (.build (List.replicate 4 (.i .i64 0)) [(0,1,.c (.i .i64 1))]),qo 3 (.new (List.replicate 4 (.i .i64 0))),qn (.st 4 (.t 3) (.t 15))])
 (.seq (.reg false [qo 17 (.ld (some 2) (.t 2)),qo 18 (.ld (some 4) (.t 3)),qo 19 (.call .pure (.c (.fn 287 [] [])) [.t 17,.t 18]),qm 16 19,qo 20 (.ext 0 (.t 16)),qo 21 (.ext 1 (.t 16)),qo 4 (.new ([.i .i64 0,.sl [] 0 .rig])),qn (.st 2 (.t 4) (.t 20)),qm 5 21])
 (.seq (.reg false [qo 22 (.ld (some 2) (.t 2)),qo 23 (.ld (some 4) (.t 3)),qo 24 (.call .pure (.c (.fn 288 [] [])) [.t 22,.t 23]),qm 25 24,qg 26 (.mv (.t 5)) 25 true,qg 27 (.bin .eql (.t 26) (.c (.i .i64 0))) 25 true,qo 28 (.pick (.t 25) (.t 27) (.c (.b false))),qm 29 28,qg 30 (.fa 1 (.t 4)) 29 true,qg 31 (.ld none (.t 30)) 29 true,qg 32 (.len (.t 31)) 29 true,qg 33 (.bin .eql (.t 32) (.c (.i .i64 1))) 29 true,qo 34 (.pick (.t 29) (.t 33) (.c (.b false))),qm 35 34,qg 36 (.fa 1 (.t 4)) 35 true,qg 37 (.ld none (.t 36)) 35 true,qg 38 (.ia 1 (.t 37) (.c (.i .i64 0))) 35 true,qg 39 (.ld none (.t 38)) 35 true,qg 40 (.len (.t 39)) 35 true,qg 41 (.bin .eql (.t 40) (.c (.i .i64 2))) 35 true,qo 42 (.pick (.t 35) (.t 41) (.c (.b false))),qm 43 42,qg 44 (.fa 1 (.t 4)) 43 true,qg 45 (.ld none (.t 44)) 43 true,qg 46 (.ia 1 (.t 45) (.c (.i .i64 0))) 43 true,qg 47 (.ld none (.t 46)) 43 true,qg 48 (.ia 7 (.t 47) (.c (.i .i64 0))) 43 true,qg 49 (.fa 4 (.t 48)) 43 true,qg 50 (.ld none (.t 49)) 43 true,qg 51 (.bin .eql (.t 50) (.c (.i .i64 1))) 43 true,qo 52 (.pick (.t 43) (.t 51) (.c (.b false))),qm 53 52,qg 54 (.fa 1 (.t 2)) 53 true,qg 55 (.ld none (.t 54)) 53 true,qg 56 (.ia 1 (.t 55) (.c (.i .i64 0))) 53 true,qg 57 (.ld none (.t 56)) 53 true,qg 58 (.ia 7 (.t 57) (.c (.i .i64 0))) 53 true,qg 59 (.fa 4 (.t 58)) 53 true,qg 60 (.ld none (.t 59)) 53 true,qg 61 (.bin .eql (.t 60) (.c (.i .i64 0))) 53 true,qo 62 (.pick (.t 53) (.t 61) (.c (.b false))),qm 63 62,qg 64 (.call .pure (.c (.fn 291 [] [])) [.c (.i .i64 1),.c (.i .i64 2)]) 63 true,qg 65 (.bin .eql (.t 64) (.c (.i .i64 3))) 63 true,qo 66 (.pick (.t 63) (.t 65) (.c (.b false))),qm 67 66,qg 68 (.fa 1 (.t 2)) 67 true,qg 69 (.ld none (.t 68)) 67 true,qg 70 (.ia 1 (.t 69) (.c (.i .i64 0))) 67 true,qg 71 (.ld none (.t 70)) 67 true,qg 72 (.call .pure (.c (.fn 290 [] [])) [.t 71]) 67 true,qg 73 (.len (.t 72)) 67 true,qg 74 (.bin .eql (.t 73) (.c (.i .i64 0))) 67 true,qo 75 (.pick (.t 67) (.t 74) (.c (.b false))),qm 0 75])
 .ret)))))) }
def A_xlaw24_RulesAll:AFun:={ res:=[.t 8],body:=(.seq (.reg false [qo 4 (.box (.t 0)),qo 5 (.box (.t 1)),qo 8 (.mv (.c (.b false)))])
 (.seq (.seq (.reg false [qo 13 (.ld (some 2) (.t 4)),qo 14 (.call .pure (.c (.fn 546 [] [])) [.t 13]),qo 15 (.un .not (.t 14))])
 (.cond (.t 15) (.seq (.reg false [qo 16 (.call .pure (.c (.fn 289 [] [])) []),qm 8 16])
 .ret)
 .skip))
 (.seq (.reg false [qo 18 (.ld (some 2) (.t 4)),qo 19 (.ld (some 4) (.t 5)),qo 20 (.call .pure (.c (.fn 287 [] [])) [.t 18,.t 19]),qm 17 20,qo 21 (.ext 0 (.t 17)),qo 22 (.ext 1 (.t 17)),qo 9 (.new ([.i .i64 0,.sl [] 0 .rig])),qn (.st 2 (.t 9) (.t 21)),qm 10 22])
 (.seq (.reg false [qo 24 (.ld (some 2) (.t 4)),qo 25 (.ld (some 4) (.t 5)),qo 26 (.call .pure (.c (.fn 547 [] [])) [.t 24,.t 25]),qm 23 26,qo 27 (.ext 0 (.t 23)),qo 28 (.ext 1 (.t 23)),qo 11 (.new ([.i .i64 0,.sl [] 0 .rig])),qn (.st 2 (.t 11) (.t 27)),qm 12 28])
 (.seq (.reg true [qo 29 (.ld (some 2) (.t 4)),qo 30 (.ld (some 4) (.t 5)),qo 31 (.call .pure (.c (.fn 288 [] [])) [.t 29,.t 30]),qo 32 (.ld (some 2) (.t 4)),qo 33 (.ld (some 4) (.t 5)),qo 34 (.call .pure (.c (.fn 548 [] [])) [.t 32,.t 33]),qo 35 (.eqb false (.t 31) (.t 34)),qm 36 35,qg 37 (.ld (some 2) (.t 9)) 36 true,qg 38 (.ld (some 2) (.t 11)) 36 true,qg 39 (.call .pure (.c (.fn 549 [] [])) [.t 37,.t 38]) 36 true,qo 40 (.pick (.t 36) (.t 39) (.c (.b false))),qm 41 40,qg 42 (.mv (.t 10)) 41 true,qg 43 (.mv (.t 12)) 41 true,qg 44 (.bin .eql (.t 42) (.t 43)) 41 true,qo 45 (.pick (.t 41) (.t 44) (.c (.b false))),qm 46 45,qg 47 (.mv (.t 2)) 46 true,qg 48 (.mv (.t 3)) 46 true,qg 49 (.call .pure (.c (.fn 291 [] [])) [.t 47,.t 48]) 46 true,qg 50 (.mv (.t 2)) 46 true,qg 51 (.mv (.t 3)) 46 true,qg 52 (.call .pure (.c (.fn 550 [] [])) [.t 50,.t 51]) 46 true,qg 53 (.bin .eql (.t 49) (.t 52)) 46 true,qo 54 (.pick (.t 46) (.t 53) (.c (.b false))),qm 55 54,qg 56 (.call .pure (.c (.fn 289 [] [])) []) 55 true,qo 57 (.pick (.t 55) (.t 56) (.c (.b false))),qm 8 57])
 .ret))))) }
def A_xlaw24_RulesNumbers:AFun:={ res:=[.t 6],body:=(.seq (.reg false [qo 6 (.mv (.c (.b false)))])
 (.seq (.seq (.reg false [qm 14 0,qo 15 (.len (.t 14)),qo 16 (.bin .gtr (.t 15) (.c (.i .i64 18))),qm 17 16,qg 18 (.mv (.t 2)) 17 false,qg 19 (.len (.t 18)) 17 false,qg 20 (.bin .gtr (.t 19) (.c (.i .i64 30))) 17 false,qo 21 (.pick (.t 17) (.c (.b true)) (.t 20))])
 (.cond (.t 21) (.seq (.reg false [qo 22 (.call .pure (.c (.fn 289 [] [])) []),qm 6 22])
 .ret)
 .skip))
 (.seq (.reg false [qm 23 0,qm 24 1,qo 25 (.call .pure (.c (.fn 10 [] [])) [.t 24,.c (.i .i64 3)]),qo 26 (.bin .add (.c (.i .i64 1)) (.t 25)),qo 27 (.call .pure (.c (.fn 86 [] [])) [.t 23,.t 26,.c (.i .i64 6)]),qo 7 (.new ([.i .i64 0,.sl [] 0 .rig])),qn (.st 2 (.t 7) (.t 27))])
 (.seq (.seq (.reg false [qo 8 (.mv (.c (.i .i64 0)))])
 (.blk 0 (.loop (.seq (.seq (.reg false [qm 28 8,qm 29 2,qo 30 (.len (.t 29)),qo 31 (.bin .lss (.t 28) (.t 30))])
 (.cond (.t 31) .skip
 (.ext 0)))
 (.seq (.blk 1 (.seq (.reg true [qm 34 2,qm 35 8,qo 36 (.ia 1 (.t 34) (.t 35)),qo 37 (.ld none (.t 36)),qo 38 (.fa 1 (.t 7)),qo 39 (.ld none (.t 38)),qo 40 (.len (.t 39)),qo 41 (.call .pure (.c (.fn 551 [] [])) [.t 37,.t 40]),qo 9 (.new (List.replicate 4 (.i .i64 0))),qnp (.stL 4 (.t 9) (.t 41)) [8]])
 (.seq (.reg false [qo 43 (.ld (some 2) (.t 7)),qo 44 (.ld (some 4) (.t 9)),qo 45 (.call .pure (.c (.fn 287 [] [])) [.t 43,.t 44]),qm 42 45,qo 46 (.ext 0 (.t 42)),qo 47 (.ext 1 (.t 42)),qo 10 (.new ([.i .i64 0,.sl [] 0 .rig])),qn (.st 2 (.t 10) (.t 46)),qm 11 47])
 (.seq (.reg false [qo 49 (.ld (some 2) (.t 7)),qo 50 (.ld (some 4) (.t 9)),qo 51 (.call .pure (.c (.fn 547 [] [])) [.t 49,.t 50]),qm 48 51,qo 52 (.ext 0 (.t 48)),qo 53 (.ext 1 (.t 48)),qo 12 (.new ([.i .i64 0,.sl [] 0 .rig])),qn (.st 2 (.t 12) (.t 52)),qm 13 53])
 (.seq (.seq (.reg true [qo 54 (.ld (some 2) (.t 7)),qo 55 (.ld (some 4) (.t 9)),qo 56 (.call .pure (.c (.fn 288 [] [])) [.t 54,.t 55]),qo 57 (.ld (some 2) (.t 7)),qo 58 (.ld (some 4) (.t 9)),qo 59 (.call .pure (.c (.fn 548 [] [])) [.t 57,.t 58]),qo 60 (.eqb true (.t 56) (.t 59)),qm 61 60,qg 62 (.ld (some 2) (.t 10)) 61 false,qg 63 (.ld (some 2) (.t 12)) 61 false,qg 64 (.call .pure (.c (.fn 549 [] [])) [.t 62,.t 63]) 61 false,qg 65 (.un .not (.t 64)) 61 false,qo 66 (.pick (.t 61) (.c (.b true)) (.t 65)),qm 67 66,qg 68 (.mv (.t 11)) 67 false,qg 69 (.mv (.t 13)) 67 false,qg 70 (.bin .neq (.t 68) (.t 69)) 67 false,qo 71 (.pick (.t 67) (.c (.b true)) (.t 70)),qm 72 71,qg 73 (.fa 1 (.t 7)) 72 false,qg 74 (.ld none (.t 73)) 72 false,qg 75 (.fa 1 (.t 9)) 72 false,qg 76 (.ld none (.t 75)) 72 false,qg 77 (.ia 1 (.t 74) (.t 76)) 72 false,qg 78 (.ld none (.t 77)) 72 false,qg 79 (.call .pure (.c (.fn 290 [] [])) [.t 78]) 72 false,qg 80 (.fa 1 (.t 7)) 72 false,qg 81 (.ld none (.t 80)) 72 false,qg 82 (.fa 1 (.t 9)) 72 false,qg 83 (.ld none (.t 82)) 72 false,qg 84 (.ia 1 (.t 81) (.t 83)) 72 false,qg 85 (.ld none (.t 84)) 72 false,qg 86 (.call .pure (.c (.fn 552 [] [])) [.t 85]) 72 false,qg 87 (.call .pure (.c (.fn 296 [] [])) [.t 79,.t 86]) 72 false,qg 88 (.un .not (.t 87)) 72 false,qo 89 (.pick (.t 72) (.c (.b true)) (.t 88))])
 (.cond (.t 89) (.seq (.reg false [qo 6 (.mv (.c (.b false)))])
 .ret)
 .skip))
 (.reg false [qo 90 (.ld (some 2) (.t 12)),qn (.st 2 (.t 7) (.t 90))]))))))
 (.reg false [qm 32 8,qo 33 (.bin .add (.t 32) (.c (.i .i64 1))),qm 8 33]))))))
 (.seq (.reg false [qo 91 (.ld (some 2) (.t 7)),qo 92 (.call .pure (.c (.fn 87 [] [])) [.t 91]),qo 93 (.bin .eql (.t 92) (.c (.i .i64 0))),qm 94 93,qg 95 (.call .pure (.c (.fn 289 [] [])) []) 94 true,qo 96 (.pick (.t 94) (.t 95) (.c (.b false))),qm 6 96])
 .ret))))) }
end Go.Ab
end
section
namespace Go.Ab
def A_xref02_Check:AFun:={ res:=[.t 2],body:=(.seq (.reg false [qo 2 (.mv (.c (.b false)))])
 (.seq (.reg false [qo 3 (.mv (.c (.i .i64 0)))])
 (.seq (.seq (.reg false [qo 4 (.mv (.c (.i .i64 0)))])
 (.blk 0 (.loop (.seq (.seq (.reg false [qm 5 4,qm 6 0,qo 7 (.len (.t 6)),qo 8 (.bin .lss (.t 5) (.t 7))])
 (.cond (.t 8) .skip
 (.ext 0)))
 (.seq (.blk 1 (.seq (.seq (.reg false [qm 11 0,qm 12 4,qo 13 (.ia 2 (.t 11) (.t 12)),qo 14 (.ld (some 2) (.t 13)),qo 15 (.call .pure (.c (.fn 125 [] [])) [.t 14]),qo 16 (.un .not (.t 15))])
 (.cond (.t 16) (.seq (.reg false [qo 2 (.mv (.c (.b false)))])
 .ret)
 .skip))
 (.seq (.seq (.reg false [qm 17 0,qm 18 4,qo 19 (.ia 2 (.t 17) (.t 18)),qo 20 (.fa 0 (.t 19)),qo 21 (.ld none (.t 20)),qo 22 (.bin .neq (.t 21) (.c (.i .i64 3)))])
 (.cond (.t 22) (.seq (.reg false [qm 23 3,qo 24 (.bin .add (.t 23) (.c (.i .i64 1))),qm 3 24])
 (.ext 1))
 .skip))
 (.seq (.seq (.reg false [qm 25 3,qo 26 (.bin .lss (.t 25) (.c (.i .i64 2)))])
 (.cond (.t 26) (.seq (.reg false [qo 2 (.mv (.c (.b false)))])
 .ret)
 .skip))
 (.reg false [qm 27 3,qo 28 (.bin .sub (.t 27) (.c (.i .i64 1))),qm 3 28])))))
 (.reg false [qm 9 4,qo 10 (.bin .add (.t 9) (.c (.i .i64 1))),qm 4 10]))))))
 (.seq (.reg false [qm 29 3,qo 30 (.bin .eql (.t 29) (.c (.i .i64 1))),qm 31 30,qg 32 (.mv (.t 0)) 31 true,qg 33 (.len (.t 32)) 31 true,qg 34 (.bin .leq (.t 33) (.c (.i .i64 9))) 31 true,qo 35 (.pick (.t 31) (.t 34) (.c (.b false))),qm 2 35])
 .ret)))) }
def A_xref02_Eval:AFun:={ res:=[.t 4],body:=(.seq (.reg false [qo 4 (.mv (.c (.i .i64 0)))])
 (.seq (.seq (.reg false [qm 8 0,qo 9 (.call .pure (.c (.fn 109 [] [])) [.t 8]),qo 10 (.un .not (.t 9))])
 (.cond (.t 10) (.seq (.reg false [qo 4 (.mv (.c (.i .i64 0)))])
 .ret)
 .skip))
 (.seq (.reg false [qo 5 (.mv (.c (.sl [] 0 .rig)))])
 (.seq (.seq (.reg false [qo 6 (.mv (.c (.i .i64 0)))])
 (.blk 0 (.loop (.seq (.seq (.reg false [qm 11 6,qm 12 0,qo 13 (.len (.t 12)),qo 14 (.bin .lss (.t 11) (.t 13))])
 (.cond (.t 14) .skip
 (.ext 0)))
 (.seq (.blk 1 (.seq (.reg false [qm 17 5,qo 18 (.len (.t 17)),qm 7 18])
 (.blk 2 (.seq (.reg false [qm 23 0,qm 24 6,qo 25 (.ia 2 (.t 23) (.t 24)),qo 26 (.fa 0 (.t 25)),qo 27 (.ld none (.t 26)),qo 28 (.bin .eql (.t 27) (.c (.i .i64 1))),qm 22 28])
 (.cond (.t 22) (.reg false [qm 29 5,qm 30 0,qm 31 6,qo 32 (.ia 2 (.t 30) (.t 31)),qo 33 (.fa 1 (.t 32)),qo 34 (.ld none (.t 33)),qo 35 (.bsl true 1 ([.i .i64 0]) [(0,1,.t 34)]),qo 36 (.appM 1 8 (.t 29) (.t 35)),qm 5 36])
 (.seq (.reg false [qm 38 0,qm 39 6,qo 40 (.ia 2 (.t 38) (.t 39)),qo 41 (.fa 0 (.t 40)),qo 42 (.ld none (.t 41)),qo 43 (.bin .eql (.t 42) (.c (.i .i64 3))),qm 37 43])
 (.cond (.t 37) (.reg true [qm 44 5,qm 45 7,qo 46 (.bin .sub (.t 45) (.c (.i .i64 2))),qo 47 (.slice 1 (.t 44) none (some (.t 46)) none),qm 48 0,qm 49 6,qo 50 (.ia 2 (.t 48) (.t 49)),qo 51 (.fa 1 (.t 50)),qo 52 (.ld none (.t 51)),qm 53 5,qm 54 7,qo 55 (.bin .sub (.t 54) (.c (.i .i64 2))),qo 56 (.ia 1 (.t 53) (.t 55)),qo 57 (.ld none (.t 56)),qm 58 5,qm 59 7,qo 60 (.bin .sub (.t 59) (.c (.i .i64 1))),qo 61 (.ia 1 (.t 58) (.t 60)),qo 62 (.ld none (.t 61)),qo 63 (.call .pure (.c (.fn 128 [] [])) [.t 52,.t 57,.t 62]),qo 64 (.bsl true 1 ([.i .i64 0]) [(0,1,.t 63)]),qo 65 (.appM 1 8 (.t 47) (.t 64)),qm 5 65])
 (.seq (.reg false [qm 67 0,qm 68 6,qo 69 (.ia 2 (.t 67) (.t 68)),qo 70 (.fa 1 (.t 69)),qo 71 (.ld none (.t 70)),qm 72 1,qo 73 (.len (.t 72)),qo 74 (.bin .lss (.t 71) (.t 73)),qm 66 74])
 (.cond (.t 66) (.reg false [qm 75 5,qm 76 1,qm 77 0,qm 78 6,qo 79 (.ia 2 (.t 77) (.t 78)),qo 80 (.fa 1 (.t 79)),qo 81 (.ld none (.t 80)),qo 82 (.ia 1 (.t 76) (.t 81)),qo 83 (.ld none (.t 82)),qo 84 (.bsl true 1 ([.i .i64 0]) [(0,1,.t 83)]),qo 85 (.appM 1 8 (.t 75) (.t 84)),qm 5 85])
 (.reg false [qm 19 5,qo 20 (.bsl true 1 ([.i .i64 0]) [(0,1,.c (.i .i64 0))]),qo 21 (.appM 1 8 (.t 19) (.t 20)),qm 5 21]))))))))))
 (.reg false [qm 15 6,qo 16 (.bin .add (.t 15) (.c (.i .i64 1))),qm 6 16]))))))
 (.seq (.reg false [qm 86 5,qo 87 (.ia 1 (.t 86) (.c (.i .i64 0))),qo 88 (.ld none (.t 87)),qm 4 88])
 .ret))))) }
def A_xref02_word:AFun:={ res:=[.t 2],body:=(.seq (.reg false [qo 1 (.box (.t 0)),qo 2 (.mv (.c (.b false)))])
 (.seq (.seq (.reg false [qo 3 (.fa 0 (.t 1)),qo 4 (.ld none (.t 3))])
 (.blk 0 (.seq (.reg false [qo 6 (.bin .eql (.t 4) (.c (.i .i64 1))),qm 5 6])
 (.cond (.t 5) (.seq (.reg false [qo 7 (.fa 1 (.t 1)),qo 8 (.ld none (.t 7)),qo 9 (.bin .geq (.t 8) (.c (.i .i64 (-2147483648)))),qm 10 9,qg 11 (.fa 1 (.t 1)) 10 true,qg 12 (.ld none (.t 11)) 10 true,qg 13 (.bin .leq (.t 12) (.c (.i .i64 2147483647))) 10 true,qo 14 (.pick (.t 10) (.t 13) (.c (.b false))),qm 2 14])
 .ret)
 (.seq (.reg false [qo 16 (.bin .eql (.t 4) (.c (.i .i64 2))),qm 15 16])
 (.cond (.t 15) (.seq (.reg false [qo 17 (.fa 1 (.t 1)),qo 18 (.ld none (.t 17)),qo 19 (.bin .geq (.t 18) (.c (.i .i64 0))),qm 20 19,qg 21 (.fa 1 (.t 1)) 20 true,qg 22 (.ld none (.t 21)) 20 true,qg 23 (.bin .lss (.t 22) (.c (.i .i64 8))) 20 true,qo 24 (.pick (.t 20) (.t 23) (.c (.b false))),qm 2 24])
 .ret)
 (.seq (.reg false [qo 26 (.bin .eql (.t 4) (.c (.i .i64 3))),qm 25 26])
 (.cond (.t 25) (.seq (.reg false [qo 27 (.fa 1 (.t 1)),qo 28 (.ld none (.t 27)),qo 29 (.bin .geq (.t 28) (.c (.i .i64 1))),qm 30 29,qg 31 (.fa 1 (.t 1)) 30 true,qg 32 (.ld none (.t 31)) 30 true,qg 33 (.bin .leq (.t 32) (.c (.i .i64 6))) 30 true,qo 34 (.pick (.t 30) (.t 33) (.c (.b false))),qm 2 34])
 .ret)
 .skip))))))))
 (.seq (.reg false [qo 2 (.mv (.c (.b false)))])
 .ret))) }
def A_xref02_Regs:AFun:={ res:=[.t 2],body:=(.seq (.reg false [qo 2 (.mv (.c (.sl [] 0 .rig)))])
 (.seq (.reg false [qo 3 (.mv (.c (.sl [] 0 .rig)))])
 (.seq (.seq (.reg false [qo 4 (.mv (.c (.i .i64 0)))])
 (.blk 0 (.loop (.seq (.seq (.reg false [qm 6 4,qm 7 0,qo 8 (.len (.t 7)),qo 9 (.bin .lss (.t 6) (.t 8))])
 (.cond (.t 9) .skip
 (.ext 0)))
 (.seq (.blk 1 (.seq (.seq (.reg false [qm 12 0,qm 13 4,qo 14 (.ia 2 (.t 12) (.t 13)),qo 15 (.fa 0 (.t 14)),qo 16 (.ld none (.t 15)),qo 17 (.bin .neq (.t 16) (.c (.i .i64 2)))])
 (.cond (.t 17) (.ext 1)
 .skip))
 (.seq (.reg false [qo 5 (.mv (.c (.i .i64 0)))])
 (.seq (.blk 2 (.loop (.seq (.seq (.reg true [qm 18 5,qm 19 3,qo 20 (.len (.t 19)),qo 21 (.bin .lss (.t 18) (.t 20)),qm 22 21,qg 23 (.mv (.t 3)) 22 true,qg 24 (.mv (.t 5)) 22 true,qg 25 (.ia 1 (.t 23) (.t 24)) 22 true,qg 26 (.ld none (.t 25)) 22 true,qg 27 (.mv (.t 0)) 22 true,qg 28 (.mv (.t 4)) 22 true,qg 29 (.ia 2 (.t 27) (.t 28)) 22 true,qg 30 (.fa 1 (.t 29)) 22 true,qg 31 (.ld none (.t 30)) 22 true,qg 32 (.bin .lss (.t 26) (.t 31)) 22 true,qo 33 (.pick (.t 22) (.t 32) (.c (.b false)))])
 (.cond (.t 33) .skip
 (.ext 2)))
 (.blk 3 (.reg false [qm 34 5,qo 35 (.bin .add (.t 34) (.c (.i .i64 1))),qm 5 35])))))
 (.seq (.seq (.reg true [qm 36 5,qm 37 3,qo 38 (.len (.t 37)),qo 39 (.bin .lss (.t 36) (.t 38)),qm 40 39,qg 41 (.mv (.t 3)) 40 true,qg 42 (.mv (.t 5)) 40 true,qg 43 (.ia 1 (.t 41) (.t 42)) 40 true,qg 44 (.ld none (.t 43)) 40 true,qg 45 (.mv (.t 0)) 40 true,qg 46 (.mv (.t 4)) 40 true,qg 47 (.ia 2 (.t 45) (.t 46)) 40 true,qg 48 (.fa 1 (.t 47)) 40 true,qg 49 (.ld none (.t 48)) 40 true,qg 50 (.bin .eql (.t 44) (.t 49)) 40 true,qo 51 (.pick (.t 40) (.t 50) (.c (.b false)))])
 (.cond (.t 51) (.ext 1)
 .skip))
 (.reg true [qm 52 3,qm 53 5,qo 54 (.slice 1 (.t 52) none (some (.t 53)) none),qo 55 (.app 1 8 (.c (.sl [] 0 .rig)) (.t 54)),qm 56 0,qm 57 4,qo 58 (.ia 2 (.t 56) (.t 57)),qo 59 (.fa 1 (.t 58)),qo 60 (.ld none (.t 59)),qo 61 (.bsl true 1 ([.i .i64 0]) [(0,1,.t 60)]),qp 62 (.app 1 8 (.t 55) (.t 61)) [3],qm 63 3,qm 64 5,qo 65 (.slice 1 (.t 63) (some (.t 64)) none none),qp 66 (.app 1 8 (.t 62) (.t 65)) [3,10],qm 3 66]))))))
 (.reg false [qm 10 4,qo 11 (.bin .add (.t 10) (.c (.i .i64 1))),qm 4 11]))))))
 (.seq (.reg false [qm 67 3,qm 2 67])
 .ret)))) }
def A_xref02_Same:AFun:={ res:=[.t 4],body:=(.seq (.reg false [qo 4 (.mv (.c (.b false)))])
 (.seq (.seq (.reg false [qm 6 0,qo 7 (.len (.t 6)),qm 8 1,qo 9 (.len (.t 8)),qo 10 (.bin .neq (.t 7) (.t 9))])
 (.cond (.t 10) (.seq (.reg false [qo 4 (.mv (.c (.b false)))])
 .ret)
 .skip))
 (.seq (.seq (.reg false [qo 5 (.mv (.c (.i .i64 0)))])
 (.blk 0 (.loop (.seq (.seq (.reg false [qm 11 5,qm 12 0,qo 13 (.len (.t 12)),qo 14 (.bin .lss (.t 11) (.t 13))])
 (.cond (.t 14) .skip
 (.ext 0)))
 (.seq (.blk 1 (.seq (.reg true [qm 17 0,qm 18 5,qo 19 (.ia 2 (.t 17) (.t 18)),qo 20 (.fa 0 (.t 19)),qo 21 (.ld none (.t 20)),qm 22 1,qm 23 5,qo 24 (.ia 2 (.t 22) (.t 23)),qo 25 (.fa 0 (.t 24)),qo 26 (.ld none (.t 25)),qo 27 (.bin .neq (.t 21) (.t 26)),qm 28 27,qg 29 (.mv (.t 0)) 28 false,qg 30 (.mv (.t 5)) 28 false,qg 31 (.ia 2 (.t 29) (.t 30)) 28 false,qg 32 (.fa 1 (.t 31)) 28 false,qg 33 (.ld none (.t 32)) 28 false,qg 34 (.mv (.t 1)) 28 false,qg 35 (.mv (.t 5)) 28 false,qg 36 (.ia 2 (.t 34) (.t 35)) 28 false,qg 37 (.fa 1 (.t 36)) 28 false,qg 38 (.ld none (.t 37)) 28 false,qg 39 (.bin .neq (.t 33) (.t 38)) 28 false,qo 40 (.pick (.t 28) (.c (.b true)) (.t 39))])
 (.cond (.t 40) (.seq (.reg false [qo 4 (.mv (.c (.b false)))])
 .ret)
 .skip)))
 (.reg false [qm 15 5,qo 16 (.bin .add (.t 15) (.c (.i .i64 1))),qm 5 16]))))))
 (.seq (.reg false [qo 4 (.mv (.c (.b true)))])
 .ret)))) }
def A_xref02_Do:AFun:={ res:=[.t 6],body:=(.seq (.reg false [qo 6 (.mv (.c (.i .i64 0)))])
 (.seq (.seq (.reg false [qm 7 0])
 (.blk 0 (.seq (.reg false [qo 9 (.bin .eql (.t 7) (.c (.i .i64 1))),qm 8 9])
 (.cond (.t 8) (.seq (.reg false [qm 10 1,qm 11 2,qo 12 (.bin .add (.t 10) (.t 11)),qm 6 12])
 .ret)
 (.seq (.reg false [qo 14 (.bin .eql (.t 7) (.c (.i .i64 2))),qm 13 14])
 (.cond (.t 13) (.seq (.reg false [qm 15 1,qm 16 2,qo 17 (.bin .sub (.t 15) (.t 16)),qm 6 17])
 .ret)
 (.seq (.reg false [qo 19 (.bin .eql (.t 7) (.c (.i .i64 3))),qm 18 19])
 (.cond (.t 18) (.seq (.reg false [qm 20 1,qm 21 2,qo 22 (.bin .mul (.t 20) (.t 21)),qm 6 22])
 .ret)
 (.seq (.reg false [qo 24 (.bin .eql (.t 7) (.c (.i .i64 4))),qm 23 24])
 (.cond (.t 23) (.seq (.reg false [qm 25 1,qm 26 2,qo 27 (.bin .xor (.t 25) (.t 26)),qm 6 27])
 .ret)
 (.seq (.reg false [qo 29 (.bin .eql (.t 7) (.c (.i .i64 5))),qm 28 29])
 (.cond (.t 28) (.seq (.reg false [qm 30 1,qm 31 2,qo 32 (.bin .eql (.t 30) (.t 31))])
 (.cond (.t 32) (.seq (.reg false [qo 6 (.mv (.c (.i .i64 1)))])
 .ret)
 .skip))
 (.seq (.reg false [qo 34 (.bin .eql (.t 7) (.c (.i .i64 6))),qm 33 34])
 (.cond (.t 33) (.seq (.reg false [qm 35 1,qm 36 2,qo 37 (.bin .lss (.t 35) (.t 36))])
 (.cond (.t 37) (.seq (.reg false [qo 6 (.mv (.c (.i .i64 1)))])
 .ret)
 .skip))
 .skip))))))))))))))
 (.seq (.reg false [qo 6 (.mv (.c (.i .i64 0)))])
 .ret))) }
end Go.Ab
end
section
namespace Go.Ab
def A_xref03_SameInstr:AFun:={ res:=[.t 4],body:=(.seq (.reg false [qo 2 (.box (.t 0)),qo 3 (.box (.t 1)),qo 4 (.mv (.c (.b false)))])
 (.seq (.reg false [qo 5 (.fa 0 (.t 2)),qo 6 (.ld none (.t 5)),qo 7 (.fa 0 (.t 3)),qo 8 (.ld none (.t 7)),qo 9 (.bin .eql (.t 6) (.t 8)),qm 10 9,qg 11 (.fa 1 (.t 2)) 10 true,qg 12 (.ld none (.t 11)) 10 true,qg 13 (.fa 1 (.t 3)) 10 true,qg 14 (.ld none (.t 13)) 10 true,qg 15 (.bin .eql (.t 12) (.t 14)) 10 true,qo 16 (.pick (.t 10) (.t 15) (.c (.b false))),qm 17 16,qg 18 (.fa 2 (.t 2)) 17 true,qg 19 (.ld none (.t 18)) 17 true,qg 20 (.fa 2 (.t 3)) 17 true,qg 21 (.ld none (.t 20)) 17 true,qg 22 (.bin .eql (.t 19) (.t 21)) 17 true,qo 23 (.pick (.t 17) (.t 22) (.c (.b false))),qm 24 23,qg 25 (.fa 3 (.t 2)) 24 true,qg 26 (.ld none (.t 25)) 24 true,qg 27 (.fa 3 (.t 3)) 24 true,qg 28 (.ld none (.t 27)) 24 true,qg 29 (.bin .eql (.t 26) (.t 28)) 24 true,qo 30 (.pick (.t 24) (.t 29) (.c (.b false))),qm 31 30,qg 32 (.fa 4 (.t 2)) 31 true,qg 33 (.ld none (.t 32)) 31 true,qg 34 (.fa 4 (.t 3)) 31 true,qg 35 (.ld none (.t 34)) 31 true,qg 36 (.bin .eql (.t 33) (.t 35)) 31 true,qo 37 (.pick (.t 31) (.t 36) (.c (.b false))),qm 38 37,qg 39 (.fa 6 (.t 2)) 38 true,qg 40 (.ld none (.t 39)) 38 true,qg 41 (.fa 6 (.t 3)) 38 true,qg 42 (.ld none (.t 41)) 38 true,qg 43 (.bin .eql (.t 40) (.t 42)) 38 true,qo 44 (.pick (.t 38) (.t 43) (.c (.b false))),qm 45 44,qg 46 (.fa 5 (.t 2)) 45 true,qg 47 (.ld none (.t 46)) 45 true,qg 48 (.fa 5 (.t 3)) 45 true,qg 49 (.ld none (.t 48)) 45 true,qg 50 (.call .pure (.c (.fn 127 [] [])) [.t 47,.t 49]) 45 true,qo 51 (.pick (.t 45) (.t 50) (.c (.b false))),qm 4 51])
 .ret)) }
def A_xref03_Same:AFun:={ res:=[.t 4],body:=(.seq (.reg false [qo 2 (.box (.t 0)),qo 3 (.box (.t 1)),qo 4 (.mv (.c (.b false)))])
 (.seq (.seq (.reg false [qo 7 (.fa 0 (.t 2)),qo 8 (.ld none (.t 7)),qo 9 (.fa 0 (.t 3)),qo 10 (.ld none (.t 9)),qo 11 (.bin .neq (.t 8) (.t 10)),qm 12 11,qg 13 (.fa 1 (.t 2)) 12 false,qg 14 (.ld none (.t 13)) 12 false,qg 15 (.len (.t 14)) 12 false,qg 16 (.fa 1 (.t 3)) 12 false,qg 17 (.ld none (.t 16)) 12 false,qg 18 (.len (.t 17)) 12 false,qg 19 (.bin .neq (.t 15) (.t 18)) 12 false,qo 20 (.pick (.t 12) (.c (.b true)) (.t 19))])
 (.cond (.t 20) (.seq (.reg false [qo 4 (.mv (.c (.b false)))])
 .ret)
 .skip))
 (.seq (.seq (.reg false [qo 5 (.mv (.c (.i .i64 0)))])
 (.blk 0 (.loop (.seq (.seq (.reg false [qm 21 5,qo 22 (.fa 1 (.t 2)),qo 23 (.ld none (.t 22)),qo 24 (.len (.t 23)),qo 25 (.bin .lss (.t 21) (.t 24))])
 (.cond (.t 25) .skip
 (.ext 0)))
 (.seq (.blk 1 (.seq (.seq (.reg true [qo 28 (.fa 1 (.t 2)),qo 29 (.ld none (.t 28)),qm 30 5,qo 31 (.ia 1 (.t 29) (.t 30)),qo 32 (.ld none (.t 31)),qo 33 (.len (.t 32)),qo 34 (.fa 1 (.t 3)),qo 35 (.ld none (.t 34)),qm 36 5,qo 37 (.ia 1 (.t 35) (.t 36)),qo 38 (.ld none (.t 37)),qo 39 (.len (.t 38)),qo 40 (.bin .neq (.t 33) (.t 39))])
 (.cond (.t 40) (.seq (.reg false [qo 4 (.mv (.c (.b false)))])
 .ret)
 .skip))
 (.seq (.reg false [qo 6 (.mv (.c (.i .i64 0)))])
 (.blk 2 (.loop (.seq (.seq (.reg false [qm 41 6,qo 42 (.fa 1 (.t 2)),qo 43 (.ld none (.t 42)),qm 44 5,qo 45 (.ia 1 (.t 43) (.t 44)),qo 46 (.ld none (.t 45)),qo 47 (.len (.t 46)),qo 48 (.bin .lss (.t 41) (.t 47))])
 (.cond (.t 48) .skip
 (.ext 2)))
 (.seq (.blk 3 (.seq (.reg true [qo 51 (.fa 1 (.t 2)),qo 52 (.ld none (.t 51)),qm 53 5,qo 54 (.ia 1 (.t 52) (.t 53)),qo 55 (.ld none (.t 54)),qm 56 6,qo 57 (.ia 7 (.t 55) (.t 56)),qo 58 (.ld (some 7) (.t 57)),qo 59 (.fa 1 (.t 3)),qo 60 (.ld none (.t 59)),qm 61 5,qo 62 (.ia 1 (.t 60) (.t 61)),qo 63 (.ld none (.t 62)),qm 64 6,qo 65 (.ia 7 (.t 63) (.t 64)),qo 66 (.ld (some 7) (.t 65)),qo 67 (.call .pure (.c (.fn 111 [] [])) [.t 58,.t 66]),qo 68 (.un .not (.t 67))])
 (.cond (.t 68) (.seq (.reg false [qo 4 (.mv (.c (.b false)))])
 .ret)
 .skip)))
 (.reg false [qm 49 6,qo 50 (.bin .add (.t 49) (.c (.i .i64 1))),qm 6 50]))))))))
 (.reg false [qm 26 5,qo 27 (.bin .add (.t 26) (.c (.i .i64 1))),qm 5 27]))))))
 (.seq (.reg false [qo 4 (.mv (.c (.b true)))])
 .ret)))) }
end Go.Ab
end
section
namespace Go.Ab
def A_xref04_Check:AFun:={ res:=[.t 2],body:=(.seq (.reg false [qo 1 (.box (.t 0)),qo 2 (.mv (.c (.i .i64 0)))])
 (.seq (.seq (.reg false [qo 8 (.fa 0 (.t 1)),qo 9 (.ld none (.t 8)),qo 10 (.bin .lss (.t 9) (.c (.i .i64 1))),qm 11 10,qg 12 (.fa 0 (.t 1)) 11 false,qg 13 (.ld none (.t 12)) 11 false,qg 14 (.bin .gtr (.t 13) (.c (.i .i64 4))) 11 false,qo 15 (.pick (.t 11) (.c (.b true)) (.t 14)),qm 16 15,qg 17 (.fa 1 (.t 1)) 16 false,qg 18 (.ld none (.t 17)) 16 false,qg 19 (.len (.t 18)) 16 false,qg 20 (.bin .eql (.t 19) (.c (.i .i64 0))) 16 false,qo 21 (.pick (.t 16) (.c (.b true)) (.t 20))])
 (.cond (.t 21) (.seq (.reg false [qo 2 (.mv (.c (.i .i64 3)))])
 .ret)
 .skip))
 (.seq (.reg true [qo 22 (.fa 0 (.t 1)),qo 23 (.ld none (.t 22)),qo 24 (.fa 1 (.t 1)),qo 25 (.ld none (.t 24)),qo 26 (.len (.t 25)),qo 27 (.bin .gtr (.t 26) (.c (.i .i64 4))),qm 3 23,qm 4 27])
 (.seq (.seq (.reg false [qo 5 (.mv (.c (.i .i64 0)))])
 (.blk 0 (.loop (.seq (.seq (.reg false [qm 28 5,qo 29 (.fa 1 (.t 1)),qo 30 (.ld none (.t 29)),qo 31 (.len (.t 30)),qo 32 (.bin .lss (.t 28) (.t 31))])
 (.cond (.t 32) .skip
 (.ext 0)))
 (.seq (.blk 1 (.seq (.reg false [qo 35 (.fa 1 (.t 1)),qo 36 (.ld none (.t 35)),qm 37 5,qo 38 (.ia 1 (.t 36) (.t 37)),qo 39 (.ld none (.t 38)),qm 6 39])
 (.seq (.seq (.reg false [qo 7 (.mv (.c (.i .i64 0)))])
 (.blk 2 (.loop (.seq (.seq (.reg false [qm 40 7,qm 41 6,qo 42 (.len (.t 41)),qo 43 (.bin .lss (.t 40) (.t 42))])
 (.cond (.t 43) .skip
 (.ext 2)))
 (.seq (.blk 3 (.seq (.reg true [qm 46 6,qm 47 7,qo 48 (.ia 7 (.t 46) (.t 47)),qo 49 (.ld (some 7) (.t 48)),qo 50 (.fa 0 (.t 1)),qo 51 (.ld none (.t 50)),qm 52 6,qo 53 (.len (.t 52)),qo 54 (.bin .sub (.t 53) (.c (.i .i64 1))),qm 55 7,qo 56 (.bin .sub (.t 54) (.t 55)),qo 57 (.call .pure (.c (.fn 98 [] [])) [.t 49,.t 51,.t 56]),qo 58 (.un .not (.t 57))])
 (.cond (.t 58) (.seq (.reg false [qo 2 (.mv (.c (.i .i64 3)))])
 .ret)
 .skip)))
 (.reg false [qm 44 7,qo 45 (.bin .add (.t 44) (.c (.i .i64 1))),qm 7 45]))))))
 (.seq (.reg false [qm 59 3,qm 60 6,qo 61 (.call .pure (.c (.fn 99 [] [])) [.t 60]),qo 62 (.bin .add (.t 59) (.t 61)),qm 3 62])
 (.reg false [qm 63 4,qm 64 63,qg 65 (.mv (.t 6)) 64 false,qg 66 (.len (.t 65)) 64 false,qg 67 (.bin .gtr (.t 66) (.c (.i .i64 12))) 64 false,qo 68 (.pick (.t 64) (.c (.b true)) (.t 67)),qm 69 68,qg 70 (.mv (.t 6)) 69 false,qg 71 (.call .pure (.c (.fn 100 [] [])) [.t 70]) 69 false,qg 72 (.bin .gtr (.t 71) (.c (.i .i64 64))) 69 false,qo 73 (.pick (.t 69) (.c (.b true)) (.t 72)),qm 4 73])))))
 (.reg false [qm 33 5,qo 34 (.bin .add (.t 33) (.c (.i .i64 1))),qm 5 34]))))))
 (.seq (.seq (.reg false [qm 74 4,qm 75 74,qg 76 (.mv (.t 3)) 75 false,qg 77 (.bin .gtr (.t 76) (.c (.i .i64 40))) 75 false,qo 78 (.pick (.t 75) (.c (.b true)) (.t 77))])
 (.cond (.t 78) (.seq (.reg false [qo 2 (.mv (.c (.i .i64 4)))])
 .ret)
 .skip))
 (.seq (.reg false [qo 2 (.mv (.c (.i .i64 0)))])
 .ret)))))) }
def A_xref04_Instr:AFun:={ res:=[.t 6],body:=(.seq (.reg false [qo 3 (.box (.t 0)),qo 6 (.mv (.c (.b false)))])
 (.seq (.reg false [qo 12 (.fa 3 (.t 3)),qo 13 (.ld none (.t 12)),qo 14 (.bin .geq (.t 13) (.c (.i .i64 0))),qm 15 14,qg 16 (.fa 3 (.t 3)) 15 true,qg 17 (.ld none (.t 16)) 15 true,qg 18 (.bin .lss (.t 17) (.c (.i .i64 8))) 15 true,qo 19 (.pick (.t 15) (.t 18) (.c (.b false))),qm 7 19])
 (.seq (.reg false [qo 20 (.fa 4 (.t 3)),qo 21 (.ld none (.t 20)),qo 22 (.bin .geq (.t 21) (.c (.i .i64 0))),qm 23 22,qg 24 (.fa 4 (.t 3)) 23 true,qg 25 (.ld none (.t 24)) 23 true,qg 26 (.mv (.t 1)) 23 true,qg 27 (.bin .lss (.t 25) (.t 26)) 23 true,qo 28 (.pick (.t 23) (.t 27) (.c (.b false))),qm 8 28])
 (.seq (.reg false [qo 29 (.fa 5 (.t 3)),qo 30 (.ld none (.t 29)),qo 31 (.call .pure (.c (.fn 109 [] [])) [.t 30]),qm 9 31])
 (.seq (.reg false [qo 32 (.fa 0 (.t 3)),qo 33 (.ld none (.t 32)),qo 34 (.build (List.replicate 5 (.i .i64 0) ++ [.sl [] 0 .rig,.i .i64 0]) [(0,1,.t 33)]),qo 10 (.new (List.replicate 5 (.i .i64 0) ++ [.sl [] 0 .rig,.i .i64 0])),qn (.st 7 (.t 10) (.t 34))])
 (.seq (.reg false [qo 11 (.mv (.c (.b false)))])
 (.seq (.seq (.reg false [qo 35 (.fa 0 (.t 3)),qo 36 (.ld none (.t 35))])
 (.blk 0 (.seq (.reg false [qo 38 (.bin .eql (.t 36) (.c (.i .i64 1))),qm 37 38])
 (.cond (.t 37) (.seq (.reg false [qm 39 7,qm 40 39,qg 41 (.mv (.t 8)) 40 true,qo 42 (.pick (.t 40) (.t 41) (.c (.b false))),qm 43 42,qg 44 (.fa 1 (.t 3)) 43 true,qg 45 (.ld none (.t 44)) 43 true,qg 46 (.bin .eql (.t 45) (.c (.i .i64 0))) 43 true,qg 47 (.mv (.t 46)) 43 true,qg 48 (.fa 1 (.t 3)) 47 false,qg 49 (.ld none (.t 48)) 47 false,qg 50 (.bin .eql (.t 49) (.c (.i .i64 1))) 47 false,qg 51 (.pick (.t 47) (.c (.b true)) (.t 50)) 43 true,qo 52 (.pick (.t 43) (.t 51) (.c (.b false))),qm 11 52])
 (.reg true [qo 53 (.fa 3 (.t 3)),qo 54 (.ldQ none (.t 53) 3),qo 55 (.fa 4 (.t 3)),qo 56 (.ldQ none (.t 55) 3),qo 57 (.fa 1 (.t 3)),qo 58 (.ldQ none (.t 57) 3),qo 59 (.fa 3 (.t 10)),qn (.stN 1 (.t 59) (.t 54) [3]),qo 60 (.fa 4 (.t 10)),qn (.stN 1 (.t 60) (.t 56) [3]),qo 61 (.fa 1 (.t 10)),qn (.stN 1 (.t 61) (.t 58) [3])]))
 (.seq (.reg false [qo 63 (.bin .eql (.t 36) (.c (.i .i64 2))),qm 62 63])
 (.cond (.t 62) (.seq (.reg false [qm 64 8,qm 65 64,qg 66 (.mv (.t 9)) 65 true,qo 67 (.pick (.t 65) (.t 66) (.c (.b false))),qm 68 67,qg 69 (.fa 1 (.t 3)) 68 true,qg 70 (.ld none (.t 69)) 68 true,qg 71 (.bin .eql (.t 70) (.c (.i .i64 0))) 68 true,qg 72 (.mv (.t 71)) 68 true,qg 73 (.fa 1 (.t 3)) 72 false,qg 74 (.ld none (.t 73)) 72 false,qg 75 (.bin .eql (.t 74) (.c (.i .i64 2))) 72 false,qg 76 (.pick (.t 72) (.c (.b true)) (.t 75)) 68 true,qo 77 (.pick (.t 68) (.t 76) (.c (.b false))),qm 11 77])
 (.reg true [qo 78 (.fa 4 (.t 3)),qo 79 (.ldQ none (.t 78) 3),qo 80 (.fa 1 (.t 3)),qo 81 (.ldQ none (.t 80) 3),qo 82 (.fa 5 (.t 3)),qo 83 (.ldQ none (.t 82) 3),qo 84 (.fa 4 (.t 10)),qn (.stN 1 (.t 84) (.t 79) [3]),qo 85 (.fa 1 (.t 10)),qn (.stN 1 (.t 85) (.t 81) [3]),qo 86 (.fa 5 (.t 10)),qn (.stN 1 (.t 86) (.t 83) [3])]))
 (.seq (.reg false [qo 88 (.bin .eql (.t 36) (.c (.i .i64 3))),qm 87 88])
 (.cond (.t 87) (.seq (.reg false [qo 89 (.fa 1 (.t 3)),qo 90 (.ld none (.t 89)),qo 91 (.bin .geq (.t 90) (.c (.i .i64 1))),qm 92 91,qg 93 (.fa 1 (.t 3)) 92 true,qg 94 (.ld none (.t 93)) 92 true,qg 95 (.bin .leq (.t 94) (.c (.i .i64 4))) 92 true,qo 96 (.pick (.t 92) (.t 95) (.c (.b false))),qm 11 96])
 (.reg false [qo 97 (.fa 1 (.t 3)),qo 98 (.ld none (.t 97)),qo 99 (.fa 1 (.t 10)),qn (.st 1 (.t 99) (.t 98))]))
 (.seq (.reg false [qo 101 (.bin .eql (.t 36) (.c (.i .i64 4))),qm 100 101])
 (.cond (.t 100) (.seq (.reg false [qm 102 7,qm 103 102,qg 104 (.mv (.t 8)) 103 true,qo 105 (.pick (.t 103) (.t 104) (.c (.b false))),qm 106 105,qg 107 (.mv (.t 9)) 106 true,qo 108 (.pick (.t 106) (.t 107) (.c (.b false))),qm 109 108,qg 110 (.fa 5 (.t 3)) 109 true,qg 111 (.ld none (.t 110)) 109 true,qg 112 (.len (.t 111)) 109 true,qg 113 (.bin .leq (.t 112) (.c (.i .i64 7))) 109 true,qo 114 (.pick (.t 109) (.t 113) (.c (.b false))),qm 115 114,qg 116 (.fa 5 (.t 3)) 115 true,qg 117 (.ld none (.t 116)) 115 true,qg 118 (.fa 3 (.t 3)) 115 true,qg 119 (.ld none (.t 118)) 115 true,qg 120 (.call .pure (.c (.fn 110 [] [])) [.t 117,.t 119]) 115 true,qg 121 (.un .not (.t 120)) 115 true,qo 122 (.pick (.t 115) (.t 121) (.c (.b false))),qm 123 122,qg 124 (.fa 1 (.t 3)) 123 true,qg 125 (.ld none (.t 124)) 123 true,qg 126 (.bin .eql (.t 125) (.c (.i .i64 0))) 123 true,qg 127 (.mv (.t 126)) 123 true,qg 128 (.fa 1 (.t 3)) 127 false,qg 129 (.ld none (.t 128)) 127 false,qg 130 (.bin .eql (.t 129) (.c (.i .i64 1))) 127 false,qg 131 (.pick (.t 127) (.c (.b true)) (.t 130)) 123 true,qo 132 (.pick (.t 123) (.t 131) (.c (.b false))),qm 133 132,qg 134 (.fa 2 (.t 3)) 133 true,qg 135 (.ld none (.t 134)) 133 true,qg 136 (.bin .eql (.t 135) (.c (.i .i64 0))) 133 true,qg 137 (.mv (.t 136)) 133 true,qg 138 (.fa 2 (.t 3)) 137 false,qg 139 (.ld none (.t 138)) 137 false,qg 140 (.bin .eql (.t 139) (.c (.i .i64 2))) 137 false,qg 141 (.pick (.t 137) (.c (.b true)) (.t 140)) 133 true,qo 142 (.pick (.t 133) (.t 141) (.c (.b false))),qm 11 142])
 (.reg true [qo 143 (.fa 3 (.t 3)),qo 144 (.ldQ none (.t 143) 3),qo 145 (.fa 4 (.t 3)),qo 146 (.ldQ none (.t 145) 3),qo 147 (.fa 1 (.t 3)),qo 148 (.ldQ none (.t 147) 3),qo 149 (.fa 2 (.t 3)),qo 150 (.ldQ none (.t 149) 3),qo 151 (.fa 5 (.t 3)),qo 152 (.ldQ none (.t 151) 3),qo 153 (.fa 3 (.t 10)),qn (.stN 1 (.t 153) (.t 144) [3]),qo 154 (.fa 4 (.t 10)),qn (.stN 1 (.t 154) (.t 146) [3]),qo 155 (.fa 1 (.t 10)),qn (.stN 1 (.t 155) (.t 148) [3]),qo 156 (.fa 2 (.t 10)),qn (.stN 1 (.t 156) (.t 150) [3]),qo 157 (.fa 5 (.t 10)),qn (.stN 1 (.t 157) (.t 152) [3])]))
 (.seq (.reg false [qo 159 (.bin .eql (.t 36) (.c (.i .i64 5))),qm 158 159])
 (.cond (.t 158) (.seq (.reg false [qm 160 7,qm 161 160,qg 162 (.mv (.t 9)) 161 true,qo 163 (.pick (.t 161) (.t 162) (.c (.b false))),qm 11 163])
 (.reg true [qo 164 (.fa 3 (.t 3)),qo 165 (.ldQ none (.t 164) 3),qo 166 (.fa 5 (.t 3)),qo 167 (.ldQ none (.t 166) 3),qo 168 (.fa 3 (.t 10)),qn (.stN 1 (.t 168) (.t 165) [3]),qo 169 (.fa 5 (.t 10)),qn (.stN 1 (.t 169) (.t 167) [3])]))
 (.seq (.reg false [qo 171 (.bin .eql (.t 36) (.c (.i .i64 6))),qm 170 171])
 (.cond (.t 170) (.seq (.reg false [qm 172 9,qm 173 172,qg 174 (.fa 6 (.t 3)) 173 true,qg 175 (.ld none (.t 174)) 173 true,qg 176 (.bin .geq (.t 175) (.c (.i .i64 0))) 173 true,qo 177 (.pick (.t 173) (.t 176) (.c (.b false))),qm 178 177,qg 179 (.fa 6 (.t 3)) 178 true,qg 180 (.ld none (.t 179)) 178 true,qg 181 (.mv (.t 2)) 178 true,qg 182 (.bin .leq (.t 180) (.t 181)) 178 true,qo 183 (.pick (.t 178) (.t 182) (.c (.b false))),qm 11 183])
 (.reg true [qo 184 (.fa 6 (.t 3)),qo 185 (.ldQ none (.t 184) 3),qo 186 (.fa 5 (.t 3)),qo 187 (.ldQ none (.t 186) 3),qo 188 (.fa 6 (.t 10)),qn (.stN 1 (.t 188) (.t 185) [3]),qo 189 (.fa 5 (.t 10)),qn (.stN 1 (.t 189) (.t 187) [3])]))
 .skip))))))))))))))
 (.seq (.reg false [qm 190 11,qm 191 190,qg 192 (.ld (some 7) (.t 3)) 191 true,qg 193 (.ld (some 7) (.t 10)) 191 true,qg 194 (.call .pure (.c (.fn 111 [] [])) [.t 192,.t 193]) 191 true,qo 195 (.pick (.t 191) (.t 194) (.c (.b false))),qm 6 195])
 .ret)))))))) }
def A_xref04_Events:AFun:={ res:=[.t 2],body:=(.seq (.reg false [qo 2 (.mv (.c (.i .i64 0)))])
 (.seq (.reg false [qo 3 (.mv (.c (.i .i64 0)))])
 (.seq (.seq (.reg false [qo 4 (.mv (.c (.i .i64 0)))])
 (.blk 0 (.loop (.seq (.seq (.reg false [qm 5 4,qm 6 0,qo 7 (.len (.t 6)),qo 8 (.bin .lss (.t 5) (.t 7))])
 (.cond (.t 8) .skip
 (.ext 0)))
 (.seq (.blk 1 (.seq (.reg false [qm 11 0,qm 12 4,qo 13 (.ia 7 (.t 11) (.t 12)),qo 14 (.fa 0 (.t 13)),qo 15 (.ld none (.t 14))])
 (.blk 2 (.seq (.seq (.reg false [qo 17 (.bin .eql (.t 15) (.c (.i .i64 1))),qm 16 17])
 (.cond (.t 16) .skip
 (.seq (.reg false [qo 18 (.bin .eql (.t 15) (.c (.i .i64 2))),qm 16 18])
 (.cond (.t 16) .skip
 (.reg false [qo 19 (.bin .eql (.t 15) (.c (.i .i64 3))),qm 16 19])))))
 (.cond (.t 16) (.reg false [qm 20 3,qo 21 (.bin .add (.t 20) (.c (.i .i64 1))),qm 3 21])
 (.seq (.reg false [qo 23 (.bin .eql (.t 15) (.c (.i .i64 4))),qm 22 23])
 (.cond (.t 22) (.reg false [qm 24 3,qo 25 (.bin .add (.t 24) (.c (.i .i64 2))),qm 3 25])
 .skip)))))))
 (.reg false [qm 9 4,qo 10 (.bin .add (.t 9) (.c (.i .i64 1))),qm 4 10]))))))
 (.seq (.reg false [qm 26 3,qm 2 26])
 .ret)))) }
def A_xref04_Paths:AFun:={ res:=[.t 2],body:=(.seq (.reg false [qo 2 (.mv (.c (.i .i64 0)))])
 (.seq (.reg false [qo 3 (.mv (.c (.i .i64 1)))])
 (.seq (.seq (.reg false [qo 4 (.mv (.c (.i .i64 0)))])
 (.blk 0 (.loop (.seq (.seq (.reg false [qm 5 4,qm 6 0,qo 7 (.len (.t 6)),qo 8 (.bin .lss (.t 5) (.t 7))])
 (.cond (.t 8) .skip
 (.ext 0)))
 (.seq (.blk 1 (.seq (.reg false [qm 11 0,qm 12 4,qo 13 (.ia 7 (.t 11) (.t 12)),qo 14 (.fa 0 (.t 13)),qo 15 (.ld none (.t 14)),qo 16 (.bin .eql (.t 15) (.c (.i .i64 6)))])
 (.cond (.t 16) (.reg false [qm 17 3,qo 18 (.bin .mul (.c (.i .i64 2)) (.t 17)),qo 19 (.mn (.t 18) (.c (.i .i64 1000000))),qm 3 19])
 .skip)))
 (.reg false [qm 9 4,qo 10 (.bin .add (.t 9) (.c (.i .i64 1))),qm 4 10]))))))
 (.seq (.reg false [qm 20 3,qm 2 20])
 .ret)))) }
def A_xref04_Uses:AFun:={ res:=[.t 4],body:=(.seq (.reg false [qo 4 (.mv (.c (.b false)))])
 (.seq (.reg false [qm 7 0,qo 8 (.call .pure (.c (.fn 126 [] [])) [.t 7]),qm 5 8])
 (.seq (.seq (.reg false [qo 6 (.mv (.c (.i .i64 0)))])
 (.blk 0 (.loop (.seq (.seq (.reg false [qm 9 6,qm 10 5,qo 11 (.len (.t 10)),qo 12 (.bin .lss (.t 9) (.t 11))])
 (.cond (.t 12) .skip
 (.ext 0)))
 (.seq (.blk 1 (.seq (.reg false [qm 15 5,qm 16 6,qo 17 (.ia 1 (.t 15) (.t 16)),qo 18 (.ld none (.t 17)),qm 19 1,qo 20 (.bin .eql (.t 18) (.t 19))])
 (.cond (.t 20) (.seq (.reg false [qo 4 (.mv (.c (.b true)))])
 .ret)
 .skip)))
 (.reg false [qm 13 6,qo 14 (.bin .add (.t 13) (.c (.i .i64 1))),qm 6 14]))))))
 (.seq (.reg false [qo 4 (.mv (.c (.b false)))])
 .ret)))) }
end Go.Ab
end
section
namespace Go.Ab
def A_xref05_Put:AFun:={ res:=[.t 4],body:=(.seq (.reg false [qo 4 (.mv (.c (.sl [] 0 .rig)))])
 (.seq (.reg false [qo 5 (.mv (.c (.i .i64 0)))])
 (.seq (.blk 0 (.loop (.seq (.seq (.reg false [qm 6 5,qm 7 0,qo 8 (.len (.t 7)),qo 9 (.bin .lss (.t 6) (.t 8)),qm 10 9,qg 11 (.mv (.t 0)) 10 true,qg 12 (.mv (.t 5)) 10 true,qg 13 (.ia 1 (.t 11) (.t 12)) 10 true,qg 14 (.ld none (.t 13)) 10 true,qg 15 (.mv (.t 1)) 10 true,qg 16 (.bin .lss (.t 14) (.t 15)) 10 true,qo 17 (.pick (.t 10) (.t 16) (.c (.b false)))])
 (.cond (.t 17) .skip
 (.ext 0)))
 (.blk 1 (.reg false [qm 18 5,qo 19 (.bin .add (.t 18) (.c (.i .i64 1))),qm 5 19])))))
 (.seq (.seq (.reg false [qm 20 5,qm 21 0,qo 22 (.len (.t 21)),qo 23 (.bin .lss (.t 20) (.t 22)),qm 24 23,qg 25 (.mv (.t 0)) 24 true,qg 26 (.mv (.t 5)) 24 true,qg 27 (.ia 1 (.t 25) (.t 26)) 24 true,qg 28 (.ld none (.t 27)) 24 true,qg 29 (.mv (.t 1)) 24 true,qg 30 (.bin .eql (.t 28) (.t 29)) 24 true,qo 31 (.pick (.t 24) (.t 30) (.c (.b false)))])
 (.cond (.t 31) (.seq (.reg false [qm 32 0,qm 4 32])
 .ret)
 .skip))
 (.seq (.reg true [qm 33 0,qm 34 5,qo 35 (.slice 1 (.t 33) none (some (.t 34)) none),qo 36 (.app 1 8 (.c (.sl [] 0 .rig)) (.t 35)),qm 37 1,qo 38 (.bsl true 1 ([.i .i64 0]) [(0,1,.t 37)]),qp 39 (.app 1 8 (.t 36) (.t 38)) [3],qm 40 0,qm 41 5,qo 42 (.slice 1 (.t 40) (some (.t 41)) none none),qp 43 (.app 1 8 (.t 39) (.t 42)) [3,6],qm 4 43])
 .ret))))) }
end Go.Ab
end
section
namespace Go.Ab
def A_xref06_SameInts:AFun:={ res:=[.t 4],body:=(.seq (.reg false [qo 4 (.mv (.c (.b false)))])
 (.seq (.seq (.reg false [qm 6 0,qo 7 (.len (.t 6)),qm 8 1,qo 9 (.len (.t 8)),qo 10 (.bin .neq (.t 7) (.t 9))])
 (.cond (.t 10) (.seq (.reg false [qo 4 (.mv (.c (.b false)))])
 .ret)
 .skip))
 (.seq (.seq (.reg false [qo 5 (.mv (.c (.i .i64 0)))])
 (.blk 0 (.loop (.seq (.seq (.reg false [qm 11 5,qm 12 0,qo 13 (.len (.t 12)),qo 14 (.bin .lss (.t 11) (.t 13))])
 (.cond (.t 14) .skip
 (.ext 0)))
 (.seq (.blk 1 (.seq (.reg true [qm 17 0,qm 18 5,qo 19 (.ia 1 (.t 17) (.t 18)),qo 20 (.ld none (.t 19)),qm 21 1,qm 22 5,qo 23 (.ia 1 (.t 21) (.t 22)),qo 24 (.ld none (.t 23)),qo 25 (.bin .neq (.t 20) (.t 24))])
 (.cond (.t 25) (.seq (.reg false [qo 4 (.mv (.c (.b false)))])
 .ret)
 .skip)))
 (.reg false [qm 15 5,qo 16 (.bin .add (.t 15) (.c (.i .i64 1))),qm 5 16]))))))
 (.seq (.reg false [qo 4 (.mv (.c (.b true)))])
 .ret)))) }
end Go.Ab
end
section
namespace Go.Ab
def A_xref24_Apply:AFun:={ res:=[.cell 4 (some 2),.t 5],body:=(.seq (.reg false [qo 2 (.box (.t 0)),qo 3 (.box (.t 1)),qo 4 (.new ([.i .i64 0,.sl [] 0 .rig])),qo 5 (.mv (.c (.i .i64 0)))])
 (.seq (.seq (.reg false [qo 7 (.ld (some 2) (.t 2)),qo 8 (.call .pure (.c (.fn 87 [] [])) [.t 7]),qo 9 (.bin .neq (.t 8) (.c (.i .i64 0)))])
 (.cond (.t 9) (.seq (.reg false [qo 10 (.ld (some 2) (.t 2)),qn (.st 2 (.t 4) (.t 10)),qo 5 (.mv (.c (.i .i64 3)))])
 .ret)
 .skip))
 (.seq (.seq (.reg false [qo 11 (.ld (some 2) (.t 2)),qo 12 (.ld (some 4) (.t 3)),qo 13 (.call .pure (.c (.fn 548 [] [])) [.t 11,.t 12]),qo 14 (.un .not (.t 13))])
 (.cond (.t 14) (.seq (.reg false [qo 15 (.ld (some 2) (.t 2)),qn (.st 2 (.t 4) (.t 15)),qo 5 (.mv (.c (.i .i64 7)))])
 .ret)
 .skip))
 (.seq (.reg true [qo 16 (.fa 0 (.t 2)),qo 17 (.ld none (.t 16)),qo 18 (.fa 1 (.t 2)),qo 19 (.ld none (.t 18)),qo 20 (.appM 1 24 (.c (.sl [] 0 .rig)) (.t 19)),qo 21 (.build ([.i .i64 0,.sl [] 0 .rig]) [(0,1,.t 17),(1,1,.t 20)]),qo 6 (.new ([.i .i64 0,.sl [] 0 .rig])),qnp (.stL 2 (.t 6) (.t 21)) [6]])
 (.seq (.reg true [qo 22 (.fa 1 (.t 6)),qo 23 (.ld none (.t 22)),qo 24 (.fa 1 (.t 3)),qo 25 (.ld none (.t 24)),qo 26 (.fa 1 (.t 2)),qo 27 (.ld none (.t 26)),qo 28 (.fa 1 (.t 3)),qo 29 (.ld none (.t 28)),qo 30 (.ia 1 (.t 27) (.t 29)),qo 31 (.ld none (.t 30)),qo 32 (.ld (some 4) (.t 3)),qo 33 (.call .pure (.c (.fn 553 [] [])) [.t 31,.t 32]),qo 34 (.ia 1 (.t 23) (.t 25)),qn (.st 1 (.t 34) (.t 33))])
 (.seq (.seq (.reg false [qo 35 (.ld (some 2) (.t 6)),qo 36 (.call .pure (.c (.fn 87 [] [])) [.t 35]),qo 37 (.bin .eql (.t 36) (.c (.i .i64 4)))])
 (.cond (.t 37) (.seq (.reg false [qo 38 (.ld (some 2) (.t 2)),qn (.st 2 (.t 4) (.t 38)),qo 5 (.mv (.c (.i .i64 4)))])
 .ret)
 .skip))
 (.seq (.reg false [qo 39 (.ld (some 2) (.t 6)),qn (.st 2 (.t 4) (.t 39)),qo 5 (.mv (.c (.i .i64 0)))])
 .ret))))))) }
def A_xref24_Can:AFun:={ res:=[.t 4],body:=(.seq (.reg false [qo 2 (.box (.t 0)),qo 3 (.box (.t 1)),qo 4 (.mv (.c (.b false)))])
 (.seq (.seq (.reg false [qo 6 (.ld (some 2) (.t 2)),qo 7 (.call .pure (.c (.fn 87 [] [])) [.t 6]),qo 8 (.bin .neq (.t 7) (.c (.i .i64 0))),qm 9 8,qg 10 (.fa 1 (.t 3)) 9 false,qg 11 (.ld none (.t 10)) 9 false,qg 12 (.bin .lss (.t 11) (.c (.i .i64 0))) 9 false,qo 13 (.pick (.t 9) (.c (.b true)) (.t 12)),qm 14 13,qg 15 (.fa 1 (.t 3)) 14 false,qg 16 (.ld none (.t 15)) 14 false,qg 17 (.fa 1 (.t 2)) 14 false,qg 18 (.ld none (.t 17)) 14 false,qg 19 (.len (.t 18)) 14 false,qg 20 (.bin .geq (.t 16) (.t 19)) 14 false,qo 21 (.pick (.t 14) (.c (.b true)) (.t 20))])
 (.cond (.t 21) (.seq (.reg false [qo 4 (.mv (.c (.b false)))])
 .ret)
 .skip))
 (.seq (.reg false [qo 22 (.fa 1 (.t 2)),qo 23 (.ld none (.t 22)),qo 24 (.fa 1 (.t 3)),qo 25 (.ld none (.t 24)),qo 26 (.ia 1 (.t 23) (.t 25)),qo 27 (.ld none (.t 26)),qm 5 27])
 (.seq (.seq (.reg false [qo 28 (.fa 0 (.t 3)),qo 29 (.ld none (.t 28)),qo 30 (.bin .eql (.t 29) (.c (.i .i64 7)))])
 (.cond (.t 30) (.seq (.reg false [qo 31 (.fa 2 (.t 3)),qo 32 (.ld none (.t 31)),qo 33 (.bin .geq (.t 32) (.c (.i .i64 0))),qm 34 33,qg 35 (.fa 2 (.t 3)) 34 true,qg 36 (.ld none (.t 35)) 34 true,qg 37 (.mv (.t 5)) 34 true,qg 38 (.len (.t 37)) 34 true,qg 39 (.bin .leq (.t 36) (.t 38)) 34 true,qo 40 (.pick (.t 34) (.t 39) (.c (.b false))),qm 41 40,qg 42 (.fa 3 (.t 3)) 41 true,qg 43 (.ld none (.t 42)) 41 true,qg 44 (.bin .geq (.t 43) (.c (.i .i64 1))) 41 true,qo 45 (.pick (.t 41) (.t 44) (.c (.b false))),qm 46 45,qg 47 (.fa 3 (.t 3)) 46 true,qg 48 (.ld none (.t 47)) 46 true,qg 49 (.bin .leq (.t 48) (.c (.i .i64 4))) 46 true,qo 50 (.pick (.t 46) (.t 49) (.c (.b false))),qm 4 50])
 .ret)
 .skip))
 (.seq (.seq (.reg false [qo 51 (.fa 2 (.t 3)),qo 52 (.ld none (.t 51)),qo 53 (.bin .lss (.t 52) (.c (.i .i64 0))),qm 54 53,qg 55 (.fa 2 (.t 3)) 54 false,qg 56 (.ld none (.t 55)) 54 false,qg 57 (.mv (.t 5)) 54 false,qg 58 (.len (.t 57)) 54 false,qg 59 (.bin .geq (.t 56) (.t 58)) 54 false,qo 60 (.pick (.t 54) (.c (.b true)) (.t 59))])
 (.cond (.t 60) (.seq (.reg false [qo 4 (.mv (.c (.b false)))])
 .ret)
 .skip))
 (.seq (.blk 0 (.seq (.reg false [qo 62 (.fa 0 (.t 3)),qo 63 (.ld none (.t 62)),qo 64 (.bin .eql (.t 63) (.c (.i .i64 6))),qm 61 64])
 (.cond (.t 61) (.seq (.reg true [qm 65 5,qo 66 (.fa 2 (.t 3)),qo 67 (.ld none (.t 66)),qo 68 (.ia 7 (.t 65) (.t 67)),qo 69 (.ld (some 7) (.t 68)),qo 70 (.fa 3 (.t 3)),qo 71 (.ld none (.t 70)),qo 72 (.call .pure (.c (.fn 554 [] [])) [.t 69,.t 71]),qm 4 72])
 .ret)
 (.seq (.reg false [qo 74 (.fa 0 (.t 3)),qo 75 (.ld none (.t 74)),qo 76 (.bin .eql (.t 75) (.c (.i .i64 8))),qm 73 76])
 (.cond (.t 73) (.seq (.reg false [qo 77 (.fa 3 (.t 3)),qo 78 (.ld none (.t 77)),qo 79 (.bin .eql (.t 78) (.c (.i .i64 0))),qm 80 79,qg 81 (.mv (.t 5)) 80 true,qg 82 (.fa 2 (.t 3)) 80 true,qg 83 (.ld none (.t 82)) 80 true,qg 84 (.ia 7 (.t 81) (.t 83)) 80 true,qg 85 (.ld (some 7) (.t 84)) 80 true,qg 86 (.call .pure (.c (.fn 555 [] [])) [.t 85]) 80 true,qo 87 (.pick (.t 80) (.t 86) (.c (.b false))),qm 4 87])
 .ret)
 (.seq (.reg false [qo 89 (.fa 0 (.t 3)),qo 90 (.ld none (.t 89)),qo 91 (.bin .lss (.t 90) (.c (.i .i64 1))),qm 92 91,qg 93 (.fa 0 (.t 3)) 92 false,qg 94 (.ld none (.t 93)) 92 false,qg 95 (.bin .gtr (.t 94) (.c (.i .i64 5))) 92 false,qo 96 (.pick (.t 92) (.c (.b true)) (.t 95)),qm 88 96])
 (.cond (.t 88) (.seq (.reg false [qo 4 (.mv (.c (.b false)))])
 .ret)
 .skip)))))))
 (.seq (.reg true [qo 97 (.fa 3 (.t 3)),qo 98 (.ld none (.t 97)),qo 99 (.bin .eql (.t 98) (.c (.i .i64 0))),qm 100 99,qg 101 (.fa 2 (.t 3)) 100 true,qg 102 (.ld none (.t 101)) 100 true,qg 103 (.bin .add (.t 102) (.c (.i .i64 1))) 100 true,qg 104 (.mv (.t 5)) 100 true,qg 105 (.len (.t 104)) 100 true,qg 106 (.bin .lss (.t 103) (.t 105)) 100 true,qo 107 (.pick (.t 100) (.t 106) (.c (.b false))),qm 108 107,qg 109 (.mv (.t 5)) 108 true,qg 110 (.fa 2 (.t 3)) 108 true,qg 111 (.ld none (.t 110)) 108 true,qg 112 (.bin .add (.t 111) (.c (.i .i64 1))) 108 true,qg 113 (.call .pure (.c (.fn 556 [] [])) [.t 109,.t 112]) 108 true,qg 114 (.un .not (.t 113)) 108 true,qo 115 (.pick (.t 108) (.t 114) (.c (.b false))),qm 116 115,qg 117 (.mv (.t 5)) 116 true,qg 118 (.fa 2 (.t 3)) 116 true,qg 119 (.ld none (.t 118)) 116 true,qg 120 (.ia 7 (.t 117) (.t 119)) 116 true,qg 121 (.ld (some 7) (.t 120)) 116 true,qg 122 (.mv (.t 5)) 116 true,qg 123 (.fa 2 (.t 3)) 116 true,qg 124 (.ld none (.t 123)) 116 true,qg 125 (.bin .add (.t 124) (.c (.i .i64 1))) 116 true,qg 126 (.ia 7 (.t 122) (.t 125)) 116 true,qg 127 (.ld (some 7) (.t 126)) 116 true,qg 128 (.fa 0 (.t 3)) 116 true,qg 129 (.ld none (.t 128)) 116 true,qg 130 (.call .pure (.c (.fn 557 [] [])) [.t 121,.t 127,.t 129]) 116 true,qo 131 (.pick (.t 116) (.t 130) (.c (.b false))),qm 4 131])
 .ret))))))) }
def A_xref24_Join:AFun:={ res:=[.t 4],body:=(.seq (.reg false [qo 4 (.mv (.c (.i .i64 0)))])
 (.seq (.blk 0 (.seq (.reg false [qm 6 0,qo 7 (.bin .lss (.t 6) (.c (.i .i64 1))),qm 8 7,qg 9 (.mv (.t 0)) 8 false,qg 10 (.bin .gtr (.t 9) (.c (.i .i64 4))) 8 false,qo 11 (.pick (.t 8) (.c (.b true)) (.t 10)),qm 12 11,qg 13 (.mv (.t 1)) 12 false,qg 14 (.bin .lss (.t 13) (.c (.i .i64 1))) 12 false,qo 15 (.pick (.t 12) (.c (.b true)) (.t 14)),qm 16 15,qg 17 (.mv (.t 1)) 16 false,qg 18 (.bin .gtr (.t 17) (.c (.i .i64 4))) 16 false,qo 19 (.pick (.t 16) (.c (.b true)) (.t 18)),qm 5 19])
 (.cond (.t 5) (.seq (.reg false [qo 4 (.mv (.c (.i .i64 0)))])
 .ret)
 (.seq (.reg false [qm 21 0,qm 22 1,qo 23 (.bin .eql (.t 21) (.t 22)),qm 20 23])
 (.cond (.t 20) (.seq (.reg false [qm 24 0,qm 4 24])
 .ret)
 (.seq (.reg false [qm 26 0,qo 27 (.bin .eql (.t 26) (.c (.i .i64 4))),qm 28 27,qg 29 (.mv (.t 1)) 28 false,qg 30 (.bin .eql (.t 29) (.c (.i .i64 4))) 28 false,qo 31 (.pick (.t 28) (.c (.b true)) (.t 30)),qm 25 31])
 (.cond (.t 25) (.seq (.reg false [qo 4 (.mv (.c (.i .i64 4)))])
 .ret)
 .skip)))))))
 (.seq (.reg false [qo 4 (.mv (.c (.i .i64 3)))])
 .ret))) }
def A_xref24_Targets:AFun:={ res:=[.t 2],body:=(.seq (.reg false [qo 2 (.mv (.c (.sl [] 0 .rig)))])
 (.seq (.reg false [qo 3 (.mv (.c (.sl [] 0 .rig)))])
 (.seq (.seq (.reg false [qo 4 (.mv (.c (.i .i64 0)))])
 (.blk 0 (.loop (.seq (.seq (.reg false [qm 5 4,qm 6 0,qo 7 (.len (.t 6)),qo 8 (.bin .lss (.t 5) (.t 7))])
 (.cond (.t 8) .skip
 (.ext 0)))
 (.seq (.blk 1 (.seq (.reg false [qm 11 0,qm 12 4,qo 13 (.ia 7 (.t 11) (.t 12)),qo 14 (.fa 0 (.t 13)),qo 15 (.ld none (.t 14)),qo 16 (.bin .eql (.t 15) (.c (.i .i64 6)))])
 (.cond (.t 16) (.reg false [qm 17 3,qm 18 4,qo 19 (.bin .add (.t 18) (.c (.i .i64 1))),qm 20 0,qm 21 4,qo 22 (.ia 7 (.t 20) (.t 21)),qo 23 (.fa 6 (.t 22)),qo 24 (.ld none (.t 23)),qo 25 (.bin .add (.t 19) (.t 24)),qo 26 (.call .pure (.c (.fn 132 [] [])) [.t 17,.t 25]),qm 3 26])
 .skip)))
 (.reg false [qm 9 4,qo 10 (.bin .add (.t 9) (.c (.i .i64 1))),qm 4 10]))))))
 (.seq (.reg false [qm 27 3,qm 2 27])
 .ret)))) }
def A_xref24_turned:AFun:={ res:=[.t 4],body:=(.seq (.reg false [qo 3 (.box (.t 1)),qo 4 (.mv (.c (.sl [] 0 .rig)))])
 (.seq (.reg false [qm 6 0,qo 7 (.appM 7 72 (.c (.sl [] 0 .rig)) (.t 6)),qm 5 7])
 (.seq (.seq (.reg false [qo 8 (.fa 0 (.t 3)),qo 9 (.ld none (.t 8))])
 (.blk 0 (.seq (.reg false [qo 11 (.bin .eql (.t 9) (.c (.i .i64 1))),qm 10 11])
 (.cond (.t 10) (.lckS 3 (.reg true [qm 12 5,qo 13 (.fa 2 (.t 3)),qo 14 (.ldF none (.t 13)),qm 15 5,qo 16 (.fa 2 (.t 3)),qo 17 (.ldF none (.t 16)),qo 18 (.bin .add (.t 17) (.c (.i .i64 1))),qm 19 5,qo 20 (.fa 2 (.t 3)),qo 21 (.ldF none (.t 20)),qo 22 (.bin .add (.t 21) (.c (.i .i64 1))),qo 23 (.ia 7 (.t 19) (.t 22)),qo 24 (.ld (some 7) (.t 23)),qm 25 5,qo 26 (.fa 2 (.t 3)),qo 27 (.ldF none (.t 26)),qo 28 (.ia 7 (.t 25) (.t 27)),qo 29 (.ld (some 7) (.t 28)),qo 30 (.ia 7 (.t 12) (.t 14)),qn (.stW 7 (.t 30) (.t 24)),qo 31 (.ia 7 (.t 15) (.t 18)),qn (.stW 7 (.t 31) (.t 29))]))
 (.seq (.reg false [qo 33 (.bin .eql (.t 9) (.c (.i .i64 2))),qm 32 33])
 (.cond (.t 32) (.seq (.lck 5 (.reg false [qm 34 5,qo 35 (.fa 2 (.t 3)),qo 36 (.ld none (.t 35)),qo 37 (.call .pure (.c (.fn 558 [] [])) [.t 34,.t 36]),qm 4 37]))
 .ret)
 (.seq (.reg false [qo 39 (.bin .eql (.t 9) (.c (.i .i64 3))),qm 38 39])
 (.cond (.t 38) (.reg true [qm 40 5,qo 41 (.fa 2 (.t 3)),qo 42 (.ld none (.t 41)),qo 43 (.bin .add (.t 42) (.c (.i .i64 1))),qm 44 5,qo 45 (.fa 2 (.t 3)),qo 46 (.ld none (.t 45)),qo 47 (.bin .add (.t 46) (.c (.i .i64 1))),qo 48 (.ia 7 (.t 44) (.t 47)),qo 49 (.fa 3 (.t 48)),qo 50 (.ld none (.t 49)),qm 51 5,qo 52 (.fa 2 (.t 3)),qo 53 (.ld none (.t 52)),qo 54 (.ia 7 (.t 51) (.t 53)),qo 55 (.fa 5 (.t 54)),qo 56 (.ld none (.t 55)),qo 57 (.build (List.replicate 5 (.i .i64 0) ++ [.sl [] 0 .rig,.i .i64 0]) [(0,1,.c (.i .i64 5)),(3,1,.t 50),(5,1,.t 56)]),qo 58 (.ia 7 (.t 40) (.t 43)),qn (.st 7 (.t 58) (.t 57))])
 (.seq (.reg false [qo 60 (.bin .eql (.t 9) (.c (.i .i64 4))),qm 59 60])
 (.cond (.t 59) (.reg true [qm 61 5,qo 62 (.fa 2 (.t 3)),qo 63 (.ld none (.t 62)),qo 64 (.bin .add (.t 63) (.c (.i .i64 1))),qm 65 5,qo 66 (.fa 2 (.t 3)),qo 67 (.ld none (.t 66)),qo 68 (.bin .add (.t 67) (.c (.i .i64 1))),qo 69 (.ia 7 (.t 65) (.t 68)),qo 70 (.fa 3 (.t 69)),qo 71 (.ld none (.t 70)),qm 72 5,qo 73 (.fa 2 (.t 3)),qo 74 (.ld none (.t 73)),qo 75 (.ia 7 (.t 72) (.t 74)),qo 76 (.fa 3 (.t 75)),qo 77 (.ld none (.t 76)),qo 78 (.build ([.i .i64 0,.i .i64 0]) [(0,1,.c (.i .i64 2)),(1,1,.t 77)]),qo 79 (.bsl true 1 ([.i .i64 0,.i .i64 0]) [(0,2,.t 78)]),qo 80 (.build (List.replicate 5 (.i .i64 0) ++ [.sl [] 0 .rig,.i .i64 0]) [(0,1,.c (.i .i64 5)),(3,1,.t 71),(5,1,.t 79)]),qo 81 (.ia 7 (.t 61) (.t 64)),qn (.st 7 (.t 81) (.t 80))])
 (.seq (.reg false [qo 83 (.bin .eql (.t 9) (.c (.i .i64 5))),qm 82 83])
 (.cond (.t 82) (.seq (.reg true [qm 84 5,qo 85 (.fa 2 (.t 3)),qo 86 (.ld none (.t 85)),qm 87 5,qo 88 (.fa 2 (.t 3)),qo 89 (.ld none (.t 88)),qo 90 (.ia 7 (.t 87) (.t 89)),qo 91 (.fa 1 (.t 90)),qo 92 (.ld none (.t 91)),qm 93 5,qo 94 (.fa 2 (.t 3)),qo 95 (.ld none (.t 94)),qo 96 (.bin .add (.t 95) (.c (.i .i64 1))),qo 97 (.ia 7 (.t 93) (.t 96)),qo 98 (.fa 1 (.t 97)),qo 99 (.ld none (.t 98)),qo 100 (.call .pure (.c (.fn 550 [] [])) [.t 92,.t 99]),qo 101 (.ia 7 (.t 84) (.t 86)),qo 102 (.fa 1 (.t 101)),qn (.st 1 (.t 102) (.t 100))])
 (.seq (.lck 5 (.reg false [qm 103 5,qo 104 (.fa 2 (.t 3)),qo 105 (.ld none (.t 104)),qo 106 (.bin .add (.t 105) (.c (.i .i64 1))),qo 107 (.call .pure (.c (.fn 558 [] [])) [.t 103,.t 106]),qm 4 107]))
 .ret))
 (.seq (.reg false [qo 109 (.bin .eql (.t 9) (.c (.i .i64 6))),qm 108 109])
 (.cond (.t 108) (.seq (.reg false [qm 110 5,qo 111 (.fa 2 (.t 3)),qo 112 (.ld none (.t 111)),qo 113 (.ia 7 (.t 110) (.t 112)),qo 114 (.fa 0 (.t 113)),qo 115 (.ld none (.t 114)),qo 116 (.bin .eql (.t 115) (.c (.i .i64 4))),qm 117 116,qg 118 (.fa 3 (.t 3)) 117 true,qg 119 (.ld none (.t 118)) 117 true,qg 120 (.bin .eql (.t 119) (.c (.i .i64 2))) 117 true,qo 121 (.pick (.t 117) (.t 120) (.c (.b false)))])
 (.cond (.t 121) (.reg false [qm 122 5,qo 123 (.fa 2 (.t 3)),qo 124 (.ld none (.t 123)),qo 125 (.ia 7 (.t 122) (.t 124)),qo 126 (.fa 2 (.t 125)),qn (.st 1 (.t 126) (.c (.i .i64 2)))])
 (.reg false [qm 127 5,qo 128 (.fa 2 (.t 3)),qo 129 (.ld none (.t 128)),qo 130 (.fa 3 (.t 3)),qo 131 (.ld none (.t 130)),qo 132 (.ia 7 (.t 127) (.t 129)),qo 133 (.fa 1 (.t 132)),qn (.st 1 (.t 133) (.t 131))])))
 (.seq (.reg false [qo 135 (.bin .eql (.t 9) (.c (.i .i64 7))),qm 134 135])
 (.cond (.t 134) (.seq (.lck 5 (.reg false [qm 136 5,qo 137 (.fa 2 (.t 3)),qo 138 (.ld none (.t 137)),qo 139 (.call .pure (.c (.fn 559 [] [])) [.t 136,.t 138,.c (.i .i64 1)]),qm 5 139]))
 (.seq (.reg true [qm 140 5,qo 141 (.fa 2 (.t 3)),qo 142 (.ld none (.t 141)),qo 143 (.slice 7 (.t 140) none (some (.t 142)) none),qo 144 (.app 7 72 (.c (.sl [] 0 .rig)) (.t 143)),qo 145 (.fa 3 (.t 3)),qo 146 (.ld none (.t 145)),qo 147 (.build (List.replicate 5 (.i .i64 0) ++ [.sl [] 0 .rig,.i .i64 0]) [(0,1,.c (.i .i64 3)),(1,1,.t 146)]),qo 148 (.bsl true 1 (List.replicate 5 (.i .i64 0) ++ [.sl [] 0 .rig,.i .i64 0]) [(0,7,.t 147)]),qp 149 (.app 7 72 (.t 144) (.t 148)) [4],qm 150 5,qo 151 (.fa 2 (.t 3)),qo 152 (.ld none (.t 151)),qo 153 (.slice 7 (.t 150) (some (.t 152)) none none),qp 154 (.app 7 72 (.t 149) (.t 153)) [4,9],qm 4 154])
 .ret))
 (.seq (.reg false [qo 156 (.bin .eql (.t 9) (.c (.i .i64 8))),qm 155 156])
 (.cond (.t 155) (.reg true [qm 157 5,qo 158 (.fa 2 (.t 3)),qo 159 (.ld none (.t 158)),qm 160 5,qo 161 (.fa 2 (.t 3)),qo 162 (.ld none (.t 161)),qo 163 (.ia 7 (.t 160) (.t 162)),qo 164 (.fa 5 (.t 163)),qo 165 (.ld none (.t 164)),qo 166 (.call .pure (.c (.fn 115 [] [])) [.t 165,.c (.sl [] 0 .rig)]),qo 167 (.build ([.i .i64 0,.i .i64 0]) [(0,1,.c (.i .i64 1)),(1,1,.t 166)]),qo 168 (.bsl true 1 ([.i .i64 0,.i .i64 0]) [(0,2,.t 167)]),qo 169 (.ia 7 (.t 157) (.t 159)),qo 170 (.fa 5 (.t 169)),qn (.st 1 (.t 170) (.t 168))])
 .skip))))))))))))))))))
 (.seq (.reg false [qm 171 5,qm 4 171])
 .ret)))) }
def A_xref24_stronger:AFun:={ res:=[.t 4],body:=(.seq (.reg false [qo 2 (.box (.t 0)),qo 4 (.mv (.c (.b false)))])
 (.seq (.seq (.reg false [qo 5 (.fa 0 (.t 2)),qo 6 (.ld none (.t 5))])
 (.blk 0 (.seq (.reg false [qo 8 (.bin .eql (.t 6) (.c (.i .i64 1))),qm 7 8])
 (.cond (.t 7) (.seq (.reg false [qo 9 (.fa 1 (.t 2)),qo 10 (.ld none (.t 9)),qo 11 (.bin .eql (.t 10) (.c (.i .i64 0))),qm 12 11,qg 13 (.mv (.t 1)) 12 true,qg 14 (.bin .eql (.t 13) (.c (.i .i64 1))) 12 true,qo 15 (.pick (.t 12) (.t 14) (.c (.b false))),qm 4 15])
 .ret)
 (.seq (.reg false [qo 17 (.bin .eql (.t 6) (.c (.i .i64 2))),qm 16 17])
 (.cond (.t 16) (.seq (.reg false [qo 18 (.fa 1 (.t 2)),qo 19 (.ld none (.t 18)),qo 20 (.bin .eql (.t 19) (.c (.i .i64 0))),qm 21 20,qg 22 (.mv (.t 1)) 21 true,qg 23 (.bin .eql (.t 22) (.c (.i .i64 2))) 21 true,qo 24 (.pick (.t 21) (.t 23) (.c (.b false))),qm 4 24])
 .ret)
 (.seq (.reg false [qo 26 (.bin .eql (.t 6) (.c (.i .i64 4))),qm 25 26])
 (.cond (.t 25) (.seq (.reg false [qo 27 (.fa 1 (.t 2)),qo 28 (.ld none (.t 27)),qo 29 (.bin .eql (.t 28) (.c (.i .i64 0))),qm 30 29,qg 31 (.mv (.t 1)) 30 true,qg 32 (.bin .eql (.t 31) (.c (.i .i64 1))) 30 true,qo 33 (.pick (.t 30) (.t 32) (.c (.b false))),qm 34 33,qg 35 (.fa 2 (.t 2)) 34 false,qg 36 (.ld none (.t 35)) 34 false,qg 37 (.bin .eql (.t 36) (.c (.i .i64 0))) 34 false,qg 38 (.mv (.t 37)) 34 false,qg 39 (.mv (.t 1)) 38 true,qg 40 (.bin .eql (.t 39) (.c (.i .i64 2))) 38 true,qg 41 (.pick (.t 38) (.t 40) (.c (.b false))) 34 false,qo 42 (.pick (.t 34) (.c (.b true)) (.t 41)),qm 4 42])
 .ret)
 (.seq (.reg false [qo 44 (.bin .eql (.t 6) (.c (.i .i64 3))),qm 43 44])
 (.cond (.t 43) (.seq (.reg false [qm 45 1,qo 46 (.bin .geq (.t 45) (.c (.i .i64 1))),qm 47 46,qg 48 (.mv (.t 1)) 47 true,qg 49 (.bin .leq (.t 48) (.c (.i .i64 4))) 47 true,qo 50 (.pick (.t 47) (.t 49) (.c (.b false))),qm 51 50,qg 52 (.mv (.t 1)) 51 true,qg 53 (.fa 1 (.t 2)) 51 true,qg 54 (.ld none (.t 53)) 51 true,qg 55 (.bin .neq (.t 52) (.t 54)) 51 true,qo 56 (.pick (.t 51) (.t 55) (.c (.b false))),qm 57 56,qg 58 (.fa 1 (.t 2)) 57 true,qg 59 (.ld none (.t 58)) 57 true,qg 60 (.mv (.t 1)) 57 true,qg 61 (.call .pure (.c (.fn 550 [] [])) [.t 59,.t 60]) 57 true,qg 62 (.mv (.t 1)) 57 true,qg 63 (.bin .eql (.t 61) (.t 62)) 57 true,qo 64 (.pick (.t 57) (.t 63) (.c (.b false))),qm 4 64])
 .ret)
 .skip))))))))))
 (.seq (.reg false [qo 4 (.mv (.c (.b false)))])
 .ret))) }
def A_xref24_folds:AFun:={ res:=[.t 2],body:=(.seq (.reg false [qo 1 (.box (.t 0)),qo 2 (.mv (.c (.b false)))])
 (.seq (.reg false [qo 4 (.fa 5 (.t 1)),qo 5 (.ld none (.t 4)),qo 6 (.call .pure (.c (.fn 115 [] [])) [.t 5,.c (.sl [] 0 .rig)]),qm 3 6])
 (.seq (.reg false [qo 7 (.fa 5 (.t 1)),qo 8 (.ld none (.t 7)),qo 9 (.len (.t 8)),qo 10 (.bin .gtr (.t 9) (.c (.i .i64 1))),qm 11 10,qg 12 (.fa 5 (.t 1)) 11 true,qg 13 (.ld none (.t 12)) 11 true,qg 14 (.call .pure (.c (.fn 126 [] [])) [.t 13]) 11 true,qg 15 (.len (.t 14)) 11 true,qg 16 (.bin .eql (.t 15) (.c (.i .i64 0))) 11 true,qo 17 (.pick (.t 11) (.t 16) (.c (.b false))),qm 18 17,qg 19 (.mv (.t 3)) 18 true,qg 20 (.bin .geq (.t 19) (.c (.i .i64 (-2147483648)))) 18 true,qo 21 (.pick (.t 18) (.t 20) (.c (.b false))),qm 22 21,qg 23 (.mv (.t 3)) 22 true,qg 24 (.bin .leq (.t 23) (.c (.i .i64 2147483647))) 22 true,qo 25 (.pick (.t 22) (.t 24) (.c (.b false))),qm 2 25])
 .ret))) }
def A_xref24_target:AFun:={ res:=[.t 4],body:=(.seq (.reg false [qo 4 (.mv (.c (.b false)))])
 (.seq (.reg false [qm 7 0,qo 8 (.call .pure (.c (.fn 552 [] [])) [.t 7]),qm 5 8])
 (.seq (.seq (.reg false [qo 6 (.mv (.c (.i .i64 0)))])
 (.blk 0 (.loop (.seq (.seq (.reg false [qm 9 6,qm 10 5,qo 11 (.len (.t 10)),qo 12 (.bin .lss (.t 9) (.t 11))])
 (.cond (.t 12) .skip
 (.ext 0)))
 (.seq (.blk 1 (.seq (.reg false [qm 15 5,qm 16 6,qo 17 (.ia 1 (.t 15) (.t 16)),qo 18 (.ld none (.t 17)),qm 19 1,qo 20 (.bin .eql (.t 18) (.t 19))])
 (.cond (.t 20) (.seq (.reg false [qo 4 (.mv (.c (.b true)))])
 .ret)
 .skip)))
 (.reg false [qm 13 6,qo 14 (.bin .add (.t 13) (.c (.i .i64 1))),qm 6 14]))))))
 (.seq (.reg false [qo 4 (.mv (.c (.b false)))])
 .ret)))) }
def A_xref24_pair:AFun:={ res:=[.t 6],body:=(.seq (.reg false [qo 3 (.box (.t 0)),qo 4 (.box (.t 1)),qo 6 (.mv (.c (.b false)))])
 (.seq (.reg false [qo 8 (.fa 4 (.t 3)),qo 9 (.ld none (.t 8)),qo 10 (.fa 4 (.t 4)),qo 11 (.ld none (.t 10)),qo 12 (.bin .eql (.t 9) (.t 11)),qm 7 12])
 (.seq (.seq (.reg false [qm 13 2])
 (.blk 0 (.seq (.reg false [qo 15 (.bin .eql (.t 13) (.c (.i .i64 1))),qm 14 15])
 (.cond (.t 14) (.seq (.reg false [qo 16 (.ld (some 7) (.t 3)),qo 17 (.ld (some 7) (.t 4)),qo 18 (.call .pure (.c (.fn 560 [] [])) [.t 16,.t 17]),qm 6 18])
 .ret)
 (.seq (.reg false [qo 20 (.bin .eql (.t 13) (.c (.i .i64 2))),qm 19 20])
 (.cond (.t 19) (.seq (.reg false [qo 21 (.fa 0 (.t 3)),qo 22 (.ld none (.t 21)),qo 23 (.bin .eql (.t 22) (.c (.i .i64 2))),qm 24 23,qg 25 (.fa 0 (.t 4)) 24 true,qg 26 (.ld none (.t 25)) 24 true,qg 27 (.bin .eql (.t 26) (.c (.i .i64 2))) 24 true,qo 28 (.pick (.t 24) (.t 27) (.c (.b false))),qm 29 28,qg 30 (.mv (.t 7)) 29 true,qo 31 (.pick (.t 29) (.t 30) (.c (.b false))),qm 32 31,qg 33 (.fa 5 (.t 3)) 32 true,qg 34 (.ld none (.t 33)) 32 true,qg 35 (.call .pure (.c (.fn 126 [] [])) [.t 34]) 32 true,qg 36 (.len (.t 35)) 32 true,qg 37 (.bin .eql (.t 36) (.c (.i .i64 0))) 32 true,qo 38 (.pick (.t 32) (.t 37) (.c (.b false))),qm 39 38,qg 40 (.fa 1 (.t 3)) 39 true,qg 41 (.ld none (.t 40)) 39 true,qg 42 (.bin .eql (.t 41) (.c (.i .i64 0))) 39 true,qg 43 (.mv (.t 42)) 39 true,qg 44 (.fa 1 (.t 4)) 43 false,qg 45 (.ld none (.t 44)) 43 false,qg 46 (.bin .eql (.t 45) (.c (.i .i64 2))) 43 false,qg 47 (.pick (.t 43) (.c (.b true)) (.t 46)) 39 true,qo 48 (.pick (.t 39) (.t 47) (.c (.b false))),qm 6 48])
 .ret)
 (.seq (.reg false [qo 50 (.bin .eql (.t 13) (.c (.i .i64 3))),qm 49 50])
 (.cond (.t 49) (.seq (.reg false [qo 51 (.fa 0 (.t 3)),qo 52 (.ld none (.t 51)),qo 53 (.bin .eql (.t 52) (.c (.i .i64 2))),qm 54 53,qg 55 (.fa 0 (.t 4)) 54 true,qg 56 (.ld none (.t 55)) 54 true,qg 57 (.bin .eql (.t 56) (.c (.i .i64 1))) 54 true,qo 58 (.pick (.t 54) (.t 57) (.c (.b false))),qm 59 58,qg 60 (.mv (.t 7)) 59 true,qo 61 (.pick (.t 59) (.t 60) (.c (.b false))),qm 62 61,qg 63 (.fa 1 (.t 4)) 62 true,qg 64 (.ld none (.t 63)) 62 true,qg 65 (.bin .eql (.t 64) (.c (.i .i64 0))) 62 true,qo 66 (.pick (.t 62) (.t 65) (.c (.b false))),qm 6 66])
 .ret)
 (.seq (.reg false [qo 68 (.bin .eql (.t 13) (.c (.i .i64 4))),qm 67 68])
 (.cond (.t 67) (.seq (.reg false [qo 69 (.fa 0 (.t 3)),qo 70 (.ld none (.t 69)),qo 71 (.bin .eql (.t 70) (.c (.i .i64 1))),qm 72 71,qg 73 (.fa 0 (.t 4)) 72 true,qg 74 (.ld none (.t 73)) 72 true,qg 75 (.bin .eql (.t 74) (.c (.i .i64 1))) 72 true,qo 76 (.pick (.t 72) (.t 75) (.c (.b false))),qm 77 76,qg 78 (.mv (.t 7)) 77 true,qo 79 (.pick (.t 77) (.t 78) (.c (.b false))),qm 80 79,qg 81 (.fa 1 (.t 4)) 80 true,qg 82 (.ld none (.t 81)) 80 true,qg 83 (.bin .eql (.t 82) (.c (.i .i64 0))) 80 true,qo 84 (.pick (.t 80) (.t 83) (.c (.b false))),qm 6 84])
 .ret)
 .skip))))))))))
 (.seq (.reg false [qo 85 (.fa 0 (.t 3)),qo 86 (.ld none (.t 85)),qo 87 (.bin .eql (.t 86) (.c (.i .i64 3))),qm 88 87,qg 89 (.fa 0 (.t 4)) 88 true,qg 90 (.ld none (.t 89)) 88 true,qg 91 (.bin .eql (.t 90) (.c (.i .i64 3))) 88 true,qo 92 (.pick (.t 88) (.t 91) (.c (.b false))),qm 6 92])
 .ret)))) }
def A_xref24_cut:AFun:={ res:=[.t 4],body:=(.seq (.reg false [qo 4 (.mv (.c (.sl [] 0 .rig)))])
 (.seq (.reg false [qm 6 0,qm 7 1,qo 8 (.call .pure (.c (.fn 559 [] [])) [.t 6,.t 7,.c (.i .i64 (-1))]),qm 5 8])
 (.seq (.reg true [qm 9 5,qm 10 1,qo 11 (.slice 7 (.t 9) none (some (.t 10)) none),qo 12 (.app 7 72 (.c (.sl [] 0 .rig)) (.t 11)),qm 13 5,qm 14 1,qo 15 (.bin .add (.t 14) (.c (.i .i64 1))),qo 16 (.slice 7 (.t 13) (some (.t 15)) none none),qp 17 (.app 7 72 (.t 12) (.t 16)) [3],qm 4 17])
 .ret))) }
def A_xref24_reach:AFun:={ res:=[.t 6],body:=(.seq (.reg false [qo 6 (.mv (.c (.sl [] 0 .rig)))])
 (.seq (.reg false [qm 9 0,qo 10 (.appM 7 72 (.c (.sl [] 0 .rig)) (.t 9)),qm 7 10])
 (.seq (.seq (.reg false [qo 8 (.mv (.c (.i .i64 0)))])
 (.blk 0 (.loop (.seq (.seq (.reg false [qm 11 8,qm 12 1,qo 13 (.bin .lss (.t 11) (.t 12))])
 (.cond (.t 13) .skip
 (.ext 0)))
 (.seq (.blk 1 (.seq (.reg false [qm 16 7,qm 17 8,qo 18 (.ia 7 (.t 16) (.t 17)),qo 19 (.fa 0 (.t 18)),qo 20 (.ld none (.t 19)),qo 21 (.bin .eql (.t 20) (.c (.i .i64 6))),qm 22 21,qg 23 (.mv (.t 8)) 22 true,qg 24 (.bin .add (.t 23) (.c (.i .i64 1))) 22 true,qg 25 (.mv (.t 7)) 22 true,qg 26 (.mv (.t 8)) 22 true,qg 27 (.ia 7 (.t 25) (.t 26)) 22 true,qg 28 (.fa 6 (.t 27)) 22 true,qg 29 (.ld none (.t 28)) 22 true,qg 30 (.bin .add (.t 24) (.t 29)) 22 true,qg 31 (.mv (.t 1)) 22 true,qg 32 (.bin .gtr (.t 30) (.t 31)) 22 true,qo 33 (.pick (.t 22) (.t 32) (.c (.b false)))])
 (.cond (.t 33) (.reg false [qm 34 7,qm 35 8,qm 36 7,qm 37 8,qo 38 (.ia 7 (.t 36) (.t 37)),qo 39 (.fa 6 (.t 38)),qo 40 (.ld none (.t 39)),qm 41 2,qo 42 (.bin .add (.t 40) (.t 41)),qo 43 (.ia 7 (.t 34) (.t 35)),qo 44 (.fa 6 (.t 43)),qn (.st 1 (.t 44) (.t 42))])
 .skip)))
 (.reg false [qm 14 8,qo 15 (.bin .add (.t 14) (.c (.i .i64 1))),qm 8 15]))))))
 (.seq (.reg false [qm 45 7,qm 6 45])
 .ret)))) }
def A_xref24_swap:AFun:={ res:=[.t 4],body:=(.seq (.reg false [qo 2 (.box (.t 0)),qo 3 (.box (.t 1)),qo 4 (.mv (.c (.b false)))])
 (.seq (.seq (.reg false [qo 5 (.fa 0 (.t 2)),qo 6 (.ld none (.t 5)),qo 7 (.bin .eql (.t 6) (.c (.i .i64 3))),qm 8 7,qg 9 (.fa 0 (.t 2)) 8 false,qg 10 (.ld none (.t 9)) 8 false,qg 11 (.bin .eql (.t 10) (.c (.i .i64 6))) 8 false,qo 12 (.pick (.t 8) (.c (.b true)) (.t 11)),qm 13 12,qg 14 (.fa 0 (.t 3)) 13 false,qg 15 (.ld none (.t 14)) 13 false,qg 16 (.bin .eql (.t 15) (.c (.i .i64 3))) 13 false,qo 17 (.pick (.t 13) (.c (.b true)) (.t 16)),qm 18 17,qg 19 (.fa 0 (.t 3)) 18 false,qg 20 (.ld none (.t 19)) 18 false,qg 21 (.bin .eql (.t 20) (.c (.i .i64 6))) 18 false,qo 22 (.pick (.t 18) (.c (.b true)) (.t 21)),qm 23 22,qg 24 (.ld (some 7) (.t 2)) 23 false,qg 25 (.ld (some 7) (.t 3)) 23 false,qg 26 (.call .pure (.c (.fn 561 [] [])) [.t 24,.t 25]) 23 false,qo 27 (.pick (.t 23) (.c (.b true)) (.t 26)),qm 28 27,qg 29 (.ld (some 7) (.t 3)) 28 false,qg 30 (.ld (some 7) (.t 2)) 28 false,qg 31 (.call .pure (.c (.fn 561 [] [])) [.t 29,.t 30]) 28 false,qo 32 (.pick (.t 28) (.c (.b true)) (.t 31))])
 (.cond (.t 32) (.seq (.reg false [qo 4 (.mv (.c (.b false)))])
 .ret)
 .skip))
 (.seq (.seq (.reg false [qo 33 (.fa 0 (.t 2)),qo 34 (.ld none (.t 33)),qo 35 (.bin .eql (.t 34) (.c (.i .i64 5))),qm 36 35,qg 37 (.fa 0 (.t 3)) 36 false,qg 38 (.ld none (.t 37)) 36 false,qg 39 (.bin .eql (.t 38) (.c (.i .i64 5))) 36 false,qo 40 (.pick (.t 36) (.c (.b true)) (.t 39))])
 (.cond (.t 40) (.seq (.reg false [qo 4 (.mv (.c (.b true)))])
 .ret)
 .skip))
 (.seq (.seq (.reg false [qo 41 (.fa 4 (.t 2)),qo 42 (.ld none (.t 41)),qo 43 (.fa 4 (.t 3)),qo 44 (.ld none (.t 43)),qo 45 (.bin .eql (.t 42) (.t 44)),qm 46 45,qg 47 (.fa 0 (.t 2)) 46 false,qg 48 (.ld none (.t 47)) 46 false,qg 49 (.bin .eql (.t 48) (.c (.i .i64 4))) 46 false,qo 50 (.pick (.t 46) (.c (.b true)) (.t 49)),qm 51 50,qg 52 (.fa 0 (.t 2)) 51 false,qg 53 (.ld none (.t 52)) 51 false,qg 54 (.bin .eql (.t 53) (.c (.i .i64 1))) 51 false,qg 55 (.mv (.t 54)) 51 false,qg 56 (.fa 1 (.t 2)) 55 true,qg 57 (.ld none (.t 56)) 55 true,qg 58 (.bin .eql (.t 57) (.c (.i .i64 1))) 55 true,qg 59 (.pick (.t 55) (.t 58) (.c (.b false))) 51 false,qo 60 (.pick (.t 51) (.c (.b true)) (.t 59))])
 (.cond (.t 60) (.seq (.reg false [qo 4 (.mv (.c (.b false)))])
 .ret)
 .skip))
 (.seq (.reg false [qo 61 (.fa 0 (.t 3)),qo 62 (.ld none (.t 61)),qo 63 (.bin .eql (.t 62) (.c (.i .i64 2))),qm 64 63,qg 65 (.fa 1 (.t 3)) 64 true,qg 66 (.ld none (.t 65)) 64 true,qg 67 (.bin .eql (.t 66) (.c (.i .i64 2))) 64 true,qo 68 (.pick (.t 64) (.t 67) (.c (.b false))),qm 69 68,qg 70 (.fa 0 (.t 3)) 69 false,qg 71 (.ld none (.t 70)) 69 false,qg 72 (.bin .eql (.t 71) (.c (.i .i64 4))) 69 false,qg 73 (.mv (.t 72)) 69 false,qg 74 (.fa 2 (.t 3)) 73 true,qg 75 (.ld none (.t 74)) 73 true,qg 76 (.bin .eql (.t 75) (.c (.i .i64 2))) 73 true,qg 77 (.pick (.t 73) (.t 76) (.c (.b false))) 69 false,qo 78 (.pick (.t 69) (.c (.b true)) (.t 77)),qo 79 (.un .not (.t 78)),qm 4 79])
 .ret))))) }
def A_xref24_touches:AFun:={ res:=[.t 4],body:=(.seq (.reg false [qo 2 (.box (.t 0)),qo 3 (.box (.t 1)),qo 4 (.mv (.c (.b false)))])
 (.seq (.reg false [qo 6 (.ld (some 7) (.t 2)),qo 7 (.call .pure (.c (.fn 562 [] [])) [.t 6]),qm 5 7])
 (.seq (.reg false [qm 8 5,qo 9 (.bin .geq (.t 8) (.c (.i .i64 0))),qm 10 9,qg 11 (.mv (.t 5)) 10 true,qg 12 (.ld (some 7) (.t 3)) 10 true,qg 13 (.call .pure (.c (.fn 562 [] [])) [.t 12]) 10 true,qg 14 (.bin .eql (.t 11) (.t 13)) 10 true,qg 15 (.mv (.t 14)) 10 true,qg 16 (.fa 5 (.t 3)) 15 false,qg 17 (.ld none (.t 16)) 15 false,qg 18 (.mv (.t 5)) 15 false,qg 19 (.call .pure (.c (.fn 110 [] [])) [.t 17,.t 18]) 15 false,qg 20 (.pick (.t 15) (.c (.b true)) (.t 19)) 10 true,qo 21 (.pick (.t 10) (.t 20) (.c (.b false))),qm 4 21])
 .ret))) }
def A_xref24_sets:AFun:={ res:=[.t 2],body:=(.seq (.reg false [qo 1 (.box (.t 0)),qo 2 (.mv (.c (.i .i64 0)))])
 (.seq (.seq (.reg false [qo 3 (.fa 0 (.t 1)),qo 4 (.ld none (.t 3)),qo 5 (.bin .eql (.t 4) (.c (.i .i64 1))),qm 6 5,qg 7 (.fa 0 (.t 1)) 6 false,qg 8 (.ld none (.t 7)) 6 false,qg 9 (.bin .eql (.t 8) (.c (.i .i64 4))) 6 false,qo 10 (.pick (.t 6) (.c (.b true)) (.t 9)),qm 11 10,qg 12 (.fa 0 (.t 1)) 11 false,qg 13 (.ld none (.t 12)) 11 false,qg 14 (.bin .eql (.t 13) (.c (.i .i64 5))) 11 false,qo 15 (.pick (.t 11) (.c (.b true)) (.t 14))])
 (.cond (.t 15) (.seq (.reg false [qo 16 (.fa 3 (.t 1)),qo 17 (.ld none (.t 16)),qm 2 17])
 .ret)
 .skip))
 (.seq (.reg false [qo 2 (.mv (.c (.i .i64 (-1))))])
 .ret))) }
structure Pk_xref24 (F:Funs):Prop where
 xref24_Apply:F 547 = some A_xref24_Apply
 xref24_Can:F 548 = some A_xref24_Can
 xref24_Join:F 550 = some A_xref24_Join
 xref24_Targets:F 552 = some A_xref24_Targets
 xref24_turned:F 553 = some A_xref24_turned
 xref24_stronger:F 554 = some A_xref24_stronger
 xref24_folds:F 555 = some A_xref24_folds
 xref24_target:F 556 = some A_xref24_target
 xref24_pair:F 557 = some A_xref24_pair
 xref24_cut:F 558 = some A_xref24_cut
 xref24_reach:F 559 = some A_xref24_reach
 xref24_swap:F 560 = some A_xref24_swap
 xref24_touches:F 561 = some A_xref24_touches
 xref24_sets:F 562 = some A_xref24_sets
end Go.Ab
end
section
namespace Go.Ab
def A_expr_Regs:AFun:={ res:=[.t 2],body:=(.seq (.reg false [qo 2 (.mv (.c (.sl [] 0 .rig)))])
 (.seq (.reg false [qo 3 (.mv (.c (.sl [] 0 .rig)))])
 (.seq (.seq (.reg false [qm 6 0,qo 7 (.len (.t 6)),qo 8 (.mv (.c (.i .i64 0)))])
 (.blk 0 (.loop (.seq (.reg false [qo 9 (.bin .lss (.t 8) (.t 7))])
 (.seq (.cond (.t 9) .skip
 (.ext 0))
 (.seq (.blk 1 (.seq (.reg false [qo 10 (.ia 2 (.t 6) (.t 8)),qo 11 (.ld (some 2) (.t 10)),qo 5 (.new ([.i .i64 0,.i .i64 0])),qn (.st 2 (.t 5) (.t 11))])
 (.seq (.reg false [qo 12 (.fa 0 (.t 5)),qo 13 (.ld none (.t 12)),qo 14 (.bin .eql (.t 13) (.c (.i .i64 2)))])
 (.cond (.t 14) (.reg false [qm 15 3,qo 16 (.fa 1 (.t 5)),qo 17 (.ld none (.t 16)),qo 18 (.bsl true 1 ([.i .i64 0]) [(0,1,.t 17)]),qo 19 (.appM 1 8 (.t 15) (.t 18)),qm 3 19])
 .skip))))
 (.reg false [qo 20 (.bin .add (.t 8) (.c (.i .i64 1))),qm 8 20])))))))
 (.seq (.reg false [qm 21 3,qo 22 (.call .raw (.c (.fn 371 [] [])) [.t 21])])
 (.seq (.reg false [qm 23 3,qo 24 (.call .raw (.c (.fn 372 [] [])) [.t 23]),qm 2 24])
 .ret))))) }
def A_expr_Check:AFun:={ res:=[.t 2],body:=(.seq (.reg false [qo 2 (.mv (.c (.b false)))])
 (.seq (.reg false [qo 3 (.mv (.c (.i .i64 0)))])
 (.seq (.seq (.reg false [qm 6 0,qo 7 (.len (.t 6)),qo 8 (.mv (.c (.i .i64 0)))])
 (.blk 0 (.loop (.seq (.reg false [qo 9 (.bin .lss (.t 8) (.t 7))])
 (.seq (.cond (.t 9) .skip
 (.ext 0))
 (.seq (.blk 1 (.seq (.reg false [qo 10 (.ia 2 (.t 6) (.t 8)),qo 11 (.ld (some 2) (.t 10)),qo 5 (.new ([.i .i64 0,.i .i64 0])),qn (.st 2 (.t 5) (.t 11))])
 (.seq (.seq (.reg false [qo 12 (.ld (some 2) (.t 5)),qo 13 (.call .pure (.c (.fn 331 [] [])) [.t 12]),qo 14 (.un .not (.t 13)),qm 15 14,qg 16 (.fa 0 (.t 5)) 15 false,qg 17 (.ld none (.t 16)) 15 false,qg 18 (.bin .eql (.t 17) (.c (.i .i64 3))) 15 false,qg 19 (.mv (.t 18)) 15 false,qg 20 (.mv (.t 3)) 19 true,qg 21 (.bin .lss (.t 20) (.c (.i .i64 2))) 19 true,qg 22 (.pick (.t 19) (.t 21) (.c (.b false))) 15 false,qo 23 (.pick (.t 15) (.c (.b true)) (.t 22))])
 (.cond (.t 23) (.seq (.reg false [qo 2 (.mv (.c (.b false)))])
 .ret)
 .skip))
 (.seq (.reg false [qo 24 (.fa 0 (.t 5)),qo 25 (.ld none (.t 24)),qo 26 (.bin .eql (.t 25) (.c (.i .i64 3)))])
 (.cond (.t 26) (.reg false [qm 27 3,qo 28 (.bin .sub (.t 27) (.c (.i .i64 1))),qm 3 28])
 (.reg false [qm 29 3,qo 30 (.bin .add (.t 29) (.c (.i .i64 1))),qm 3 30]))))))
 (.reg false [qo 31 (.bin .add (.t 8) (.c (.i .i64 1))),qm 8 31])))))))
 (.seq (.reg false [qm 32 3,qo 33 (.bin .eql (.t 32) (.c (.i .i64 1))),qm 34 33,qg 35 (.mv (.t 0)) 34 true,qg 36 (.len (.t 35)) 34 true,qg 37 (.bin .leq (.t 36) (.c (.i .i64 9))) 34 true,qo 38 (.pick (.t 34) (.t 37) (.c (.b false))),qm 2 38])
 .ret)))) }
def A_expr_may:AFun:={ res:=[.t 2],body:=(.seq (.reg false [qo 1 (.box (.t 0)),qo 2 (.mv (.c (.b false)))])
 (.seq (.seq (.reg false [qo 3 (.fa 0 (.t 1)),qo 4 (.ld none (.t 3))])
 (.blk 0 (.seq (.reg false [qo 6 (.bin .eql (.t 4) (.c (.i .i64 1))),qm 5 6])
 (.cond (.t 5) (.seq (.reg false [qo 7 (.fa 1 (.t 1)),qo 8 (.ld none (.t 7)),qo 9 (.bin .geq (.t 8) (.c (.i .i64 (-2147483648)))),qm 10 9,qg 11 (.fa 1 (.t 1)) 10 true,qg 12 (.ld none (.t 11)) 10 true,qg 13 (.bin .lss (.t 12) (.c (.i .i64 2147483648))) 10 true,qo 14 (.pick (.t 10) (.t 13) (.c (.b false))),qm 2 14])
 .ret)
 (.seq (.reg false [qo 16 (.bin .eql (.t 4) (.c (.i .i64 2))),qm 15 16])
 (.cond (.t 15) (.seq (.reg false [qo 17 (.fa 1 (.t 1)),qo 18 (.ld none (.t 17)),qo 19 (.bin .geq (.t 18) (.c (.i .i64 0))),qm 20 19,qg 21 (.fa 1 (.t 1)) 20 true,qg 22 (.ld none (.t 21)) 20 true,qg 23 (.bin .lss (.t 22) (.c (.i .i64 8))) 20 true,qo 24 (.pick (.t 20) (.t 23) (.c (.b false))),qm 2 24])
 .ret)
 .skip))))))
 (.seq (.reg false [qo 25 (.fa 0 (.t 1)),qo 26 (.ld none (.t 25)),qo 27 (.bin .eql (.t 26) (.c (.i .i64 3))),qm 28 27,qg 29 (.fa 1 (.t 1)) 28 true,qg 30 (.ld none (.t 29)) 28 true,qg 31 (.bin .geq (.t 30) (.c (.i .i64 1))) 28 true,qo 32 (.pick (.t 28) (.t 31) (.c (.b false))),qm 33 32,qg 34 (.fa 1 (.t 1)) 33 true,qg 35 (.ld none (.t 34)) 33 true,qg 36 (.bin .leq (.t 35) (.c (.i .i64 6))) 33 true,qo 37 (.pick (.t 33) (.t 36) (.c (.b false))),qm 2 37])
 .ret))) }
def A_expr_Eval:AFun:={ res:=[.t 4],body:=(.seq (.reg false [qo 4 (.mv (.c (.i .i64 0)))])
 (.seq (.seq (.reg false [qm 9 0,qo 10 (.call .pure (.c (.fn 308 [] [])) [.t 9]),qo 11 (.un .not (.t 10))])
 (.cond (.t 11) (.seq (.reg false [qo 4 (.mv (.c (.i .i64 0)))])
 .ret)
 .skip))
 (.seq (.reg false [qo 5 (.mv (.c (.sl [] 0 .rig)))])
 (.seq (.seq (.reg false [qm 12 0,qo 13 (.len (.t 12)),qo 14 (.mv (.c (.i .i64 0)))])
 (.blk 0 (.loop (.seq (.reg false [qo 15 (.bin .lss (.t 14) (.t 13))])
 (.seq (.cond (.t 15) .skip
 (.ext 0))
 (.seq (.blk 1 (.seq (.reg false [qo 16 (.ia 2 (.t 12) (.t 14)),qo 17 (.ld (some 2) (.t 16)),qo 7 (.new ([.i .i64 0,.i .i64 0])),qn (.st 2 (.t 7) (.t 17))])
 (.seq (.reg false [qm 18 5,qo 19 (.len (.t 18)),qm 8 19])
 (.blk 2 (.seq (.reg false [qo 24 (.fa 0 (.t 7)),qo 25 (.ld none (.t 24)),qo 26 (.bin .eql (.t 25) (.c (.i .i64 3))),qm 23 26])
 (.cond (.t 23) (.reg true [qm 27 5,qm 28 8,qo 29 (.bin .sub (.t 28) (.c (.i .i64 2))),qo 30 (.slice 1 (.t 27) none (some (.t 29)) none),qo 31 (.call .pure (.c (.fn 361 [] [])) []),qo 32 (.fa 1 (.t 7)),qo 33 (.ld none (.t 32)),qo 34 (.idx 7 1 (some 1) (.t 31) (.t 33)),qo 35 (.fld 0 none (.t 34)),qm 36 5,qm 37 8,qo 38 (.bin .sub (.t 37) (.c (.i .i64 2))),qo 39 (.ia 1 (.t 36) (.t 38)),qo 40 (.ld none (.t 39)),qm 41 5,qm 42 8,qo 43 (.bin .sub (.t 42) (.c (.i .i64 1))),qo 44 (.ia 1 (.t 41) (.t 43)),qo 45 (.ld none (.t 44)),qo 46 (.call .pure (.t 35) [.t 40,.t 45]),qo 47 (.bsl true 1 ([.i .i64 0]) [(0,1,.t 46)]),qo 48 (.appM 1 8 (.t 30) (.t 47)),qm 5 48])
 (.seq (.reg false [qo 50 (.fa 0 (.t 7)),qo 51 (.ld none (.t 50)),qo 52 (.bin .eql (.t 51) (.c (.i .i64 1))),qm 49 52])
 (.cond (.t 49) (.reg false [qm 53 5,qo 54 (.fa 1 (.t 7)),qo 55 (.ld none (.t 54)),qo 56 (.bsl true 1 ([.i .i64 0]) [(0,1,.t 55)]),qo 57 (.appM 1 8 (.t 53) (.t 56)),qm 5 57])
 (.seq (.reg false [qo 59 (.fa 1 (.t 7)),qo 60 (.ld none (.t 59)),qm 61 1,qo 62 (.len (.t 61)),qo 63 (.bin .lss (.t 60) (.t 62)),qm 58 63])
 (.cond (.t 58) (.reg false [qm 64 5,qm 65 1,qo 66 (.fa 1 (.t 7)),qo 67 (.ld none (.t 66)),qo 68 (.ia 1 (.t 65) (.t 67)),qo 69 (.ld none (.t 68)),qo 70 (.bsl true 1 ([.i .i64 0]) [(0,1,.t 69)]),qo 71 (.appM 1 8 (.t 64) (.t 70)),qm 5 71])
 (.reg false [qm 20 5,qo 21 (.bsl true 1 ([.i .i64 0]) [(0,1,.c (.i .i64 0))]),qo 22 (.appM 1 8 (.t 20) (.t 21)),qm 5 22])))))))))))
 (.reg false [qo 72 (.bin .add (.t 14) (.c (.i .i64 1))),qm 14 72])))))))
 (.seq (.reg false [qm 73 5,qo 74 (.ia 1 (.t 73) (.c (.i .i64 0))),qo 75 (.ld none (.t 74)),qm 4 75])
 .ret))))) }
def A_expr_ops:AFun:={ res:=[.cell 0 (some 7)],body:=(.seq (.reg false [qo 0 (.new (List.replicate 7 (.nilf)))])
 (.seq (.reg false [qo 1 (.build ([.nilf]) [(0,1,.c (.fn 362 [] []))]),qo 2 (.build ([.nilf]) [(0,1,.c (.fn 363 [] []))]),qo 3 (.build ([.nilf]) [(0,1,.c (.fn 364 [] []))]),qo 4 (.build ([.nilf]) [(0,1,.c (.fn 365 [] []))]),qo 5 (.build ([.nilf]) [(0,1,.c (.fn 366 [] []))]),qo 6 (.build ([.nilf]) [(0,1,.c (.fn 368 [] []))]),qo 7 (.build (List.replicate 7 (.nilf)) [(1,1,.t 1),(2,1,.t 2),(3,1,.t 3),(4,1,.t 4),(5,1,.t 5),(6,1,.t 6)]),qn (.st 7 (.t 0) (.t 7))])
 .ret)) }
def A_expr_ops_1:AFun:={ res:=[.t 4],body:=(.seq (.reg false [qo 4 (.mv (.c (.i .i64 0)))])
 (.seq (.reg false [qm 5 0,qm 6 1,qo 7 (.bin .add (.t 5) (.t 6)),qm 4 7])
 .ret)) }
def A_expr_ops_2:AFun:={ res:=[.t 4],body:=(.seq (.reg false [qo 4 (.mv (.c (.i .i64 0)))])
 (.seq (.reg false [qm 5 0,qm 6 1,qo 7 (.bin .sub (.t 5) (.t 6)),qm 4 7])
 .ret)) }
def A_expr_ops_3:AFun:={ res:=[.t 4],body:=(.seq (.reg false [qo 4 (.mv (.c (.i .i64 0)))])
 (.seq (.reg false [qm 5 0,qm 6 1,qo 7 (.bin .mul (.t 5) (.t 6)),qm 4 7])
 .ret)) }
def A_expr_ops_4:AFun:={ res:=[.t 4],body:=(.seq (.reg false [qo 4 (.mv (.c (.i .i64 0)))])
 (.seq (.reg false [qm 5 0,qm 6 1,qo 7 (.bin .xor (.t 5) (.t 6)),qm 4 7])
 .ret)) }
def A_expr_ops_5:AFun:={ res:=[.t 4],body:=(.seq (.reg false [qo 4 (.mv (.c (.i .i64 0)))])
 (.seq (.reg false [qm 5 0,qm 6 1,qo 7 (.bin .eql (.t 5) (.t 6)),qo 8 (.call .pure (.c (.fn 367 [] [])) [.t 7]),qm 4 8])
 .ret)) }
def A_expr_one:AFun:={ res:=[.t 2],body:=(.seq (.reg false [qo 2 (.mv (.c (.i .i64 0)))])
 (.seq (.seq (.reg false [qm 3 0])
 (.cond (.t 3) (.seq (.reg false [qo 2 (.mv (.c (.i .i64 1)))])
 .ret)
 .skip))
 (.seq (.reg false [qo 2 (.mv (.c (.i .i64 0)))])
 .ret))) }
def A_expr_ops_6:AFun:={ res:=[.t 4],body:=(.seq (.reg false [qo 4 (.mv (.c (.i .i64 0)))])
 (.seq (.reg false [qm 5 0,qm 6 1,qo 7 (.bin .lss (.t 5) (.t 6)),qo 8 (.call .pure (.c (.fn 367 [] [])) [.t 7]),qm 4 8])
 .ret)) }
end Go.Ab
end
section
namespace Go.Ab
def A_rules_Apply:AFun:={ res:=[.cell 4 (some 2),.t 5],body:=(.seq (.reg false [qo 2 (.box (.t 0)),qo 3 (.box (.t 1)),qo 4 (.new ([.i .i64 0,.sl [] 0 .rig])),qo 5 (.mv (.c (.i .i64 0)))])
 (.seq (.blk 0 (.seq (.reg false [qo 15 (.ld (some 2) (.t 2)),qo 16 (.call .pure (.c (.fn 280 [] [])) [.t 15]),qo 17 (.bin .neq (.t 16) (.c (.i .i64 0))),qm 14 17])
 (.cond (.t 14) (.seq (.reg false [qo 18 (.ld (some 2) (.t 2)),qn (.st 2 (.t 4) (.t 18)),qo 5 (.mv (.c (.i .i64 3)))])
 .ret)
 (.seq (.reg false [qo 20 (.ld (some 2) (.t 2)),qo 21 (.ld (some 4) (.t 3)),qo 22 (.call .pure (.c (.fn 288 [] [])) [.t 20,.t 21]),qo 23 (.un .not (.t 22)),qm 19 23])
 (.cond (.t 19) (.seq (.reg false [qo 24 (.ld (some 2) (.t 2)),qn (.st 2 (.t 4) (.t 24)),qo 5 (.mv (.c (.i .i64 7)))])
 .ret)
 .skip)))))
 (.seq (.reg true [qo 25 (.fa 1 (.t 2)),qo 26 (.ld none (.t 25)),qo 27 (.fa 1 (.t 3)),qo 28 (.ld none (.t 27)),qo 29 (.ia 1 (.t 26) (.t 28)),qo 30 (.ld none (.t 29)),qo 31 (.fa 2 (.t 3)),qo 32 (.ld none (.t 31)),qo 33 (.fa 3 (.t 3)),qo 34 (.ld none (.t 33)),qo 35 (.build ([.sl [] 0 .rig,.i .i64 0,.i .i64 0]) [(0,1,.t 30),(1,1,.t 32),(2,1,.t 34)]),qo 6 (.new ([.sl [] 0 .rig,.i .i64 0,.i .i64 0])),qnp (.stL 3 (.t 6) (.t 35)) [11]])
 (.seq (.reg true [qo 36 (.call .pure (.c (.fn 309 [] [])) []),qo 37 (.fa 0 (.t 3)),qo 38 (.ld none (.t 37)),qo 39 (.idx 9 3 (some 3) (.t 36) (.t 38)),qo 7 (.new ([.nilf,.i .i64 0,.nilf])),qnp (.stL 3 (.t 7) (.t 39)) [4]])
 (.seq (.reg false [qo 40 (.fa 2 (.t 7)),qo 41 (.ld none (.t 40)),qo 42 (.ld (some 3) (.t 6)),qo 43 (.call .pure (.t 41) [.t 42]),qm 8 43])
 (.seq (.reg false [qo 9 (.mv (.c (.sl [] 0 .rig)))])
 (.seq (.seq (.reg false [qo 44 (.fa 0 (.t 6)),qo 45 (.ld none (.t 44)),qo 46 (.fa 1 (.t 6)),qo 47 (.ld none (.t 46)),qo 48 (.slice 7 (.t 45) none (some (.t 47)) none),qo 49 (.len (.t 48)),qo 50 (.mv (.c (.i .i64 0)))])
 (.blk 1 (.loop (.seq (.reg false [qo 51 (.bin .lss (.t 50) (.t 49))])
 (.seq (.cond (.t 51) .skip
 (.ext 1))
 (.seq (.blk 2 (.seq (.reg false [qm 52 50,qo 53 (.ia 7 (.t 48) (.t 50)),qo 54 (.ld (some 7) (.t 53)),qo 11 (.new (List.replicate 5 (.i .i64 0) ++ [.sl [] 0 .rig,.i .i64 0])),qm 10 52,qn (.st 7 (.t 11) (.t 54))])
 (.seq (.seq (.reg false [qo 55 (.fa 0 (.t 11)),qo 56 (.ld none (.t 55)),qo 57 (.bin .eql (.t 56) (.c (.i .i64 6))),qm 58 57,qg 59 (.mv (.t 10)) 58 true,qg 60 (.bin .add (.t 59) (.c (.i .i64 1))) 58 true,qg 61 (.fa 6 (.t 11)) 58 true,qg 62 (.ld none (.t 61)) 58 true,qg 63 (.bin .add (.t 60) (.t 62)) 58 true,qg 64 (.fa 1 (.t 6)) 58 true,qg 65 (.ld none (.t 64)) 58 true,qg 66 (.bin .gtr (.t 63) (.t 65)) 58 true,qo 67 (.pick (.t 58) (.t 66) (.c (.b false)))])
 (.cond (.t 67) (.reg false [qo 68 (.fa 6 (.t 11)),qo 69 (.ld none (.t 68)),qm 70 8,qo 71 (.len (.t 70)),qo 72 (.fa 1 (.t 7)),qo 73 (.ld none (.t 72)),qo 74 (.bin .sub (.t 71) (.t 73)),qo 75 (.bin .add (.t 69) (.t 74)),qo 76 (.fa 6 (.t 11)),qn (.st 1 (.t 76) (.t 75))])
 .skip))
 (.reg false [qm 77 9,qo 78 (.ld (some 7) (.t 11)),qo 79 (.bsl true 1 (List.replicate 5 (.i .i64 0) ++ [.sl [] 0 .rig,.i .i64 0]) [(0,7,.t 78)]),qo 80 (.app 7 72 (.t 77) (.t 79)),qm 9 80]))))
 (.reg false [qo 81 (.bin .add (.t 50) (.c (.i .i64 1))),qm 50 81])))))))
 (.seq (.reg true [qm 82 9,qm 83 8,qo 84 (.app 7 72 (.t 82) (.t 83)),qo 85 (.fa 0 (.t 6)),qo 86 (.ld none (.t 85)),qo 87 (.fa 1 (.t 6)),qo 88 (.ld none (.t 87)),qo 89 (.fa 1 (.t 7)),qo 90 (.ld none (.t 89)),qo 91 (.bin .add (.t 88) (.t 90)),qo 92 (.slice 7 (.t 86) (some (.t 91)) none none),qp 93 (.app 7 72 (.t 84) (.t 92)) [2],qm 9 93])
 (.seq (.reg true [qo 94 (.fa 0 (.t 2)),qo 95 (.ld none (.t 94)),qo 96 (.fa 1 (.t 2)),qo 97 (.ld none (.t 96)),qo 98 (.call .melt (.c (.fn 370 [] [])) [.t 97]),qo 99 (.build ([.i .i64 0,.sl [] 0 .rig]) [(0,1,.t 95),(1,1,.t 98)]),qo 12 (.new ([.i .i64 0,.sl [] 0 .rig])),qnp (.stL 2 (.t 12) (.t 99)) [6]])
 (.seq (.reg false [qo 100 (.fa 1 (.t 12)),qo 101 (.ld none (.t 100)),qo 102 (.fa 1 (.t 3)),qo 103 (.ld none (.t 102)),qm 104 9,qo 105 (.ia 1 (.t 101) (.t 103)),qn (.st 1 (.t 105) (.t 104))])
 (.seq (.seq (.reg false [qo 106 (.ld (some 2) (.t 12)),qo 107 (.call .pure (.c (.fn 280 [] [])) [.t 106]),qm 13 107])
 (.seq (.reg false [qm 108 13,qo 109 (.bin .neq (.t 108) (.c (.i .i64 0)))])
 (.cond (.t 109) (.seq (.reg false [qo 110 (.ld (some 2) (.t 2)),qm 111 13,qn (.st 2 (.t 4) (.t 110)),qm 5 111])
 .ret)
 .skip)))
 (.seq (.reg false [qo 112 (.ld (some 2) (.t 12)),qn (.st 2 (.t 4) (.t 112)),qo 5 (.mv (.c (.i .i64 0)))])
 .ret)))))))))))) }
def A_rules_Can:AFun:={ res:=[.t 4],body:=(.seq (.reg false [qo 2 (.box (.t 0)),qo 3 (.box (.t 1)),qo 4 (.mv (.c (.b false)))])
 (.seq (.seq (.reg false [qo 6 (.ld (some 2) (.t 2)),qo 7 (.call .pure (.c (.fn 280 [] [])) [.t 6]),qo 8 (.bin .neq (.t 7) (.c (.i .i64 0))),qm 9 8,qg 10 (.fa 0 (.t 3)) 9 false,qg 11 (.ld none (.t 10)) 9 false,qg 12 (.bin .lss (.t 11) (.c (.i .i64 1))) 9 false,qo 13 (.pick (.t 9) (.c (.b true)) (.t 12)),qm 14 13,qg 15 (.fa 0 (.t 3)) 14 false,qg 16 (.ld none (.t 15)) 14 false,qg 17 (.bin .gtr (.t 16) (.c (.i .i64 8))) 14 false,qo 18 (.pick (.t 14) (.c (.b true)) (.t 17)),qm 19 18,qg 20 (.fa 1 (.t 3)) 19 false,qg 21 (.ld none (.t 20)) 19 false,qg 22 (.bin .lss (.t 21) (.c (.i .i64 0))) 19 false,qo 23 (.pick (.t 19) (.c (.b true)) (.t 22)),qm 24 23,qg 25 (.fa 1 (.t 3)) 24 false,qg 26 (.ld none (.t 25)) 24 false,qg 27 (.fa 1 (.t 2)) 24 false,qg 28 (.ld none (.t 27)) 24 false,qg 29 (.len (.t 28)) 24 false,qg 30 (.bin .geq (.t 26) (.t 29)) 24 false,qo 31 (.pick (.t 24) (.c (.b true)) (.t 30))])
 (.cond (.t 31) (.seq (.reg false [qo 4 (.mv (.c (.b false)))])
 .ret)
 .skip))
 (.seq (.reg false [qo 32 (.fa 1 (.t 2)),qo 33 (.ld none (.t 32)),qo 34 (.fa 1 (.t 3)),qo 35 (.ld none (.t 34)),qo 36 (.ia 1 (.t 33) (.t 35)),qo 37 (.ld none (.t 36)),qm 5 37])
 (.seq (.reg true [qo 38 (.fa 2 (.t 3)),qo 39 (.ld none (.t 38)),qo 40 (.bin .geq (.t 39) (.c (.i .i64 0))),qm 41 40,qg 42 (.fa 2 (.t 3)) 41 true,qg 43 (.ld none (.t 42)) 41 true,qg 44 (.mv (.t 5)) 41 true,qg 45 (.len (.t 44)) 41 true,qg 46 (.bin .leq (.t 43) (.t 45)) 41 true,qo 47 (.pick (.t 41) (.t 46) (.c (.b false))),qm 48 47,qg 49 (.call .pure (.c (.fn 309 [] [])) []) 48 true,qg 50 (.fa 0 (.t 3)) 48 true,qg 51 (.ld none (.t 50)) 48 true,qg 52 (.idx 9 3 (some 3) (.t 49) (.t 51)) 48 true,qg 53 (.fld 0 none (.t 52)) 48 true,qg 54 (.mv (.t 5)) 48 true,qg 55 (.fa 2 (.t 3)) 48 true,qg 56 (.ld none (.t 55)) 48 true,qg 57 (.fa 3 (.t 3)) 48 true,qg 58 (.ld none (.t 57)) 48 true,qg 59 (.build ([.sl [] 0 .rig,.i .i64 0,.i .i64 0]) [(0,1,.t 54),(1,1,.t 56),(2,1,.t 58)]) 48 true,qg 60 (.call .pure (.t 53) [.t 59]) 48 true,qo 61 (.pick (.t 48) (.t 60) (.c (.b false))),qm 4 61])
 .ret)))) }
def A_rules_Targets:AFun:={ res:=[.t 2],body:=(.seq (.reg false [qo 2 (.mv (.c (.sl [] 0 .rig)))])
 (.seq (.reg false [qo 3 (.mv (.c (.sl [] 0 .rig)))])
 (.seq (.seq (.reg false [qm 6 0,qo 7 (.len (.t 6)),qo 8 (.mv (.c (.i .i64 0)))])
 (.blk 0 (.loop (.seq (.reg false [qo 9 (.bin .lss (.t 8) (.t 7))])
 (.seq (.cond (.t 9) .skip
 (.ext 0))
 (.seq (.blk 1 (.seq (.reg false [qm 10 8,qo 11 (.ia 7 (.t 6) (.t 8)),qo 12 (.ld (some 7) (.t 11)),qo 5 (.new (List.replicate 5 (.i .i64 0) ++ [.sl [] 0 .rig,.i .i64 0])),qm 4 10,qn (.st 7 (.t 5) (.t 12))])
 (.seq (.reg false [qo 13 (.fa 0 (.t 5)),qo 14 (.ld none (.t 13)),qo 15 (.bin .eql (.t 14) (.c (.i .i64 6)))])
 (.cond (.t 15) (.reg false [qm 16 3,qm 17 4,qo 18 (.bin .add (.t 17) (.c (.i .i64 1))),qo 19 (.fa 6 (.t 5)),qo 20 (.ld none (.t 19)),qo 21 (.bin .add (.t 18) (.t 20)),qo 22 (.bsl true 1 ([.i .i64 0]) [(0,1,.t 21)]),qo 23 (.appM 1 8 (.t 16) (.t 22)),qm 3 23])
 .skip))))
 (.reg false [qo 24 (.bin .add (.t 8) (.c (.i .i64 1))),qm 8 24])))))))
 (.seq (.reg false [qm 25 3,qo 26 (.call .raw (.c (.fn 371 [] [])) [.t 25])])
 (.seq (.reg false [qm 27 3,qo 28 (.call .raw (.c (.fn 372 [] [])) [.t 27]),qm 2 28])
 .ret))))) }
def A_rules_Join:AFun:={ res:=[.t 4],body:=(.seq (.reg false [qo 4 (.mv (.c (.i .i64 0)))])
 (.seq (.blk 0 (.seq (.reg false [qm 6 0,qo 7 (.call .pure (.c (.fn 310 [] [])) [.t 6]),qo 8 (.un .not (.t 7)),qm 9 8,qg 10 (.mv (.t 1)) 9 false,qg 11 (.call .pure (.c (.fn 310 [] [])) [.t 10]) 9 false,qg 12 (.un .not (.t 11)) 9 false,qo 13 (.pick (.t 9) (.c (.b true)) (.t 12)),qm 5 13])
 (.cond (.t 5) (.seq (.reg false [qo 4 (.mv (.c (.i .i64 0)))])
 .ret)
 (.seq (.reg false [qm 15 0,qm 16 1,qo 17 (.bin .eql (.t 15) (.t 16)),qm 14 17])
 (.cond (.t 14) (.seq (.reg false [qm 18 0,qm 4 18])
 .ret)
 (.seq (.reg false [qm 20 0,qo 21 (.bin .eql (.t 20) (.c (.i .i64 4))),qm 22 21,qg 23 (.mv (.t 1)) 22 false,qg 24 (.bin .eql (.t 23) (.c (.i .i64 4))) 22 false,qo 25 (.pick (.t 22) (.c (.b true)) (.t 24)),qm 19 25])
 (.cond (.t 19) (.seq (.reg false [qo 4 (.mv (.c (.i .i64 4)))])
 .ret)
 .skip)))))))
 (.seq (.reg false [qo 4 (.mv (.c (.i .i64 3)))])
 .ret))) }
def A_rules_all:AFun:={ res:=[.cell 0 (some 27)],body:=(.seq (.reg false [qo 0 (.new ([.nilf,.i .i64 0,.nilf,.nilf,.i .i64 0,.nilf,.nilf,.i .i64 0,.nilf,.nilf,.i .i64 0,.nilf,.nilf,.i .i64 0,.nilf,.nilf,.i .i64 0,.nilf,.nilf,.i .i64 0,.nilf,.nilf,.i .i64 0,.nilf,.nilf,.i .i64 0,.nilf]))])
 (.seq (.reg false [qo 1 (.build ([.nilf,.i .i64 0,.nilf]) [(0,1,.c (.fn 332 [] [])),(1,1,.c (.i .i64 2)),(2,1,.c (.fn 333 [] []))]),qo 2 (.build ([.nilf,.i .i64 0,.nilf]) [(0,1,.c (.fn 334 [] [])),(1,1,.c (.i .i64 2)),(2,1,.c (.fn 335 [] []))]),qo 3 (.build ([.nilf,.i .i64 0,.nilf]) [(0,1,.c (.fn 336 [] [])),(1,1,.c (.i .i64 2)),(2,1,.c (.fn 337 [] []))]),qo 4 (.build ([.nilf,.i .i64 0,.nilf]) [(0,1,.c (.fn 338 [] [])),(1,1,.c (.i .i64 2)),(2,1,.c (.fn 339 [] []))]),qo 5 (.build ([.nilf,.i .i64 0,.nilf]) [(0,1,.c (.fn 340 [] [])),(1,1,.c (.i .i64 2)),(2,1,.c (.fn 341 [] []))]),qo 6 (.build ([.nilf,.i .i64 0,.nilf]) [(0,1,.c (.fn 342 [] [])),(1,1,.c (.i .i64 1)),(2,1,.c (.fn 343 [] []))]),qo 7 (.build ([.nilf,.i .i64 0,.nilf]) [(0,1,.c (.fn 344 [] [])),(1,1,.c (.i .i64 0)),(2,1,.c (.fn 345 [] []))]),qo 8 (.build ([.nilf,.i .i64 0,.nilf]) [(0,1,.c (.fn 346 [] [])),(1,1,.c (.i .i64 1)),(2,1,.c (.fn 347 [] []))]),qo 9 (.build ([.nilf,.i .i64 0,.nilf,.nilf,.i .i64 0,.nilf,.nilf,.i .i64 0,.nilf,.nilf,.i .i64 0,.nilf,.nilf,.i .i64 0,.nilf,.nilf,.i .i64 0,.nilf,.nilf,.i .i64 0,.nilf,.nilf,.i .i64 0,.nilf,.nilf,.i .i64 0,.nilf]) [(3,3,.t 1),(6,3,.t 2),(9,3,.t 3),(12,3,.t 4),(15,3,.t 5),(18,3,.t 6),(21,3,.t 7),(24,3,.t 8)]),qn (.st 27 (.t 0) (.t 9))])
 .ret)) }
def A_rules_bar:AFun:={ res:=[.t 2],body:=(.seq (.reg false [qo 2 (.mv (.c (.b false)))])
 (.seq (.reg false [qm 3 0,qo 4 (.bin .geq (.t 3) (.c (.i .i64 1))),qm 5 4,qg 6 (.mv (.t 0)) 5 true,qg 7 (.bin .leq (.t 6) (.c (.i .i64 4))) 5 true,qo 8 (.pick (.t 5) (.t 7) (.c (.b false))),qm 2 8])
 .ret)) }
def A_rules_canSwap:AFun:={ res:=[.t 2],body:=(.seq (.reg false [qo 1 (.box (.t 0)),qo 2 (.mv (.c (.b false)))])
 (.seq (.seq (.reg false [qo 8 (.ld (some 3) (.t 1)),qo 9 (.call .pure (.c (.fn 351 [] [])) [.t 8]),qo 10 (.un .not (.t 9))])
 (.cond (.t 10) (.seq (.reg false [qo 2 (.mv (.c (.b false)))])
 .ret)
 .skip))
 (.seq (.reg true [qo 11 (.ld (some 3) (.t 1)),qo 12 (.call .pure (.c (.fn 352 [] [])) [.t 11]),qo 13 (.ld (some 3) (.t 1)),qo 14 (.call .pure (.c (.fn 353 [] [])) [.t 13]),qo 3 (.new (List.replicate 5 (.i .i64 0) ++ [.sl [] 0 .rig,.i .i64 0])),qo 4 (.new (List.replicate 5 (.i .i64 0) ++ [.sl [] 0 .rig,.i .i64 0])),qnp (.stL 7 (.t 3) (.t 12)) [4],qnp (.stL 7 (.t 4) (.t 14)) [5]])
 (.seq (.reg false [qo 5 (.mv (.c (.fn 354 [] [])))])
 (.seq (.seq (.reg false [qm 15 5,qo 16 (.ld (some 7) (.t 3)),qo 17 (.call .pure (.t 15) [.t 16]),qm 18 17,qg 19 (.mv (.t 5)) 18 false,qg 20 (.ld (some 7) (.t 4)) 18 false,qg 21 (.call .pure (.t 19) [.t 20]) 18 false,qo 22 (.pick (.t 18) (.c (.b true)) (.t 21)),qm 23 22,qg 24 (.ld (some 7) (.t 3)) 23 false,qg 25 (.ld (some 7) (.t 4)) 23 false,qg 26 (.call .pure (.c (.fn 355 [] [])) [.t 24,.t 25]) 23 false,qo 27 (.pick (.t 23) (.c (.b true)) (.t 26)),qm 28 27,qg 29 (.ld (some 7) (.t 4)) 28 false,qg 30 (.ld (some 7) (.t 3)) 28 false,qg 31 (.call .pure (.c (.fn 355 [] [])) [.t 29,.t 30]) 28 false,qo 32 (.pick (.t 28) (.c (.b true)) (.t 31))])
 (.cond (.t 32) (.seq (.reg false [qo 2 (.mv (.c (.b false)))])
 .ret)
 .skip))
 (.seq (.seq (.reg false [qo 33 (.fa 0 (.t 3)),qo 34 (.ld none (.t 33)),qo 35 (.bin .eql (.t 34) (.c (.i .i64 5))),qm 36 35,qg 37 (.fa 0 (.t 4)) 36 false,qg 38 (.ld none (.t 37)) 36 false,qg 39 (.bin .eql (.t 38) (.c (.i .i64 5))) 36 false,qo 40 (.pick (.t 36) (.c (.b true)) (.t 39))])
 (.cond (.t 40) (.seq (.reg false [qo 2 (.mv (.c (.b true)))])
 .ret)
 .skip))
 (.seq (.reg false [qo 41 (.fa 0 (.t 3)),qo 42 (.ld none (.t 41)),qo 43 (.bin .eql (.t 42) (.c (.i .i64 4))),qm 44 43,qg 45 (.fa 0 (.t 3)) 44 false,qg 46 (.ld none (.t 45)) 44 false,qg 47 (.bin .eql (.t 46) (.c (.i .i64 1))) 44 false,qg 48 (.mv (.t 47)) 44 false,qg 49 (.fa 1 (.t 3)) 48 true,qg 50 (.ld none (.t 49)) 48 true,qg 51 (.bin .eql (.t 50) (.c (.i .i64 1))) 48 true,qg 52 (.pick (.t 48) (.t 51) (.c (.b false))) 44 false,qo 53 (.pick (.t 44) (.c (.b true)) (.t 52)),qm 6 53])
 (.seq (.reg false [qo 54 (.fa 0 (.t 4)),qo 55 (.ld none (.t 54)),qo 56 (.bin .eql (.t 55) (.c (.i .i64 2))),qm 57 56,qg 58 (.fa 1 (.t 4)) 57 true,qg 59 (.ld none (.t 58)) 57 true,qg 60 (.bin .eql (.t 59) (.c (.i .i64 2))) 57 true,qo 61 (.pick (.t 57) (.t 60) (.c (.b false))),qm 62 61,qg 63 (.fa 0 (.t 4)) 62 false,qg 64 (.ld none (.t 63)) 62 false,qg 65 (.bin .eql (.t 64) (.c (.i .i64 4))) 62 false,qg 66 (.mv (.t 65)) 62 false,qg 67 (.fa 2 (.t 4)) 66 true,qg 68 (.ld none (.t 67)) 66 true,qg 69 (.bin .eql (.t 68) (.c (.i .i64 2))) 66 true,qg 70 (.pick (.t 66) (.t 69) (.c (.b false))) 62 false,qo 71 (.pick (.t 62) (.c (.b true)) (.t 70)),qm 7 71])
 (.seq (.reg false [qo 72 (.fa 4 (.t 3)),qo 73 (.ld none (.t 72)),qo 74 (.fa 4 (.t 4)),qo 75 (.ld none (.t 74)),qo 76 (.bin .neq (.t 73) (.t 75)),qm 77 76,qg 78 (.mv (.t 6)) 77 true,qg 79 (.un .not (.t 78)) 77 true,qo 80 (.pick (.t 77) (.t 79) (.c (.b false))),qm 81 80,qg 82 (.mv (.t 7)) 81 true,qg 83 (.un .not (.t 82)) 81 true,qo 84 (.pick (.t 81) (.t 83) (.c (.b false))),qm 2 84])
 .ret))))))))) }
def A_rules_swap:AFun:={ res:=[.t 2],body:=(.seq (.reg false [qo 1 (.box (.t 0)),qo 2 (.mv (.c (.sl [] 0 .rig)))])
 (.seq (.reg true [qo 3 (.ld (some 3) (.t 1)),qo 4 (.call .pure (.c (.fn 353 [] [])) [.t 3]),qo 5 (.ld (some 3) (.t 1)),qo 6 (.call .pure (.c (.fn 352 [] [])) [.t 5]),qo 7 (.bsl true 2 (List.replicate 5 (.i .i64 0) ++ [.sl [] 0 .rig] ++ List.replicate 6 (.i .i64 0) ++ [.sl [] 0 .rig,.i .i64 0]) [(0,7,.t 4),(7,7,.t 6)]),qm 2 7])
 .ret)) }
def A_rules_canDrop:AFun:={ res:=[.t 2],body:=(.seq (.reg false [qo 1 (.box (.t 0)),qo 2 (.mv (.c (.b false)))])
 (.seq (.seq (.reg false [qo 5 (.ld (some 3) (.t 1)),qo 6 (.call .pure (.c (.fn 351 [] [])) [.t 5]),qo 7 (.un .not (.t 6))])
 (.cond (.t 7) (.seq (.reg false [qo 2 (.mv (.c (.b false)))])
 .ret)
 .skip))
 (.seq (.reg true [qo 8 (.ld (some 3) (.t 1)),qo 9 (.call .pure (.c (.fn 352 [] [])) [.t 8]),qo 10 (.ld (some 3) (.t 1)),qo 11 (.call .pure (.c (.fn 353 [] [])) [.t 10]),qo 3 (.new (List.replicate 5 (.i .i64 0) ++ [.sl [] 0 .rig,.i .i64 0])),qo 4 (.new (List.replicate 5 (.i .i64 0) ++ [.sl [] 0 .rig,.i .i64 0])),qnp (.stL 7 (.t 3) (.t 9)) [4],qnp (.stL 7 (.t 4) (.t 11)) [5]])
 (.seq (.reg false [qo 12 (.fa 0 (.t 3)),qo 13 (.ld none (.t 12)),qo 14 (.bin .eql (.t 13) (.c (.i .i64 2))),qm 15 14,qg 16 (.fa 0 (.t 4)) 15 true,qg 17 (.ld none (.t 16)) 15 true,qg 18 (.bin .eql (.t 17) (.c (.i .i64 2))) 15 true,qo 19 (.pick (.t 15) (.t 18) (.c (.b false))),qm 20 19,qg 21 (.fa 4 (.t 3)) 20 true,qg 22 (.ld none (.t 21)) 20 true,qg 23 (.fa 4 (.t 4)) 20 true,qg 24 (.ld none (.t 23)) 20 true,qg 25 (.bin .eql (.t 22) (.t 24)) 20 true,qo 26 (.pick (.t 20) (.t 25) (.c (.b false))),qm 27 26,qg 28 (.fa 5 (.t 3)) 27 true,qg 29 (.ld none (.t 28)) 27 true,qg 30 (.call .pure (.c (.fn 307 [] [])) [.t 29]) 27 true,qg 31 (.len (.t 30)) 27 true,qg 32 (.bin .eql (.t 31) (.c (.i .i64 0))) 27 true,qo 33 (.pick (.t 27) (.t 32) (.c (.b false))),qm 34 33,qg 35 (.fa 1 (.t 3)) 34 true,qg 36 (.ld none (.t 35)) 34 true,qg 37 (.bin .eql (.t 36) (.c (.i .i64 0))) 34 true,qg 38 (.mv (.t 37)) 34 true,qg 39 (.fa 1 (.t 4)) 38 false,qg 40 (.ld none (.t 39)) 38 false,qg 41 (.bin .eql (.t 40) (.c (.i .i64 2))) 38 false,qg 42 (.pick (.t 38) (.c (.b true)) (.t 41)) 34 true,qo 43 (.pick (.t 34) (.t 42) (.c (.b false))),qm 2 43])
 .ret)))) }
def A_rules_dropWrite:AFun:={ res:=[.t 2],body:=(.seq (.reg false [qo 1 (.box (.t 0)),qo 2 (.mv (.c (.sl [] 0 .rig)))])
 (.seq (.reg false [qo 3 (.ld (some 3) (.t 1)),qo 4 (.call .pure (.c (.fn 353 [] [])) [.t 3]),qo 5 (.bsl true 1 (List.replicate 5 (.i .i64 0) ++ [.sl [] 0 .rig,.i .i64 0]) [(0,7,.t 4)]),qm 2 5])
 .ret)) }
def A_rules_canRead:AFun:={ res:=[.t 2],body:=(.seq (.reg false [qo 1 (.box (.t 0)),qo 2 (.mv (.c (.b false)))])
 (.seq (.reg false [qo 3 (.ld (some 3) (.t 1)),qo 4 (.call .pure (.c (.fn 356 [] [])) [.t 3,.c (.i .i64 2)]),qm 2 4])
 .ret)) }
def A_rules_readWrite:AFun:={ res:=[.t 2],body:=(.seq (.reg false [qo 1 (.box (.t 0)),qo 2 (.mv (.c (.sl [] 0 .rig)))])
 (.seq (.reg true [qo 3 (.ld (some 3) (.t 1)),qo 4 (.call .pure (.c (.fn 352 [] [])) [.t 3]),qo 5 (.ld (some 3) (.t 1)),qo 6 (.call .pure (.c (.fn 353 [] [])) [.t 5]),qo 7 (.fld 3 none (.t 6)),qo 8 (.ld (some 3) (.t 1)),qo 9 (.call .pure (.c (.fn 352 [] [])) [.t 8]),qo 10 (.fld 5 none (.t 9)),qo 11 (.call .pure (.c (.fn 378 [] [])) [.t 10]),qo 12 (.build (List.replicate 5 (.i .i64 0) ++ [.sl [] 0 .rig,.i .i64 0]) [(0,1,.c (.i .i64 5)),(3,1,.t 7),(5,1,.t 11)]),qo 13 (.bsl true 2 (List.replicate 5 (.i .i64 0) ++ [.sl [] 0 .rig] ++ List.replicate 6 (.i .i64 0) ++ [.sl [] 0 .rig,.i .i64 0]) [(0,7,.t 4),(7,7,.t 12)]),qm 2 13])
 .ret)) }
def A_rules_canAgain:AFun:={ res:=[.t 2],body:=(.seq (.reg false [qo 1 (.box (.t 0)),qo 2 (.mv (.c (.b false)))])
 (.seq (.reg false [qo 3 (.ld (some 3) (.t 1)),qo 4 (.call .pure (.c (.fn 356 [] [])) [.t 3,.c (.i .i64 1)]),qm 2 4])
 .ret)) }
def A_rules_readRead:AFun:={ res:=[.t 2],body:=(.seq (.reg false [qo 1 (.box (.t 0)),qo 2 (.mv (.c (.sl [] 0 .rig)))])
 (.seq (.reg true [qo 3 (.ld (some 3) (.t 1)),qo 4 (.call .pure (.c (.fn 352 [] [])) [.t 3]),qo 5 (.ld (some 3) (.t 1)),qo 6 (.call .pure (.c (.fn 353 [] [])) [.t 5]),qo 7 (.fld 3 none (.t 6)),qo 8 (.ld (some 3) (.t 1)),qo 9 (.call .pure (.c (.fn 352 [] [])) [.t 8]),qo 10 (.fld 3 none (.t 9)),qo 11 (.build ([.i .i64 0,.i .i64 0]) [(0,1,.c (.i .i64 2)),(1,1,.t 10)]),qo 12 (.bsl true 1 ([.i .i64 0,.i .i64 0]) [(0,2,.t 11)]),qo 13 (.build (List.replicate 5 (.i .i64 0) ++ [.sl [] 0 .rig,.i .i64 0]) [(0,1,.c (.i .i64 5)),(3,1,.t 7),(5,1,.t 12)]),qo 14 (.bsl true 2 (List.replicate 5 (.i .i64 0) ++ [.sl [] 0 .rig] ++ List.replicate 6 (.i .i64 0) ++ [.sl [] 0 .rig,.i .i64 0]) [(0,7,.t 4),(7,7,.t 13)]),qm 2 14])
 .ret)) }
def A_rules_canMerge:AFun:={ res:=[.t 2],body:=(.seq (.reg false [qo 1 (.box (.t 0)),qo 2 (.mv (.c (.b false)))])
 (.seq (.reg false [qo 3 (.ld (some 3) (.t 1)),qo 4 (.call .pure (.c (.fn 351 [] [])) [.t 3]),qm 5 4,qg 6 (.ld (some 3) (.t 1)) 5 true,qg 7 (.call .pure (.c (.fn 352 [] [])) [.t 6]) 5 true,qg 8 (.fld 0 none (.t 7)) 5 true,qg 9 (.bin .eql (.t 8) (.c (.i .i64 3))) 5 true,qo 10 (.pick (.t 5) (.t 9) (.c (.b false))),qm 11 10,qg 12 (.ld (some 3) (.t 1)) 11 true,qg 13 (.call .pure (.c (.fn 353 [] [])) [.t 12]) 11 true,qg 14 (.fld 0 none (.t 13)) 11 true,qg 15 (.bin .eql (.t 14) (.c (.i .i64 3))) 11 true,qo 16 (.pick (.t 11) (.t 15) (.c (.b false))),qm 2 16])
 .ret)) }
def A_rules_merge:AFun:={ res:=[.t 2],body:=(.seq (.reg false [qo 1 (.box (.t 0)),qo 2 (.mv (.c (.sl [] 0 .rig)))])
 (.seq (.reg true [qo 3 (.ld (some 3) (.t 1)),qo 4 (.call .pure (.c (.fn 352 [] [])) [.t 3]),qo 5 (.fld 1 none (.t 4)),qo 6 (.ld (some 3) (.t 1)),qo 7 (.call .pure (.c (.fn 353 [] [])) [.t 6]),qo 8 (.fld 1 none (.t 7)),qo 9 (.call .pure (.c (.fn 291 [] [])) [.t 5,.t 8]),qo 10 (.build (List.replicate 5 (.i .i64 0) ++ [.sl [] 0 .rig,.i .i64 0]) [(0,1,.c (.i .i64 3)),(1,1,.t 9)]),qo 11 (.bsl true 1 (List.replicate 5 (.i .i64 0) ++ [.sl [] 0 .rig,.i .i64 0]) [(0,7,.t 10)]),qm 2 11])
 .ret)) }
def A_rules_canStrengthen:AFun:={ res:=[.t 2],body:=(.seq (.reg false [qo 1 (.box (.t 0)),qo 2 (.mv (.c (.b false)))])
 (.seq (.seq (.reg false [qo 5 (.ld (some 3) (.t 1)),qo 6 (.call .pure (.c (.fn 357 [] [])) [.t 5,.c (.i .i64 1)]),qo 7 (.un .not (.t 6))])
 (.cond (.t 7) (.seq (.reg false [qo 2 (.mv (.c (.b false)))])
 .ret)
 .skip))
 (.seq (.reg true [qo 8 (.ld (some 3) (.t 1)),qo 9 (.call .pure (.c (.fn 352 [] [])) [.t 8]),qo 10 (.fa 2 (.t 1)),qo 11 (.ld none (.t 10)),qo 3 (.new (List.replicate 5 (.i .i64 0) ++ [.sl [] 0 .rig,.i .i64 0])),qnp (.stL 7 (.t 3) (.t 9)) [4],qm 4 11])
 (.seq (.seq (.reg false [qo 12 (.fa 0 (.t 3)),qo 13 (.ld none (.t 12))])
 (.blk 0 (.seq (.reg false [qo 15 (.bin .eql (.t 13) (.c (.i .i64 1))),qm 14 15])
 (.cond (.t 14) (.seq (.reg false [qo 16 (.fa 1 (.t 3)),qo 17 (.ld none (.t 16)),qo 18 (.bin .eql (.t 17) (.c (.i .i64 0))),qm 19 18,qg 20 (.mv (.t 4)) 19 true,qg 21 (.bin .eql (.t 20) (.c (.i .i64 1))) 19 true,qo 22 (.pick (.t 19) (.t 21) (.c (.b false))),qm 2 22])
 .ret)
 (.seq (.reg false [qo 24 (.bin .eql (.t 13) (.c (.i .i64 2))),qm 23 24])
 (.cond (.t 23) (.seq (.reg false [qo 25 (.fa 1 (.t 3)),qo 26 (.ld none (.t 25)),qo 27 (.bin .eql (.t 26) (.c (.i .i64 0))),qm 28 27,qg 29 (.mv (.t 4)) 28 true,qg 30 (.bin .eql (.t 29) (.c (.i .i64 2))) 28 true,qo 31 (.pick (.t 28) (.t 30) (.c (.b false))),qm 2 31])
 .ret)
 (.seq (.reg false [qo 33 (.bin .eql (.t 13) (.c (.i .i64 4))),qm 32 33])
 (.cond (.t 32) (.seq (.reg false [qo 34 (.fa 1 (.t 3)),qo 35 (.ld none (.t 34)),qo 36 (.bin .eql (.t 35) (.c (.i .i64 0))),qm 37 36,qg 38 (.mv (.t 4)) 37 true,qg 39 (.bin .eql (.t 38) (.c (.i .i64 1))) 37 true,qo 40 (.pick (.t 37) (.t 39) (.c (.b false))),qm 41 40,qg 42 (.fa 2 (.t 3)) 41 false,qg 43 (.ld none (.t 42)) 41 false,qg 44 (.bin .eql (.t 43) (.c (.i .i64 0))) 41 false,qg 45 (.mv (.t 44)) 41 false,qg 46 (.mv (.t 4)) 45 true,qg 47 (.bin .eql (.t 46) (.c (.i .i64 2))) 45 true,qg 48 (.pick (.t 45) (.t 47) (.c (.b false))) 41 false,qo 49 (.pick (.t 41) (.c (.b true)) (.t 48)),qm 2 49])
 .ret)
 .skip))))))))
 (.seq (.reg false [qo 50 (.fa 0 (.t 3)),qo 51 (.ld none (.t 50)),qo 52 (.bin .eql (.t 51) (.c (.i .i64 3))),qm 53 52,qg 54 (.mv (.t 4)) 53 true,qg 55 (.fa 1 (.t 3)) 53 true,qg 56 (.ld none (.t 55)) 53 true,qg 57 (.bin .neq (.t 54) (.t 56)) 53 true,qo 58 (.pick (.t 53) (.t 57) (.c (.b false))),qm 59 58,qg 60 (.mv (.t 4)) 59 true,qg 61 (.bin .neq (.t 60) (.c (.i .i64 0))) 59 true,qo 62 (.pick (.t 59) (.t 61) (.c (.b false))),qm 63 62,qg 64 (.fa 1 (.t 3)) 63 true,qg 65 (.ld none (.t 64)) 63 true,qg 66 (.mv (.t 4)) 63 true,qg 67 (.call .pure (.c (.fn 291 [] [])) [.t 65,.t 66]) 63 true,qg 68 (.mv (.t 4)) 63 true,qg 69 (.bin .eql (.t 67) (.t 68)) 63 true,qo 70 (.pick (.t 63) (.t 69) (.c (.b false))),qm 2 70])
 .ret))))) }
def A_rules_strengthen:AFun:={ res:=[.t 2],body:=(.seq (.reg false [qo 1 (.box (.t 0)),qo 2 (.mv (.c (.sl [] 0 .rig)))])
 (.seq (.reg false [qo 4 (.ld (some 3) (.t 1)),qo 5 (.call .pure (.c (.fn 352 [] [])) [.t 4]),qo 3 (.new (List.replicate 5 (.i .i64 0) ++ [.sl [] 0 .rig,.i .i64 0])),qn (.st 7 (.t 3) (.t 5))])
 (.seq (.seq (.reg false [qo 6 (.fa 0 (.t 3)),qo 7 (.ld none (.t 6)),qo 8 (.bin .eql (.t 7) (.c (.i .i64 4))),qm 9 8,qg 10 (.fa 2 (.t 1)) 9 true,qg 11 (.ld none (.t 10)) 9 true,qg 12 (.bin .eql (.t 11) (.c (.i .i64 2))) 9 true,qo 13 (.pick (.t 9) (.t 12) (.c (.b false)))])
 (.cond (.t 13) (.reg false [qo 14 (.fa 2 (.t 1)),qo 15 (.ld none (.t 14)),qo 16 (.fa 2 (.t 3)),qn (.st 1 (.t 16) (.t 15))])
 (.reg false [qo 17 (.fa 2 (.t 1)),qo 18 (.ld none (.t 17)),qo 19 (.fa 1 (.t 3)),qn (.st 1 (.t 19) (.t 18))])))
 (.seq (.reg false [qo 20 (.ld (some 7) (.t 3)),qo 21 (.bsl true 1 (List.replicate 5 (.i .i64 0) ++ [.sl [] 0 .rig,.i .i64 0]) [(0,7,.t 20)]),qm 2 21])
 .ret)))) }
def A_rules_canInsert:AFun:={ res:=[.t 2],body:=(.seq (.reg false [qo 1 (.box (.t 0)),qo 2 (.mv (.c (.b false)))])
 (.seq (.reg false [qo 3 (.ld (some 3) (.t 1)),qo 4 (.call .pure (.c (.fn 357 [] [])) [.t 3,.c (.i .i64 0)]),qm 5 4,qg 6 (.fa 2 (.t 1)) 5 true,qg 7 (.ld none (.t 6)) 5 true,qg 8 (.call .pure (.c (.fn 310 [] [])) [.t 7]) 5 true,qo 9 (.pick (.t 5) (.t 8) (.c (.b false))),qm 2 9])
 .ret)) }
def A_rules_insert:AFun:={ res:=[.t 2],body:=(.seq (.reg false [qo 1 (.box (.t 0)),qo 2 (.mv (.c (.sl [] 0 .rig)))])
 (.seq (.reg false [qo 3 (.fa 2 (.t 1)),qo 4 (.ld none (.t 3)),qo 5 (.build (List.replicate 5 (.i .i64 0) ++ [.sl [] 0 .rig,.i .i64 0]) [(0,1,.c (.i .i64 3)),(1,1,.t 4)]),qo 6 (.bsl true 1 (List.replicate 5 (.i .i64 0) ++ [.sl [] 0 .rig,.i .i64 0]) [(0,7,.t 5)]),qm 2 6])
 .ret)) }
def A_rules_canFold:AFun:={ res:=[.t 2],body:=(.seq (.reg false [qo 1 (.box (.t 0)),qo 2 (.mv (.c (.b false)))])
 (.seq (.seq (.reg false [qo 4 (.ld (some 3) (.t 1)),qo 5 (.call .pure (.c (.fn 357 [] [])) [.t 4,.c (.i .i64 1)]),qo 6 (.un .not (.t 5)),qm 7 6,qg 8 (.fa 2 (.t 1)) 7 false,qg 9 (.ld none (.t 8)) 7 false,qg 10 (.bin .neq (.t 9) (.c (.i .i64 0))) 7 false,qo 11 (.pick (.t 7) (.c (.b true)) (.t 10)),qm 12 11,qg 13 (.ld (some 3) (.t 1)) 12 false,qg 14 (.call .pure (.c (.fn 352 [] [])) [.t 13]) 12 false,qg 15 (.fld 5 none (.t 14)) 12 false,qg 16 (.len (.t 15)) 12 false,qg 17 (.bin .lss (.t 16) (.c (.i .i64 2))) 12 false,qo 18 (.pick (.t 12) (.c (.b true)) (.t 17)),qm 19 18,qg 20 (.ld (some 3) (.t 1)) 19 false,qg 21 (.call .pure (.c (.fn 352 [] [])) [.t 20]) 19 false,qg 22 (.fld 5 none (.t 21)) 19 false,qg 23 (.call .pure (.c (.fn 307 [] [])) [.t 22]) 19 false,qg 24 (.len (.t 23)) 19 false,qg 25 (.bin .gtr (.t 24) (.c (.i .i64 0))) 19 false,qo 26 (.pick (.t 19) (.c (.b true)) (.t 25))])
 (.cond (.t 26) (.seq (.reg false [qo 2 (.mv (.c (.b false)))])
 .ret)
 .skip))
 (.seq (.reg false [qo 27 (.ld (some 3) (.t 1)),qo 28 (.call .pure (.c (.fn 352 [] [])) [.t 27]),qo 29 (.fld 5 none (.t 28)),qo 30 (.call .pure (.c (.fn 358 [] [])) [.t 29,.c (.sl [] 0 .rig)]),qm 3 30])
 (.seq (.reg false [qm 31 3,qo 32 (.bin .geq (.t 31) (.c (.i .i64 (-2147483648)))),qm 33 32,qg 34 (.mv (.t 3)) 33 true,qg 35 (.bin .lss (.t 34) (.c (.i .i64 2147483648))) 33 true,qo 36 (.pick (.t 33) (.t 35) (.c (.b false))),qm 2 36])
 .ret)))) }
def A_rules_fold:AFun:={ res:=[.t 2],body:=(.seq (.reg false [qo 1 (.box (.t 0)),qo 2 (.mv (.c (.sl [] 0 .rig)))])
 (.seq (.reg false [qo 4 (.ld (some 3) (.t 1)),qo 5 (.call .pure (.c (.fn 352 [] [])) [.t 4]),qo 3 (.new (List.replicate 5 (.i .i64 0) ++ [.sl [] 0 .rig,.i .i64 0])),qn (.st 7 (.t 3) (.t 5))])
 (.seq (.reg false [qo 6 (.fa 5 (.t 3)),qo 7 (.ld none (.t 6)),qo 8 (.call .pure (.c (.fn 358 [] [])) [.t 7,.c (.sl [] 0 .rig)]),qo 9 (.build ([.i .i64 0,.i .i64 0]) [(0,1,.c (.i .i64 1)),(1,1,.t 8)]),qo 10 (.bsl true 1 ([.i .i64 0,.i .i64 0]) [(0,2,.t 9)]),qo 11 (.fa 5 (.t 3)),qn (.st 1 (.t 11) (.t 10))])
 (.seq (.reg false [qo 12 (.ld (some 7) (.t 3)),qo 13 (.bsl true 1 (List.replicate 5 (.i .i64 0) ++ [.sl [] 0 .rig,.i .i64 0]) [(0,7,.t 12)]),qm 2 13])
 .ret)))) }
def A_rules_at_both:AFun:={ res:=[.t 2],body:=(.seq (.reg false [qo 1 (.box (.t 0)),qo 2 (.mv (.c (.b false)))])
 (.seq (.reg true [qo 3 (.ld (some 3) (.t 1)),qo 4 (.call .pure (.c (.fn 357 [] [])) [.t 3,.c (.i .i64 2)]),qm 5 4,qg 6 (.fa 2 (.t 1)) 5 true,qg 7 (.ld none (.t 6)) 5 true,qg 8 (.bin .eql (.t 7) (.c (.i .i64 0))) 5 true,qo 9 (.pick (.t 5) (.t 8) (.c (.b false))),qm 10 9,qg 11 (.fa 0 (.t 1)) 10 true,qg 12 (.ld none (.t 11)) 10 true,qg 13 (.call .pure (.c (.fn 290 [] [])) [.t 12]) 10 true,qg 14 (.fa 1 (.t 1)) 10 true,qg 15 (.ld none (.t 14)) 10 true,qg 16 (.bin .add (.t 15) (.c (.i .i64 1))) 10 true,qg 17 (.call .pure (.c (.fn 369 [] [])) [.t 13,.t 16]) 10 true,qg 18 (.un .not (.t 17)) 10 true,qo 19 (.pick (.t 10) (.t 18) (.c (.b false))),qm 2 19])
 .ret)) }
def A_rules_at_i:AFun:={ res:=[.cell 2 (some 7)],body:=(.seq (.reg false [qo 1 (.box (.t 0)),qo 2 (.new (List.replicate 5 (.i .i64 0) ++ [.sl [] 0 .rig,.i .i64 0]))])
 (.seq (.reg false [qo 3 (.fa 0 (.t 1)),qo 4 (.ld none (.t 3)),qo 5 (.fa 1 (.t 1)),qo 6 (.ld none (.t 5)),qo 7 (.ia 7 (.t 4) (.t 6)),qo 8 (.ld (some 7) (.t 7)),qn (.st 7 (.t 2) (.t 8))])
 .ret)) }
def A_rules_at_k:AFun:={ res:=[.cell 2 (some 7)],body:=(.seq (.reg false [qo 1 (.box (.t 0)),qo 2 (.new (List.replicate 5 (.i .i64 0) ++ [.sl [] 0 .rig,.i .i64 0]))])
 (.seq (.reg false [qo 3 (.fa 0 (.t 1)),qo 4 (.ld none (.t 3)),qo 5 (.fa 1 (.t 1)),qo 6 (.ld none (.t 5)),qo 7 (.bin .add (.t 6) (.c (.i .i64 1))),qo 8 (.ia 7 (.t 4) (.t 7)),qo 9 (.ld (some 7) (.t 8)),qn (.st 7 (.t 2) (.t 9))])
 .ret)) }
def A_rules_canSwap_1:AFun:={ res:=[.t 2],body:=(.seq (.reg false [qo 1 (.box (.t 0)),qo 2 (.mv (.c (.b false)))])
 (.seq (.reg false [qo 3 (.fa 0 (.t 1)),qo 4 (.ld none (.t 3)),qo 5 (.bin .eql (.t 4) (.c (.i .i64 3))),qm 6 5,qg 7 (.fa 0 (.t 1)) 6 false,qg 8 (.ld none (.t 7)) 6 false,qg 9 (.bin .eql (.t 8) (.c (.i .i64 6))) 6 false,qo 10 (.pick (.t 6) (.c (.b true)) (.t 9)),qm 2 10])
 .ret)) }
def A_rules_meets:AFun:={ res:=[.t 4],body:=(.seq (.reg false [qo 2 (.box (.t 0)),qo 3 (.box (.t 1)),qo 4 (.mv (.c (.b false)))])
 (.seq (.reg true [qo 5 (.ld (some 7) (.t 2)),qo 6 (.call .pure (.c (.fn 360 [] [])) [.t 5]),qm 7 6,qg 8 (.fa 5 (.t 3)) 7 true,qg 9 (.ld none (.t 8)) 7 true,qg 10 (.call .pure (.c (.fn 307 [] [])) [.t 9]) 7 true,qg 11 (.fa 3 (.t 2)) 7 true,qg 12 (.ld none (.t 11)) 7 true,qg 13 (.call .pure (.c (.fn 369 [] [])) [.t 10,.t 12]) 7 true,qg 14 (.mv (.t 13)) 7 true,qg 15 (.ld (some 7) (.t 3)) 14 false,qg 16 (.call .pure (.c (.fn 360 [] [])) [.t 15]) 14 false,qg 17 (.mv (.t 16)) 14 false,qg 18 (.fa 3 (.t 3)) 17 true,qg 19 (.ld none (.t 18)) 17 true,qg 20 (.fa 3 (.t 2)) 17 true,qg 21 (.ld none (.t 20)) 17 true,qg 22 (.bin .eql (.t 19) (.t 21)) 17 true,qg 23 (.pick (.t 17) (.t 22) (.c (.b false))) 14 false,qg 24 (.pick (.t 14) (.c (.b true)) (.t 23)) 7 true,qo 25 (.pick (.t 7) (.t 24) (.c (.b false))),qm 4 25])
 .ret)) }
def A_rules_at_reads:AFun:={ res:=[.t 4],body:=(.seq (.reg false [qo 2 (.box (.t 0)),qo 4 (.mv (.c (.b false)))])
 (.seq (.seq (.reg false [qo 7 (.ld (some 3) (.t 2)),qo 8 (.call .pure (.c (.fn 351 [] [])) [.t 7]),qo 9 (.un .not (.t 8))])
 (.cond (.t 9) (.seq (.reg false [qo 4 (.mv (.c (.b false)))])
 .ret)
 .skip))
 (.seq (.reg true [qo 10 (.ld (some 3) (.t 2)),qo 11 (.call .pure (.c (.fn 352 [] [])) [.t 10]),qo 12 (.ld (some 3) (.t 2)),qo 13 (.call .pure (.c (.fn 353 [] [])) [.t 12]),qo 5 (.new (List.replicate 5 (.i .i64 0) ++ [.sl [] 0 .rig,.i .i64 0])),qo 6 (.new (List.replicate 5 (.i .i64 0) ++ [.sl [] 0 .rig,.i .i64 0])),qnp (.stL 7 (.t 5) (.t 11)) [4],qnp (.stL 7 (.t 6) (.t 13)) [5]])
 (.seq (.reg false [qo 14 (.fa 0 (.t 5)),qo 15 (.ld none (.t 14)),qm 16 1,qo 17 (.bin .eql (.t 15) (.t 16)),qm 18 17,qg 19 (.fa 0 (.t 6)) 18 true,qg 20 (.ld none (.t 19)) 18 true,qg 21 (.bin .eql (.t 20) (.c (.i .i64 1))) 18 true,qo 22 (.pick (.t 18) (.t 21) (.c (.b false))),qm 23 22,qg 24 (.fa 1 (.t 6)) 23 true,qg 25 (.ld none (.t 24)) 23 true,qg 26 (.bin .eql (.t 25) (.c (.i .i64 0))) 23 true,qo 27 (.pick (.t 23) (.t 26) (.c (.b false))),qm 28 27,qg 29 (.fa 4 (.t 5)) 28 true,qg 30 (.ld none (.t 29)) 28 true,qg 31 (.fa 4 (.t 6)) 28 true,qg 32 (.ld none (.t 31)) 28 true,qg 33 (.bin .eql (.t 30) (.t 32)) 28 true,qo 34 (.pick (.t 28) (.t 33) (.c (.b false))),qm 4 34])
 .ret)))) }
def A_rules_at_has:AFun:={ res:=[.t 4],body:=(.seq (.reg false [qo 2 (.box (.t 0)),qo 4 (.mv (.c (.b false)))])
 (.seq (.reg false [qo 5 (.fa 1 (.t 2)),qo 6 (.ld none (.t 5)),qo 7 (.bin .geq (.t 6) (.c (.i .i64 0))),qm 8 7,qg 9 (.fa 1 (.t 2)) 8 true,qg 10 (.ld none (.t 9)) 8 true,qg 11 (.fa 0 (.t 2)) 8 true,qg 12 (.ld none (.t 11)) 8 true,qg 13 (.len (.t 12)) 8 true,qg 14 (.mv (.t 1)) 8 true,qg 15 (.bin .sub (.t 13) (.t 14)) 8 true,qg 16 (.bin .leq (.t 10) (.t 15)) 8 true,qo 17 (.pick (.t 8) (.t 16) (.c (.b false))),qm 4 17])
 .ret)) }
def A_rules_sets:AFun:={ res:=[.t 2],body:=(.seq (.reg false [qo 1 (.box (.t 0)),qo 2 (.mv (.c (.b false)))])
 (.seq (.reg false [qo 3 (.fa 0 (.t 1)),qo 4 (.ld none (.t 3)),qo 5 (.bin .eql (.t 4) (.c (.i .i64 1))),qm 6 5,qg 7 (.fa 0 (.t 1)) 6 false,qg 8 (.ld none (.t 7)) 6 false,qg 9 (.bin .eql (.t 8) (.c (.i .i64 4))) 6 false,qo 10 (.pick (.t 6) (.c (.b true)) (.t 9)),qm 11 10,qg 12 (.fa 0 (.t 1)) 11 false,qg 13 (.ld none (.t 12)) 11 false,qg 14 (.bin .eql (.t 13) (.c (.i .i64 5))) 11 false,qo 15 (.pick (.t 11) (.c (.b true)) (.t 14)),qm 2 15])
 .ret)) }
end Go.Ab
end
section
namespace Go.Ab
def A_slices_Contains_lint_int:AFun:={ res:=[.t 4],body:=(.seq (.reg false [qo 4 (.mv (.c (.b false)))])
 (.seq (.reg false [qm 5 0,qm 6 1,qo 7 (.call .pure (.c (.fn 419 [] [])) [.t 5,.t 6]),qo 8 (.bin .geq (.t 7) (.c (.i .i64 0))),qm 4 8])
 .ret)) }
def A_slices_Clone_llapi_Instr_lapi_Instr:AFun:={ res:=[.t 2],body:=(.seq (.reg false [qo 2 (.mv (.c (.sl [] 0 .rig)))])
 (.seq (.seq (.reg false [qm 3 0,qo 4 (.eqs false (.t 3))])
 (.cond (.t 4) (.seq (.reg false [qo 2 (.mv (.c (.sl [] 0 .rig)))])
 .ret)
 .skip))
 (.seq (.reg false [qo 5 (.bsl true 0 [] []),qm 6 0,qo 7 (.appM 1 24 (.t 5) (.t 6)),qm 2 7])
 .ret))) }
def A_slices_Sort_lint_int:AFun:={ res:=[],body:=(.seq (.reg false [qm 3 0,qo 4 (.len (.t 3)),qm 2 4])
 (.reg false [qm 5 0,qm 6 2,qm 7 2,qo 8 (.conv .u64 (.t 7)),qo 9 (.call .pure (.c (.fn 421 [] [])) [.t 8]),qo 10 (.call .raw (.c (.fn 420 [] [])) [.t 5,.c (.i .i64 0),.t 6,.t 9])])) }
def A_slices_Compact_lint_int:AFun:={ res:=[.t 2],body:=(.seq (.reg false [qo 2 (.mv (.c (.sl [] 0 .rig)))])
 (.seq (.seq (.reg false [qm 6 0,qo 7 (.len (.t 6)),qo 8 (.bin .lss (.t 7) (.c (.i .i64 2)))])
 (.cond (.t 8) (.seq (.reg false [qm 9 0,qm 2 9])
 .ret)
 .skip))
 (.seq (.seq (.reg false [qo 3 (.mv (.c (.i .i64 1)))])
 (.blk 0 (.loop (.seq (.seq (.reg false [qm 10 3,qm 11 0,qo 12 (.len (.t 11)),qo 13 (.bin .lss (.t 10) (.t 12))])
 (.cond (.t 13) .skip
 (.ext 0)))
 (.seq (.blk 1 (.seq (.reg true [qm 16 0,qm 17 3,qo 18 (.ia 1 (.t 16) (.t 17)),qo 19 (.ld none (.t 18)),qm 20 0,qm 21 3,qo 22 (.bin .sub (.t 21) (.c (.i .i64 1))),qo 23 (.ia 1 (.t 20) (.t 22)),qo 24 (.ld none (.t 23)),qo 25 (.bin .eql (.t 19) (.t 24))])
 (.cond (.t 25) (.seq (.reg false [qm 26 0,qm 27 3,qo 28 (.slice 1 (.t 26) (some (.t 27)) none none),qm 4 28])
 (.seq (.seq (.reg false [qo 5 (.mv (.c (.i .i64 1)))])
 (.blk 2 (.loop (.seq (.seq (.reg false [qm 29 5,qm 30 4,qo 31 (.len (.t 30)),qo 32 (.bin .lss (.t 29) (.t 31))])
 (.cond (.t 32) .skip
 (.ext 2)))
 (.seq (.blk 3 (.seq (.reg true [qm 35 4,qm 36 5,qo 37 (.ia 1 (.t 35) (.t 36)),qo 38 (.ld none (.t 37)),qm 39 4,qm 40 5,qo 41 (.bin .sub (.t 40) (.c (.i .i64 1))),qo 42 (.ia 1 (.t 39) (.t 41)),qo 43 (.ld none (.t 42)),qo 44 (.bin .neq (.t 38) (.t 43))])
 (.cond (.t 44) (.seq (.reg false [qm 45 0,qm 46 3,qm 47 4,qm 48 5,qo 49 (.ia 1 (.t 47) (.t 48)),qo 50 (.ld none (.t 49)),qo 51 (.ia 1 (.t 45) (.t 46)),qn (.st 1 (.t 51) (.t 50))])
 (.reg false [qm 52 3,qo 53 (.bin .add (.t 52) (.c (.i .i64 1))),qm 3 53]))
 .skip)))
 (.reg false [qm 33 5,qo 34 (.bin .add (.t 33) (.c (.i .i64 1))),qm 5 34]))))))
 (.seq (.reg false [qm 54 0,qm 55 3,qo 56 (.slice 1 (.t 54) (some (.t 55)) none none),qn (.clr 1 ([.i .i64 0]) (.t 56))])
 (.seq (.reg false [qm 57 0,qm 58 3,qo 59 (.cutM 1 (.t 57) (.t 58)),qm 2 59])
 .ret))))
 .skip)))
 (.reg false [qm 14 3,qo 15 (.bin .add (.t 14) (.c (.i .i64 1))),qm 3 15]))))))
 (.seq (.reg false [qm 60 0,qm 2 60])
 .ret)))) }
def A_slices_Clone_lapi_Tok_api_Tok:AFun:={ res:=[.t 2],body:=(.seq (.reg false [qo 2 (.mv (.c (.sl [] 0 .rig)))])
 (.seq (.seq (.reg false [qm 3 0,qo 4 (.eqs false (.t 3))])
 (.cond (.t 4) (.seq (.reg false [qo 2 (.mv (.c (.sl [] 0 .rig)))])
 .ret)
 .skip))
 (.seq (.reg false [qo 5 (.bsl true 0 [] []),qm 6 0,qo 7 (.app 2 16 (.t 5) (.t 6)),qm 2 7])
 .ret))) }
def A_slices_Index_lint_int:AFun:={ res:=[.t 4],body:=(.seq (.reg false [qo 4 (.mv (.c (.i .i64 0)))])
 (.seq (.seq (.reg false [qm 6 0,qo 7 (.len (.t 6)),qo 8 (.mv (.c (.i .i64 0)))])
 (.blk 0 (.loop (.seq (.reg false [qo 9 (.bin .lss (.t 8) (.t 7))])
 (.seq (.cond (.t 9) .skip
 (.ext 0))
 (.seq (.blk 1 (.seq (.reg false [qm 10 8,qm 5 10])
 (.seq (.reg false [qm 11 1,qm 12 0,qm 13 5,qo 14 (.ia 1 (.t 12) (.t 13)),qo 15 (.ld none (.t 14)),qo 16 (.bin .eql (.t 11) (.t 15))])
 (.cond (.t 16) (.seq (.reg false [qm 17 5,qm 4 17])
 .ret)
 .skip))))
 (.reg false [qo 18 (.bin .add (.t 8) (.c (.i .i64 1))),qm 8 18])))))))
 (.seq (.reg false [qo 4 (.mv (.c (.i .i64 (-1))))])
 .ret))) }
def A_slices_pdqsortOrdered_int:AFun:={ res:=[],body:=(.seq (.reg false [qo 8 (.mv (.c (.b true)))])
 (.seq (.reg false [qo 9 (.mv (.c (.b true)))])
 (.blk 0 (.loop (.blk 1 (.seq (.reg false [qm 19 2,qm 20 1,qo 21 (.bin .sub (.t 19) (.t 20)),qm 10 21])
 (.seq (.seq (.reg false [qm 22 10,qo 23 (.bin .leq (.t 22) (.c (.i .i64 12)))])
 (.cond (.t 23) (.seq (.reg false [qm 24 0,qm 25 1,qm 26 2,qo 27 (.call .raw (.c (.fn 424 [] [])) [.t 24,.t 25,.t 26])])
 .ret)
 .skip))
 (.seq (.seq (.reg false [qm 28 3,qo 29 (.bin .eql (.t 28) (.c (.i .i64 0)))])
 (.cond (.t 29) (.seq (.reg false [qm 30 0,qm 31 1,qm 32 2,qo 33 (.call .pure (.c (.fn 425 [] [])) [.t 30,.t 31,.t 32])])
 .ret)
 .skip))
 (.seq (.seq (.reg false [qm 34 8,qo 35 (.un .not (.t 34))])
 (.cond (.t 35) (.seq (.reg false [qm 36 0,qm 37 1,qm 38 2,qo 39 (.call .pure (.c (.fn 426 [] [])) [.t 36,.t 37,.t 38])])
 (.reg false [qm 40 3,qo 41 (.bin .sub (.t 40) (.c (.i .i64 1))),qm 3 41]))
 .skip))
 (.seq (.reg false [qm 43 0,qm 44 1,qm 45 2,qo 46 (.call .pure (.c (.fn 427 [] [])) [.t 43,.t 44,.t 45]),qm 42 46,qo 47 (.ext 0 (.t 42)),qo 48 (.ext 1 (.t 42)),qm 11 47,qm 12 48])
 (.seq (.seq (.reg false [qm 49 12,qo 50 (.bin .eql (.t 49) (.c (.i .i64 2)))])
 (.cond (.t 50) (.seq (.reg false [qm 51 0,qm 52 1,qm 53 2,qo 54 (.call .pure (.c (.fn 428 [] [])) [.t 51,.t 52,.t 53])])
 (.seq (.reg false [qm 55 2,qo 56 (.bin .sub (.t 55) (.c (.i .i64 1))),qm 57 11,qm 58 1,qo 59 (.bin .sub (.t 57) (.t 58)),qo 60 (.bin .sub (.t 56) (.t 59)),qm 11 60])
 (.reg false [qo 12 (.mv (.c (.i .i64 1)))])))
 .skip))
 (.seq (.seq (.reg false [qm 61 8,qm 62 61,qg 63 (.mv (.t 9)) 62 true,qo 64 (.pick (.t 62) (.t 63) (.c (.b false))),qm 65 64,qg 66 (.mv (.t 12)) 65 true,qg 67 (.bin .eql (.t 66) (.c (.i .i64 1))) 65 true,qo 68 (.pick (.t 65) (.t 67) (.c (.b false)))])
 (.cond (.t 68) (.seq (.reg false [qm 69 0,qm 70 1,qm 71 2,qo 72 (.call .pure (.c (.fn 429 [] [])) [.t 69,.t 70,.t 71])])
 (.cond (.t 72) .ret
 .skip))
 .skip))
 (.seq (.seq (.reg true [qm 73 1,qo 74 (.bin .gtr (.t 73) (.c (.i .i64 0))),qm 75 74,qg 76 (.mv (.t 0)) 75 true,qg 77 (.mv (.t 1)) 75 true,qg 78 (.bin .sub (.t 77) (.c (.i .i64 1))) 75 true,qg 79 (.ia 1 (.t 76) (.t 78)) 75 true,qg 80 (.ld none (.t 79)) 75 true,qg 81 (.mv (.t 0)) 75 true,qg 82 (.mv (.t 11)) 75 true,qg 83 (.ia 1 (.t 81) (.t 82)) 75 true,qg 84 (.ld none (.t 83)) 75 true,qg 85 (.call .pure (.c (.fn 359 [] [])) [.t 80,.t 84]) 75 true,qg 86 (.un .not (.t 85)) 75 true,qo 87 (.pick (.t 75) (.t 86) (.c (.b false)))])
 (.cond (.t 87) (.seq (.reg false [qm 88 0,qm 89 1,qm 90 2,qm 91 11,qo 92 (.call .pure (.c (.fn 430 [] [])) [.t 88,.t 89,.t 90,.t 91]),qm 13 92])
 (.seq (.reg false [qm 93 13,qm 1 93])
 (.ext 1)))
 .skip))
 (.seq (.reg false [qm 95 0,qm 96 1,qm 97 2,qm 98 11,qo 99 (.call .pure (.c (.fn 431 [] [])) [.t 95,.t 96,.t 97,.t 98]),qm 94 99,qo 100 (.ext 0 (.t 94)),qo 101 (.ext 1 (.t 94)),qm 14 100,qm 15 101])
 (.seq (.reg false [qm 102 15,qm 9 102])
 (.seq (.reg false [qm 103 14,qm 104 1,qo 105 (.bin .sub (.t 103) (.t 104)),qm 106 2,qm 107 14,qo 108 (.bin .sub (.t 106) (.t 107)),qm 16 105,qm 17 108])
 (.seq (.reg false [qm 109 10,qo 110 (.bin .quo (.t 109) (.c (.i .i64 8))),qm 18 110])
 (.seq (.reg false [qm 111 16,qm 112 17,qo 113 (.bin .lss (.t 111) (.t 112))])
 (.cond (.t 113) (.seq (.reg false [qm 114 16,qm 115 18,qo 116 (.bin .geq (.t 114) (.t 115)),qm 8 116])
 (.seq (.reg false [qm 117 0,qm 118 1,qm 119 14,qm 120 3,qo 121 (.call .pure (.c (.fn 420 [] [])) [.t 117,.t 118,.t 119,.t 120])])
 (.reg false [qm 122 14,qo 123 (.bin .add (.t 122) (.c (.i .i64 1))),qm 1 123])))
 (.seq (.reg false [qm 124 17,qm 125 18,qo 126 (.bin .geq (.t 124) (.t 125)),qm 8 126])
 (.seq (.reg false [qm 127 0,qm 128 14,qo 129 (.bin .add (.t 128) (.c (.i .i64 1))),qm 130 2,qm 131 3,qo 132 (.call .pure (.c (.fn 420 [] [])) [.t 127,.t 129,.t 130,.t 131])])
 (.reg false [qm 133 14,qm 2 133])))))))))))))))))))))) }
def A_slices_insertionSortOrdered_int:AFun:={ res:=[],body:=(.seq (.reg false [qm 8 1,qo 9 (.bin .add (.t 8) (.c (.i .i64 1))),qm 6 9])
 (.blk 0 (.loop (.seq (.seq (.reg false [qm 10 6,qm 11 2,qo 12 (.bin .lss (.t 10) (.t 11))])
 (.cond (.t 12) .skip
 (.ext 0)))
 (.seq (.blk 1 (.seq (.reg false [qm 15 6,qm 7 15])
 (.blk 2 (.loop (.seq (.seq (.reg true [qm 16 7,qm 17 1,qo 18 (.bin .gtr (.t 16) (.t 17)),qm 19 18,qg 20 (.mv (.t 0)) 19 true,qg 21 (.mv (.t 7)) 19 true,qg 22 (.ia 1 (.t 20) (.t 21)) 19 true,qg 23 (.ld none (.t 22)) 19 true,qg 24 (.mv (.t 0)) 19 true,qg 25 (.mv (.t 7)) 19 true,qg 26 (.bin .sub (.t 25) (.c (.i .i64 1))) 19 true,qg 27 (.ia 1 (.t 24) (.t 26)) 19 true,qg 28 (.ld none (.t 27)) 19 true,qg 29 (.call .pure (.c (.fn 359 [] [])) [.t 23,.t 28]) 19 true,qo 30 (.pick (.t 19) (.t 29) (.c (.b false)))])
 (.cond (.t 30) .skip
 (.ext 2)))
 (.seq (.blk 3 (.reg true [qm 33 0,qm 34 7,qm 35 0,qm 36 7,qo 37 (.bin .sub (.t 36) (.c (.i .i64 1))),qm 38 0,qm 39 7,qo 40 (.bin .sub (.t 39) (.c (.i .i64 1))),qo 41 (.ia 1 (.t 38) (.t 40)),qo 42 (.ld none (.t 41)),qm 43 0,qm 44 7,qo 45 (.ia 1 (.t 43) (.t 44)),qo 46 (.ld none (.t 45)),qo 47 (.ia 1 (.t 33) (.t 34)),qn (.st 1 (.t 47) (.t 42)),qo 48 (.ia 1 (.t 35) (.t 37)),qn (.st 1 (.t 48) (.t 46))]))
 (.reg false [qm 31 7,qo 32 (.bin .sub (.t 31) (.c (.i .i64 1))),qm 7 32])))))))
 (.reg false [qm 13 6,qo 14 (.bin .add (.t 13) (.c (.i .i64 1))),qm 6 14])))))) }
def A_slices_heapSortOrdered_int:AFun:={ res:=[],body:=(.seq (.reg false [qm 11 1,qm 6 11])
 (.seq (.reg false [qo 7 (.mv (.c (.i .i64 0)))])
 (.seq (.reg false [qm 12 2,qm 13 1,qo 14 (.bin .sub (.t 12) (.t 13)),qm 8 14])
 (.seq (.seq (.reg false [qm 15 8,qo 16 (.bin .sub (.t 15) (.c (.i .i64 1))),qo 17 (.bin .quo (.t 16) (.c (.i .i64 2))),qm 9 17])
 (.blk 0 (.loop (.seq (.seq (.reg false [qm 18 9,qo 19 (.bin .geq (.t 18) (.c (.i .i64 0)))])
 (.cond (.t 19) .skip
 (.ext 0)))
 (.seq (.blk 1 (.reg false [qm 22 0,qm 23 9,qm 24 8,qm 25 6,qo 26 (.call .pure (.c (.fn 442 [] [])) [.t 22,.t 23,.t 24,.t 25])]))
 (.reg false [qm 20 9,qo 21 (.bin .sub (.t 20) (.c (.i .i64 1))),qm 9 21]))))))
 (.seq (.reg false [qm 27 8,qo 28 (.bin .sub (.t 27) (.c (.i .i64 1))),qm 10 28])
 (.blk 2 (.loop (.seq (.seq (.reg false [qm 29 10,qo 30 (.bin .geq (.t 29) (.c (.i .i64 0)))])
 (.cond (.t 30) .skip
 (.ext 2)))
 (.seq (.blk 3 (.seq (.reg true [qm 33 0,qm 34 6,qm 35 0,qm 36 6,qm 37 10,qo 38 (.bin .add (.t 36) (.t 37)),qm 39 0,qm 40 6,qm 41 10,qo 42 (.bin .add (.t 40) (.t 41)),qo 43 (.ia 1 (.t 39) (.t 42)),qo 44 (.ld none (.t 43)),qm 45 0,qm 46 6,qo 47 (.ia 1 (.t 45) (.t 46)),qo 48 (.ld none (.t 47)),qo 49 (.ia 1 (.t 33) (.t 34)),qn (.st 1 (.t 49) (.t 44)),qo 50 (.ia 1 (.t 35) (.t 38)),qn (.st 1 (.t 50) (.t 48))])
 (.reg false [qm 51 0,qm 52 7,qm 53 10,qm 54 6,qo 55 (.call .pure (.c (.fn 442 [] [])) [.t 51,.t 52,.t 53,.t 54])])))
 (.reg false [qm 31 10,qo 32 (.bin .sub (.t 31) (.c (.i .i64 1))),qm 10 32])))))))))) }
def A_slices_breakPatternsOrdered_int:AFun:={ res:=[],body:=(.seq (.reg false [qm 11 2,qm 12 1,qo 13 (.bin .sub (.t 11) (.t 12)),qm 6 13])
 (.seq (.reg false [qm 14 6,qo 15 (.bin .geq (.t 14) (.c (.i .i64 8)))])
 (.cond (.t 15) (.seq (.reg false [qm 16 6,qo 17 (.conv .u64 (.t 16)),qo 7 (.new ([.i .u64 0])),qn (.st 1 (.t 7) (.t 17))])
 (.seq (.reg false [qm 18 6,qo 19 (.call .pure (.c (.fn 443 [] [])) [.t 18]),qm 8 19])
 (.seq (.reg false [qm 20 1,qm 21 6,qo 22 (.bin .quo (.t 21) (.c (.i .i64 4))),qo 23 (.bin .mul (.t 22) (.c (.i .i64 2))),qo 24 (.bin .add (.t 20) (.t 23)),qo 25 (.bin .sub (.t 24) (.c (.i .i64 1))),qm 9 25])
 (.blk 0 (.loop (.seq (.seq (.reg false [qm 26 9,qm 27 1,qm 28 6,qo 29 (.bin .quo (.t 28) (.c (.i .i64 4))),qo 30 (.bin .mul (.t 29) (.c (.i .i64 2))),qo 31 (.bin .add (.t 27) (.t 30)),qo 32 (.bin .add (.t 31) (.c (.i .i64 1))),qo 33 (.bin .leq (.t 26) (.t 32))])
 (.cond (.t 33) .skip
 (.ext 0)))
 (.seq (.blk 1 (.seq (.reg false [qo 36 (.call .pure (.c (.fn 444 [] [])) [.t 7]),qm 37 8,qo 38 (.bin .sub (.t 37) (.c (.i .u64 1))),qo 39 (.bin .and (.t 36) (.t 38)),qo 40 (.conv .i64 (.t 39)),qm 10 40])
 (.seq (.seq (.reg false [qm 41 10,qm 42 6,qo 43 (.bin .geq (.t 41) (.t 42))])
 (.cond (.t 43) (.reg false [qm 44 10,qm 45 6,qo 46 (.bin .sub (.t 44) (.t 45)),qm 10 46])
 .skip))
 (.reg true [qm 47 0,qm 48 9,qm 49 0,qm 50 1,qm 51 10,qo 52 (.bin .add (.t 50) (.t 51)),qm 53 0,qm 54 1,qm 55 10,qo 56 (.bin .add (.t 54) (.t 55)),qo 57 (.ia 1 (.t 53) (.t 56)),qo 58 (.ld none (.t 57)),qm 59 0,qm 60 9,qo 61 (.ia 1 (.t 59) (.t 60)),qo 62 (.ld none (.t 61)),qo 63 (.ia 1 (.t 47) (.t 48)),qn (.st 1 (.t 63) (.t 58)),qo 64 (.ia 1 (.t 49) (.t 52)),qn (.st 1 (.t 64) (.t 62))]))))
 (.reg false [qm 34 9,qo 35 (.bin .add (.t 34) (.c (.i .i64 1))),qm 9 35]))))))))
 .skip))) }
def A_slices_choosePivotOrdered_int:AFun:={ res:=[.t 6,.t 7],body:=(.seq (.reg false [qo 6 (.mv (.c (.i .i64 0))),qo 7 (.mv (.c (.i .i64 0)))])
 (.seq (.reg false [qm 13 2,qm 14 1,qo 15 (.bin .sub (.t 13) (.t 14)),qm 8 15])
 (.seq (.reg false [qo 9 (.new ([.i .i64 0]))])
 (.seq (.reg false [qm 16 1,qm 17 8,qo 18 (.bin .quo (.t 17) (.c (.i .i64 4))),qo 19 (.bin .mul (.t 18) (.c (.i .i64 1))),qo 20 (.bin .add (.t 16) (.t 19)),qm 10 20])
 (.seq (.reg false [qm 21 1,qm 22 8,qo 23 (.bin .quo (.t 22) (.c (.i .i64 4))),qo 24 (.bin .mul (.t 23) (.c (.i .i64 2))),qo 25 (.bin .add (.t 21) (.t 24)),qm 11 25])
 (.seq (.reg false [qm 26 1,qm 27 8,qo 28 (.bin .quo (.t 27) (.c (.i .i64 4))),qo 29 (.bin .mul (.t 28) (.c (.i .i64 3))),qo 30 (.bin .add (.t 26) (.t 29)),qm 12 30])
 (.seq (.seq (.reg false [qm 31 8,qo 32 (.bin .geq (.t 31) (.c (.i .i64 8)))])
 (.cond (.t 32) (.seq (.seq (.reg false [qm 33 8,qo 34 (.bin .geq (.t 33) (.c (.i .i64 50)))])
 (.cond (.t 34) (.seq (.reg false [qm 35 0,qm 36 10,qo 37 (.call .pure (.c (.fn 445 [] [])) [.t 35,.t 36,.t 9]),qm 10 37])
 (.seq (.reg false [qm 38 0,qm 39 11,qo 40 (.call .pure (.c (.fn 445 [] [])) [.t 38,.t 39,.t 9]),qm 11 40])
 (.reg false [qm 41 0,qm 42 12,qo 43 (.call .pure (.c (.fn 445 [] [])) [.t 41,.t 42,.t 9]),qm 12 43])))
 .skip))
 (.reg false [qm 44 0,qm 45 10,qm 46 11,qm 47 12,qo 48 (.call .pure (.c (.fn 446 [] [])) [.t 44,.t 45,.t 46,.t 47,.t 9]),qm 11 48]))
 .skip))
 (.seq (.reg false [qo 49 (.ld none (.t 9))])
 (.blk 0 (.seq (.reg false [qo 52 (.bin .eql (.t 49) (.c (.i .i64 0))),qm 51 52])
 (.cond (.t 51) (.seq (.reg false [qm 53 11,qm 6 53,qo 7 (.mv (.c (.i .i64 1)))])
 .ret)
 (.seq (.reg false [qo 55 (.bin .eql (.t 49) (.c (.i .i64 12))),qm 54 55])
 (.cond (.t 54) (.seq (.reg false [qm 56 11,qm 6 56,qo 7 (.mv (.c (.i .i64 2)))])
 .ret)
 (.seq (.reg false [qm 50 11,qm 6 50,qo 7 (.mv (.c (.i .i64 0)))])
 .ret)))))))))))))) }
def A_slices_reverseRangeOrdered_int:AFun:={ res:=[],body:=(.seq (.reg false [qm 8 1,qm 6 8])
 (.seq (.reg false [qm 9 2,qo 10 (.bin .sub (.t 9) (.c (.i .i64 1))),qm 7 10])
 (.blk 0 (.loop (.seq (.seq (.reg false [qm 11 6,qm 12 7,qo 13 (.bin .lss (.t 11) (.t 12))])
 (.cond (.t 13) .skip
 (.ext 0)))
 (.blk 1 (.seq (.reg true [qm 14 0,qm 15 6,qm 16 0,qm 17 7,qm 18 0,qm 19 7,qo 20 (.ia 1 (.t 18) (.t 19)),qo 21 (.ld none (.t 20)),qm 22 0,qm 23 6,qo 24 (.ia 1 (.t 22) (.t 23)),qo 25 (.ld none (.t 24)),qo 26 (.ia 1 (.t 14) (.t 15)),qn (.st 1 (.t 26) (.t 21)),qo 27 (.ia 1 (.t 16) (.t 17)),qn (.st 1 (.t 27) (.t 25))])
 (.seq (.reg false [qm 28 6,qo 29 (.bin .add (.t 28) (.c (.i .i64 1))),qm 6 29])
 (.reg false [qm 30 7,qo 31 (.bin .sub (.t 30) (.c (.i .i64 1))),qm 7 31]))))))))) }
def A_slices_partialInsertionSortOrdered_int:AFun:={ res:=[.t 6],body:=(.seq (.reg false [qo 6 (.mv (.c (.b false)))])
 (.seq (.reg false [qm 11 1,qo 12 (.bin .add (.t 11) (.c (.i .i64 1))),qm 7 12])
 (.seq (.seq (.reg false [qo 8 (.mv (.c (.i .i64 0)))])
 (.blk 0 (.loop (.seq (.seq (.reg false [qm 13 8,qo 14 (.bin .lss (.t 13) (.c (.i .i64 5)))])
 (.cond (.t 14) .skip
 (.ext 0)))
 (.seq (.blk 1 (.seq (.blk 2 (.loop (.seq (.seq (.reg true [qm 17 7,qm 18 2,qo 19 (.bin .lss (.t 17) (.t 18)),qm 20 19,qg 21 (.mv (.t 0)) 20 true,qg 22 (.mv (.t 7)) 20 true,qg 23 (.ia 1 (.t 21) (.t 22)) 20 true,qg 24 (.ld none (.t 23)) 20 true,qg 25 (.mv (.t 0)) 20 true,qg 26 (.mv (.t 7)) 20 true,qg 27 (.bin .sub (.t 26) (.c (.i .i64 1))) 20 true,qg 28 (.ia 1 (.t 25) (.t 27)) 20 true,qg 29 (.ld none (.t 28)) 20 true,qg 30 (.call .pure (.c (.fn 359 [] [])) [.t 24,.t 29]) 20 true,qg 31 (.un .not (.t 30)) 20 true,qo 32 (.pick (.t 20) (.t 31) (.c (.b false)))])
 (.cond (.t 32) .skip
 (.ext 2)))
 (.blk 3 (.reg false [qm 33 7,qo 34 (.bin .add (.t 33) (.c (.i .i64 1))),qm 7 34])))))
 (.seq (.seq (.reg false [qm 35 7,qm 36 2,qo 37 (.bin .eql (.t 35) (.t 36))])
 (.cond (.t 37) (.seq (.reg false [qo 6 (.mv (.c (.b true)))])
 .ret)
 .skip))
 (.seq (.seq (.reg false [qm 38 2,qm 39 1,qo 40 (.bin .sub (.t 38) (.t 39)),qo 41 (.bin .lss (.t 40) (.c (.i .i64 50)))])
 (.cond (.t 41) (.seq (.reg false [qo 6 (.mv (.c (.b false)))])
 .ret)
 .skip))
 (.seq (.reg true [qm 42 0,qm 43 7,qm 44 0,qm 45 7,qo 46 (.bin .sub (.t 45) (.c (.i .i64 1))),qm 47 0,qm 48 7,qo 49 (.bin .sub (.t 48) (.c (.i .i64 1))),qo 50 (.ia 1 (.t 47) (.t 49)),qo 51 (.ld none (.t 50)),qm 52 0,qm 53 7,qo 54 (.ia 1 (.t 52) (.t 53)),qo 55 (.ld none (.t 54)),qo 56 (.ia 1 (.t 42) (.t 43)),qn (.st 1 (.t 56) (.t 51)),qo 57 (.ia 1 (.t 44) (.t 46)),qn (.st 1 (.t 57) (.t 55))])
 (.seq (.seq (.reg false [qm 58 7,qm 59 1,qo 60 (.bin .sub (.t 58) (.t 59)),qo 61 (.bin .geq (.t 60) (.c (.i .i64 2)))])
 (.cond (.t 61) (.seq (.reg false [qm 62 7,qo 63 (.bin .sub (.t 62) (.c (.i .i64 1))),qm 9 63])
 (.blk 4 (.loop (.seq (.seq (.reg false [qm 64 9,qo 65 (.bin .geq (.t 64) (.c (.i .i64 1)))])
 (.cond (.t 65) .skip
 (.ext 4)))
 (.seq (.blk 5 (.seq (.seq (.reg true [qm 68 0,qm 69 9,qo 70 (.ia 1 (.t 68) (.t 69)),qo 71 (.ld none (.t 70)),qm 72 0,qm 73 9,qo 74 (.bin .sub (.t 73) (.c (.i .i64 1))),qo 75 (.ia 1 (.t 72) (.t 74)),qo 76 (.ld none (.t 75)),qo 77 (.call .pure (.c (.fn 359 [] [])) [.t 71,.t 76]),qo 78 (.un .not (.t 77))])
 (.cond (.t 78) (.ext 4)
 .skip))
 (.reg true [qm 79 0,qm 80 9,qm 81 0,qm 82 9,qo 83 (.bin .sub (.t 82) (.c (.i .i64 1))),qm 84 0,qm 85 9,qo 86 (.bin .sub (.t 85) (.c (.i .i64 1))),qo 87 (.ia 1 (.t 84) (.t 86)),qo 88 (.ld none (.t 87)),qm 89 0,qm 90 9,qo 91 (.ia 1 (.t 89) (.t 90)),qo 92 (.ld none (.t 91)),qo 93 (.ia 1 (.t 79) (.t 80)),qn (.st 1 (.t 93) (.t 88)),qo 94 (.ia 1 (.t 81) (.t 83)),qn (.st 1 (.t 94) (.t 92))])))
 (.reg false [qm 66 9,qo 67 (.bin .sub (.t 66) (.c (.i .i64 1))),qm 9 67]))))))
 .skip))
 (.seq (.reg false [qm 95 2,qm 96 7,qo 97 (.bin .sub (.t 95) (.t 96)),qo 98 (.bin .geq (.t 97) (.c (.i .i64 2)))])
 (.cond (.t 98) (.seq (.reg false [qm 99 7,qo 100 (.bin .add (.t 99) (.c (.i .i64 1))),qm 10 100])
 (.blk 6 (.loop (.seq (.seq (.reg false [qm 101 10,qm 102 2,qo 103 (.bin .lss (.t 101) (.t 102))])
 (.cond (.t 103) .skip
 (.ext 6)))
 (.seq (.blk 7 (.seq (.seq (.reg true [qm 106 0,qm 107 10,qo 108 (.ia 1 (.t 106) (.t 107)),qo 109 (.ld none (.t 108)),qm 110 0,qm 111 10,qo 112 (.bin .sub (.t 111) (.c (.i .i64 1))),qo 113 (.ia 1 (.t 110) (.t 112)),qo 114 (.ld none (.t 113)),qo 115 (.call .pure (.c (.fn 359 [] [])) [.t 109,.t 114]),qo 116 (.un .not (.t 115))])
 (.cond (.t 116) (.ext 6)
 .skip))
 (.reg true [qm 117 0,qm 118 10,qm 119 0,qm 120 10,qo 121 (.bin .sub (.t 120) (.c (.i .i64 1))),qm 122 0,qm 123 10,qo 124 (.bin .sub (.t 123) (.c (.i .i64 1))),qo 125 (.ia 1 (.t 122) (.t 124)),qo 126 (.ld none (.t 125)),qm 127 0,qm 128 10,qo 129 (.ia 1 (.t 127) (.t 128)),qo 130 (.ld none (.t 129)),qo 131 (.ia 1 (.t 117) (.t 118)),qn (.st 1 (.t 131) (.t 126)),qo 132 (.ia 1 (.t 119) (.t 121)),qn (.st 1 (.t 132) (.t 130))])))
 (.reg false [qm 104 10,qo 105 (.bin .add (.t 104) (.c (.i .i64 1))),qm 10 105]))))))
 .skip))))))))
 (.reg false [qm 15 8,qo 16 (.bin .add (.t 15) (.c (.i .i64 1))),qm 8 16]))))))
 (.seq (.reg false [qo 6 (.mv (.c (.b false)))])
 .ret)))) }
def A_slices_partitionEqualOrdered_int:AFun:={ res:=[.t 8],body:=(.seq (.reg false [qo 8 (.mv (.c (.i .i64 0)))])
 (.seq (.reg true [qm 11 0,qm 12 1,qm 13 0,qm 14 3,qm 15 0,qm 16 3,qo 17 (.ia 1 (.t 15) (.t 16)),qo 18 (.ld none (.t 17)),qm 19 0,qm 20 1,qo 21 (.ia 1 (.t 19) (.t 20)),qo 22 (.ld none (.t 21)),qo 23 (.ia 1 (.t 11) (.t 12)),qn (.st 1 (.t 23) (.t 18)),qo 24 (.ia 1 (.t 13) (.t 14)),qn (.st 1 (.t 24) (.t 22))])
 (.seq (.reg false [qm 25 1,qo 26 (.bin .add (.t 25) (.c (.i .i64 1))),qm 27 2,qo 28 (.bin .sub (.t 27) (.c (.i .i64 1))),qm 9 26,qm 10 28])
 (.seq (.blk 0 (.loop (.blk 1 (.seq (.blk 2 (.loop (.seq (.seq (.reg true [qm 29 9,qm 30 10,qo 31 (.bin .leq (.t 29) (.t 30)),qm 32 31,qg 33 (.mv (.t 0)) 32 true,qg 34 (.mv (.t 1)) 32 true,qg 35 (.ia 1 (.t 33) (.t 34)) 32 true,qg 36 (.ld none (.t 35)) 32 true,qg 37 (.mv (.t 0)) 32 true,qg 38 (.mv (.t 9)) 32 true,qg 39 (.ia 1 (.t 37) (.t 38)) 32 true,qg 40 (.ld none (.t 39)) 32 true,qg 41 (.call .pure (.c (.fn 359 [] [])) [.t 36,.t 40]) 32 true,qg 42 (.un .not (.t 41)) 32 true,qo 43 (.pick (.t 32) (.t 42) (.c (.b false)))])
 (.cond (.t 43) .skip
 (.ext 2)))
 (.blk 3 (.reg false [qm 44 9,qo 45 (.bin .add (.t 44) (.c (.i .i64 1))),qm 9 45])))))
 (.seq (.blk 4 (.loop (.seq (.seq (.reg true [qm 46 9,qm 47 10,qo 48 (.bin .leq (.t 46) (.t 47)),qm 49 48,qg 50 (.mv (.t 0)) 49 true,qg 51 (.mv (.t 1)) 49 true,qg 52 (.ia 1 (.t 50) (.t 51)) 49 true,qg 53 (.ld none (.t 52)) 49 true,qg 54 (.mv (.t 0)) 49 true,qg 55 (.mv (.t 10)) 49 true,qg 56 (.ia 1 (.t 54) (.t 55)) 49 true,qg 57 (.ld none (.t 56)) 49 true,qg 58 (.call .pure (.c (.fn 359 [] [])) [.t 53,.t 57]) 49 true,qo 59 (.pick (.t 49) (.t 58) (.c (.b false)))])
 (.cond (.t 59) .skip
 (.ext 4)))
 (.blk 5 (.reg false [qm 60 10,qo 61 (.bin .sub (.t 60) (.c (.i .i64 1))),qm 10 61])))))
 (.seq (.seq (.reg false [qm 62 9,qm 63 10,qo 64 (.bin .gtr (.t 62) (.t 63))])
 (.cond (.t 64) (.ext 0)
 .skip))
 (.seq (.reg true [qm 65 0,qm 66 9,qm 67 0,qm 68 10,qm 69 0,qm 70 10,qo 71 (.ia 1 (.t 69) (.t 70)),qo 72 (.ld none (.t 71)),qm 73 0,qm 74 9,qo 75 (.ia 1 (.t 73) (.t 74)),qo 76 (.ld none (.t 75)),qo 77 (.ia 1 (.t 65) (.t 66)),qn (.st 1 (.t 77) (.t 72)),qo 78 (.ia 1 (.t 67) (.t 68)),qn (.st 1 (.t 78) (.t 76))])
 (.seq (.reg false [qm 79 9,qo 80 (.bin .add (.t 79) (.c (.i .i64 1))),qm 9 80])
 (.reg false [qm 81 10,qo 82 (.bin .sub (.t 81) (.c (.i .i64 1))),qm 10 82])))))))))
 (.seq (.reg false [qm 83 9,qm 8 83])
 .ret))))) }
def A_slices_partitionOrdered_int:AFun:={ res:=[.t 8,.t 9],body:=(.seq (.reg false [qo 8 (.mv (.c (.i .i64 0))),qo 9 (.mv (.c (.b false)))])
 (.seq (.reg true [qm 12 0,qm 13 1,qm 14 0,qm 15 3,qm 16 0,qm 17 3,qo 18 (.ia 1 (.t 16) (.t 17)),qo 19 (.ld none (.t 18)),qm 20 0,qm 21 1,qo 22 (.ia 1 (.t 20) (.t 21)),qo 23 (.ld none (.t 22)),qo 24 (.ia 1 (.t 12) (.t 13)),qn (.st 1 (.t 24) (.t 19)),qo 25 (.ia 1 (.t 14) (.t 15)),qn (.st 1 (.t 25) (.t 23))])
 (.seq (.reg false [qm 26 1,qo 27 (.bin .add (.t 26) (.c (.i .i64 1))),qm 28 2,qo 29 (.bin .sub (.t 28) (.c (.i .i64 1))),qm 10 27,qm 11 29])
 (.seq (.blk 0 (.loop (.seq (.seq (.reg true [qm 30 10,qm 31 11,qo 32 (.bin .leq (.t 30) (.t 31)),qm 33 32,qg 34 (.mv (.t 0)) 33 true,qg 35 (.mv (.t 10)) 33 true,qg 36 (.ia 1 (.t 34) (.t 35)) 33 true,qg 37 (.ld none (.t 36)) 33 true,qg 38 (.mv (.t 0)) 33 true,qg 39 (.mv (.t 1)) 33 true,qg 40 (.ia 1 (.t 38) (.t 39)) 33 true,qg 41 (.ld none (.t 40)) 33 true,qg 42 (.call .pure (.c (.fn 359 [] [])) [.t 37,.t 41]) 33 true,qo 43 (.pick (.t 33) (.t 42) (.c (.b false)))])
 (.cond (.t 43) .skip
 (.ext 0)))
 (.blk 1 (.reg false [qm 44 10,qo 45 (.bin .add (.t 44) (.c (.i .i64 1))),qm 10 45])))))
 (.seq (.blk 2 (.loop (.seq (.seq (.reg true [qm 46 10,qm 47 11,qo 48 (.bin .leq (.t 46) (.t 47)),qm 49 48,qg 50 (.mv (.t 0)) 49 true,qg 51 (.mv (.t 11)) 49 true,qg 52 (.ia 1 (.t 50) (.t 51)) 49 true,qg 53 (.ld none (.t 52)) 49 true,qg 54 (.mv (.t 0)) 49 true,qg 55 (.mv (.t 1)) 49 true,qg 56 (.ia 1 (.t 54) (.t 55)) 49 true,qg 57 (.ld none (.t 56)) 49 true,qg 58 (.call .pure (.c (.fn 359 [] [])) [.t 53,.t 57]) 49 true,qg 59 (.un .not (.t 58)) 49 true,qo 60 (.pick (.t 49) (.t 59) (.c (.b false)))])
 (.cond (.t 60) .skip
 (.ext 2)))
 (.blk 3 (.reg false [qm 61 11,qo 62 (.bin .sub (.t 61) (.c (.i .i64 1))),qm 11 62])))))
 (.seq (.seq (.reg false [qm 63 10,qm 64 11,qo 65 (.bin .gtr (.t 63) (.t 64))])
 (.cond (.t 65) (.seq (.reg true [qm 66 0,qm 67 11,qm 68 0,qm 69 1,qm 70 0,qm 71 1,qo 72 (.ia 1 (.t 70) (.t 71)),qo 73 (.ld none (.t 72)),qm 74 0,qm 75 11,qo 76 (.ia 1 (.t 74) (.t 75)),qo 77 (.ld none (.t 76)),qo 78 (.ia 1 (.t 66) (.t 67)),qn (.st 1 (.t 78) (.t 73)),qo 79 (.ia 1 (.t 68) (.t 69)),qn (.st 1 (.t 79) (.t 77))])
 (.seq (.reg false [qm 80 11,qm 8 80,qo 9 (.mv (.c (.b true)))])
 .ret))
 .skip))
 (.seq (.reg true [qm 81 0,qm 82 10,qm 83 0,qm 84 11,qm 85 0,qm 86 11,qo 87 (.ia 1 (.t 85) (.t 86)),qo 88 (.ld none (.t 87)),qm 89 0,qm 90 10,qo 91 (.ia 1 (.t 89) (.t 90)),qo 92 (.ld none (.t 91)),qo 93 (.ia 1 (.t 81) (.t 82)),qn (.st 1 (.t 93) (.t 88)),qo 94 (.ia 1 (.t 83) (.t 84)),qn (.st 1 (.t 94) (.t 92))])
 (.seq (.reg false [qm 95 10,qo 96 (.bin .add (.t 95) (.c (.i .i64 1))),qm 10 96])
 (.seq (.reg false [qm 97 11,qo 98 (.bin .sub (.t 97) (.c (.i .i64 1))),qm 11 98])
 (.seq (.blk 4 (.loop (.blk 5 (.seq (.blk 6 (.loop (.seq (.seq (.reg true [qm 99 10,qm 100 11,qo 101 (.bin .leq (.t 99) (.t 100)),qm 102 101,qg 103 (.mv (.t 0)) 102 true,qg 104 (.mv (.t 10)) 102 true,qg 105 (.ia 1 (.t 103) (.t 104)) 102 true,qg 106 (.ld none (.t 105)) 102 true,qg 107 (.mv (.t 0)) 102 true,qg 108 (.mv (.t 1)) 102 true,qg 109 (.ia 1 (.t 107) (.t 108)) 102 true,qg 110 (.ld none (.t 109)) 102 true,qg 111 (.call .pure (.c (.fn 359 [] [])) [.t 106,.t 110]) 102 true,qo 112 (.pick (.t 102) (.t 111) (.c (.b false)))])
 (.cond (.t 112) .skip
 (.ext 6)))
 (.blk 7 (.reg false [qm 113 10,qo 114 (.bin .add (.t 113) (.c (.i .i64 1))),qm 10 114])))))
 (.seq (.blk 8 (.loop (.seq (.seq (.reg true [qm 115 10,qm 116 11,qo 117 (.bin .leq (.t 115) (.t 116)),qm 118 117,qg 119 (.mv (.t 0)) 118 true,qg 120 (.mv (.t 11)) 118 true,qg 121 (.ia 1 (.t 119) (.t 120)) 118 true,qg 122 (.ld none (.t 121)) 118 true,qg 123 (.mv (.t 0)) 118 true,qg 124 (.mv (.t 1)) 118 true,qg 125 (.ia 1 (.t 123) (.t 124)) 118 true,qg 126 (.ld none (.t 125)) 118 true,qg 127 (.call .pure (.c (.fn 359 [] [])) [.t 122,.t 126]) 118 true,qg 128 (.un .not (.t 127)) 118 true,qo 129 (.pick (.t 118) (.t 128) (.c (.b false)))])
 (.cond (.t 129) .skip
 (.ext 8)))
 (.blk 9 (.reg false [qm 130 11,qo 131 (.bin .sub (.t 130) (.c (.i .i64 1))),qm 11 131])))))
 (.seq (.seq (.reg false [qm 132 10,qm 133 11,qo 134 (.bin .gtr (.t 132) (.t 133))])
 (.cond (.t 134) (.ext 4)
 .skip))
 (.seq (.reg true [qm 135 0,qm 136 10,qm 137 0,qm 138 11,qm 139 0,qm 140 11,qo 141 (.ia 1 (.t 139) (.t 140)),qo 142 (.ld none (.t 141)),qm 143 0,qm 144 10,qo 145 (.ia 1 (.t 143) (.t 144)),qo 146 (.ld none (.t 145)),qo 147 (.ia 1 (.t 135) (.t 136)),qn (.st 1 (.t 147) (.t 142)),qo 148 (.ia 1 (.t 137) (.t 138)),qn (.st 1 (.t 148) (.t 146))])
 (.seq (.reg false [qm 149 10,qo 150 (.bin .add (.t 149) (.c (.i .i64 1))),qm 10 150])
 (.reg false [qm 151 11,qo 152 (.bin .sub (.t 151) (.c (.i .i64 1))),qm 11 152])))))))))
 (.seq (.reg true [qm 153 0,qm 154 11,qm 155 0,qm 156 1,qm 157 0,qm 158 1,qo 159 (.ia 1 (.t 157) (.t 158)),qo 160 (.ld none (.t 159)),qm 161 0,qm 162 11,qo 163 (.ia 1 (.t 161) (.t 162)),qo 164 (.ld none (.t 163)),qo 165 (.ia 1 (.t 153) (.t 154)),qn (.st 1 (.t 165) (.t 160)),qo 166 (.ia 1 (.t 155) (.t 156)),qn (.st 1 (.t 166) (.t 164))])
 (.seq (.reg false [qm 167 11,qm 8 167,qo 9 (.mv (.c (.b false)))])
 .ret)))))))))))) }
def A_slices_siftDownOrdered_int:AFun:={ res:=[],body:=(.seq (.reg false [qm 10 1,qm 8 10])
 (.blk 0 (.loop (.blk 1 (.seq (.reg false [qm 11 8,qo 12 (.bin .mul (.c (.i .i64 2)) (.t 11)),qo 13 (.bin .add (.t 12) (.c (.i .i64 1))),qm 9 13])
 (.seq (.seq (.reg false [qm 14 9,qm 15 2,qo 16 (.bin .geq (.t 14) (.t 15))])
 (.cond (.t 16) (.ext 0)
 .skip))
 (.seq (.seq (.reg true [qm 17 9,qo 18 (.bin .add (.t 17) (.c (.i .i64 1))),qm 19 2,qo 20 (.bin .lss (.t 18) (.t 19)),qm 21 20,qg 22 (.mv (.t 0)) 21 true,qg 23 (.mv (.t 3)) 21 true,qg 24 (.mv (.t 9)) 21 true,qg 25 (.bin .add (.t 23) (.t 24)) 21 true,qg 26 (.ia 1 (.t 22) (.t 25)) 21 true,qg 27 (.ld none (.t 26)) 21 true,qg 28 (.mv (.t 0)) 21 true,qg 29 (.mv (.t 3)) 21 true,qg 30 (.mv (.t 9)) 21 true,qg 31 (.bin .add (.t 29) (.t 30)) 21 true,qg 32 (.bin .add (.t 31) (.c (.i .i64 1))) 21 true,qg 33 (.ia 1 (.t 28) (.t 32)) 21 true,qg 34 (.ld none (.t 33)) 21 true,qg 35 (.call .pure (.c (.fn 359 [] [])) [.t 27,.t 34]) 21 true,qo 36 (.pick (.t 21) (.t 35) (.c (.b false)))])
 (.cond (.t 36) (.reg false [qm 37 9,qo 38 (.bin .add (.t 37) (.c (.i .i64 1))),qm 9 38])
 .skip))
 (.seq (.seq (.reg true [qm 39 0,qm 40 3,qm 41 8,qo 42 (.bin .add (.t 40) (.t 41)),qo 43 (.ia 1 (.t 39) (.t 42)),qo 44 (.ld none (.t 43)),qm 45 0,qm 46 3,qm 47 9,qo 48 (.bin .add (.t 46) (.t 47)),qo 49 (.ia 1 (.t 45) (.t 48)),qo 50 (.ld none (.t 49)),qo 51 (.call .pure (.c (.fn 359 [] [])) [.t 44,.t 50]),qo 52 (.un .not (.t 51))])
 (.cond (.t 52) .ret
 .skip))
 (.seq (.reg true [qm 53 0,qm 54 3,qm 55 8,qo 56 (.bin .add (.t 54) (.t 55)),qm 57 0,qm 58 3,qm 59 9,qo 60 (.bin .add (.t 58) (.t 59)),qm 61 0,qm 62 3,qm 63 9,qo 64 (.bin .add (.t 62) (.t 63)),qo 65 (.ia 1 (.t 61) (.t 64)),qo 66 (.ld none (.t 65)),qm 67 0,qm 68 3,qm 69 8,qo 70 (.bin .add (.t 68) (.t 69)),qo 71 (.ia 1 (.t 67) (.t 70)),qo 72 (.ld none (.t 71)),qo 73 (.ia 1 (.t 53) (.t 56)),qn (.st 1 (.t 73) (.t 66)),qo 74 (.ia 1 (.t 57) (.t 60)),qn (.st 1 (.t 74) (.t 72))])
 (.reg false [qm 75 9,qm 8 75])))))))))) }
def A_slices_nextPowerOfTwo:AFun:={ res:=[.t 2],body:=(.seq (.reg false [qo 2 (.mv (.c (.i .u64 0)))])
 (.seq (.reg false [qm 3 0,qo 4 (.conv .u64 (.t 3)),qo 5 (.call .pure (.c (.fn 421 [] [])) [.t 4]),qo 6 (.bin .shl (.c (.i .u64 1)) (.t 5)),qm 2 6])
 .ret)) }
def A_slices_xorshift_Next:AFun:={ res:=[.t 2],body:=(.seq (.reg false [qo 2 (.mv (.c (.i .u64 0)))])
 (.seq (.reg true [qm 3 0,qo 4 (.nilck (.t 3)),qo 5 (.ld none (.t 4)),qm 6 0,qo 7 (.nilck (.t 6)),qo 8 (.ld none (.t 7)),qo 9 (.bin .shl (.t 8) (.c (.i .u64 13))),qo 10 (.bin .xor (.t 5) (.t 9)),qo 11 (.nilck (.t 3)),qn (.st 1 (.t 11) (.t 10))])
 (.seq (.reg true [qm 12 0,qo 13 (.nilck (.t 12)),qo 14 (.ld none (.t 13)),qm 15 0,qo 16 (.nilck (.t 15)),qo 17 (.ld none (.t 16)),qo 18 (.bin .shr (.t 17) (.c (.i .u64 7))),qo 19 (.bin .xor (.t 14) (.t 18)),qo 20 (.nilck (.t 12)),qn (.st 1 (.t 20) (.t 19))])
 (.seq (.reg true [qm 21 0,qo 22 (.nilck (.t 21)),qo 23 (.ld none (.t 22)),qm 24 0,qo 25 (.nilck (.t 24)),qo 26 (.ld none (.t 25)),qo 27 (.bin .shl (.t 26) (.c (.i .u64 17))),qo 28 (.bin .xor (.t 23) (.t 27)),qo 29 (.nilck (.t 21)),qn (.st 1 (.t 29) (.t 28))])
 (.seq (.reg false [qm 30 0,qo 31 (.nilck (.t 30)),qo 32 (.ld none (.t 31)),qm 2 32])
 .ret))))) }
def A_slices_medianAdjacentOrdered_int:AFun:={ res:=[.t 6],body:=(.seq (.reg false [qo 6 (.mv (.c (.i .i64 0)))])
 (.seq (.reg false [qm 7 0,qm 8 1,qo 9 (.bin .sub (.t 8) (.c (.i .i64 1))),qm 10 1,qm 11 1,qo 12 (.bin .add (.t 11) (.c (.i .i64 1))),qm 13 2,qo 14 (.call .pure (.c (.fn 446 [] [])) [.t 7,.t 9,.t 10,.t 12,.t 13]),qm 6 14])
 .ret)) }
def A_slices_medianOrdered_int:AFun:={ res:=[.t 10],body:=(.seq (.reg false [qo 10 (.mv (.c (.i .i64 0)))])
 (.seq (.reg false [qm 12 0,qm 13 1,qm 14 2,qm 15 4,qo 16 (.call .pure (.c (.fn 450 [] [])) [.t 12,.t 13,.t 14,.t 15]),qm 11 16,qo 17 (.ext 0 (.t 11)),qo 18 (.ext 1 (.t 11)),qm 1 17,qm 2 18])
 (.seq (.reg false [qm 20 0,qm 21 2,qm 22 3,qm 23 4,qo 24 (.call .pure (.c (.fn 450 [] [])) [.t 20,.t 21,.t 22,.t 23]),qm 19 24,qo 25 (.ext 0 (.t 19)),qo 26 (.ext 1 (.t 19)),qm 2 25,qm 3 26])
 (.seq (.reg false [qm 28 0,qm 29 1,qm 30 2,qm 31 4,qo 32 (.call .pure (.c (.fn 450 [] [])) [.t 28,.t 29,.t 30,.t 31]),qm 27 32,qo 33 (.ext 0 (.t 27)),qo 34 (.ext 1 (.t 27)),qm 1 33,qm 2 34])
 (.seq (.reg false [qm 35 2,qm 10 35])
 .ret))))) }
def A_slices_order2Ordered_int:AFun:={ res:=[.t 8,.t 9],body:=(.seq (.reg false [qo 8 (.mv (.c (.i .i64 0))),qo 9 (.mv (.c (.i .i64 0)))])
 (.seq (.seq (.reg true [qm 10 0,qm 11 2,qo 12 (.ia 1 (.t 10) (.t 11)),qo 13 (.ld none (.t 12)),qm 14 0,qm 15 1,qo 16 (.ia 1 (.t 14) (.t 15)),qo 17 (.ld none (.t 16)),qo 18 (.call .pure (.c (.fn 359 [] [])) [.t 13,.t 17])])
 (.cond (.t 18) (.seq (.reg false [qm 19 3,qo 20 (.nilck (.t 19)),qo 21 (.ld none (.t 20)),qo 22 (.bin .add (.t 21) (.c (.i .i64 1))),qo 23 (.nilck (.t 19)),qn (.st 1 (.t 23) (.t 22))])
 (.seq (.reg false [qm 24 2,qm 25 1,qm 8 24,qm 9 25])
 .ret))
 .skip))
 (.seq (.reg false [qm 26 1,qm 27 2,qm 8 26,qm 9 27])
 .ret))) }
end Go.Ab
end
section
namespace Go.Ab
def A_sound_Check:AFun:={ res:=[.t 2],body:=(.seq (.reg false [qo 1 (.box (.t 0)),qo 2 (.mv (.c (.i .i64 0)))])
 (.seq (.seq (.reg false [qo 9 (.fa 0 (.t 1)),qo 10 (.ld none (.t 9)),qo 11 (.bin .lss (.t 10) (.c (.i .i64 1))),qm 12 11,qg 13 (.fa 0 (.t 1)) 12 false,qg 14 (.ld none (.t 13)) 12 false,qg 15 (.bin .gtr (.t 14) (.c (.i .i64 4))) 12 false,qo 16 (.pick (.t 12) (.c (.b true)) (.t 15)),qm 17 16,qg 18 (.fa 1 (.t 1)) 17 false,qg 19 (.ld none (.t 18)) 17 false,qg 20 (.len (.t 19)) 17 false,qg 21 (.bin .eql (.t 20) (.c (.i .i64 0))) 17 false,qo 22 (.pick (.t 17) (.c (.b true)) (.t 21))])
 (.cond (.t 22) (.seq (.reg false [qo 2 (.mv (.c (.i .i64 3)))])
 .ret)
 .skip))
 (.seq (.reg false [qo 23 (.fa 1 (.t 1)),qo 24 (.ld none (.t 23)),qo 25 (.len (.t 24)),qo 26 (.bin .gtr (.t 25) (.c (.i .i64 4))),qm 3 26])
 (.seq (.reg false [qo 27 (.fa 0 (.t 1)),qo 28 (.ld none (.t 27)),qm 4 28])
 (.seq (.seq (.reg false [qo 29 (.fa 1 (.t 1)),qo 30 (.ld none (.t 29)),qo 31 (.len (.t 30)),qo 32 (.mv (.c (.i .i64 0)))])
 (.blk 0 (.loop (.seq (.reg false [qo 33 (.bin .lss (.t 32) (.t 31))])
 (.seq (.cond (.t 33) .skip
 (.ext 0))
 (.seq (.blk 1 (.seq (.reg false [qo 34 (.ia 1 (.t 30) (.t 32)),qo 35 (.ld none (.t 34)),qm 6 35])
 (.seq (.seq (.reg false [qm 36 6,qo 37 (.len (.t 36)),qo 38 (.mv (.c (.i .i64 0)))])
 (.blk 2 (.loop (.seq (.reg false [qo 39 (.bin .lss (.t 38) (.t 37))])
 (.seq (.cond (.t 39) .skip
 (.ext 2))
 (.seq (.blk 3 (.seq (.reg false [qm 40 38,qo 41 (.ia 7 (.t 36) (.t 38)),qo 42 (.ld (some 7) (.t 41)),qo 8 (.new (List.replicate 5 (.i .i64 0) ++ [.sl [] 0 .rig,.i .i64 0])),qm 7 40,qn (.st 7 (.t 8) (.t 42))])
 (.seq (.reg false [qo 43 (.ld (some 7) (.t 8)),qo 44 (.fa 0 (.t 1)),qo 45 (.ld none (.t 44)),qm 46 6,qo 47 (.len (.t 46)),qo 48 (.bin .sub (.t 47) (.c (.i .i64 1))),qm 49 7,qo 50 (.bin .sub (.t 48) (.t 49)),qo 51 (.call .pure (.c (.fn 282 [] [])) [.t 43,.t 45,.t 50]),qo 52 (.un .not (.t 51))])
 (.cond (.t 52) (.seq (.reg false [qo 2 (.mv (.c (.i .i64 3)))])
 .ret)
 .skip))))
 (.reg false [qo 53 (.bin .add (.t 38) (.c (.i .i64 1))),qm 38 53])))))))
 (.seq (.reg false [qm 54 4,qm 55 6,qo 56 (.call .pure (.c (.fn 301 [] [])) [.t 55]),qo 57 (.bin .add (.t 54) (.t 56)),qm 4 57])
 (.reg false [qm 58 3,qm 59 58,qg 60 (.mv (.t 6)) 59 false,qg 61 (.len (.t 60)) 59 false,qg 62 (.bin .gtr (.t 61) (.c (.i .i64 12))) 59 false,qo 63 (.pick (.t 59) (.c (.b true)) (.t 62)),qm 64 63,qg 65 (.mv (.t 6)) 64 false,qg 66 (.call .pure (.c (.fn 302 [] [])) [.t 65]) 64 false,qg 67 (.bin .gtr (.t 66) (.c (.i .i64 64))) 64 false,qo 68 (.pick (.t 64) (.c (.b true)) (.t 67)),qm 3 68])))))
 (.reg false [qo 69 (.bin .add (.t 32) (.c (.i .i64 1))),qm 32 69])))))))
 (.seq (.seq (.reg false [qm 70 3,qm 71 70,qg 72 (.mv (.t 4)) 71 false,qg 73 (.bin .gtr (.t 72) (.c (.i .i64 40))) 71 false,qo 74 (.pick (.t 71) (.c (.b true)) (.t 73))])
 (.cond (.t 74) (.seq (.reg false [qo 2 (.mv (.c (.i .i64 4)))])
 .ret)
 .skip))
 (.seq (.reg false [qo 2 (.mv (.c (.i .i64 0)))])
 .ret))))))) }
def A_sound_Instr:AFun:={ res:=[.t 6],body:=(.seq (.reg false [qo 3 (.box (.t 0)),qo 6 (.mv (.c (.b false)))])
 (.seq (.reg false [qo 10 (.fa 0 (.t 3)),qo 11 (.ld none (.t 10)),qo 12 (.call .pure (.c (.fn 303 [] [])) [.t 11]),qo 7 (.new (List.replicate 4 (.i .i64 0))),qn (.st 4 (.t 7) (.t 12))])
 (.seq (.reg false [qo 13 (.mkfn 304 [] [.t 7]),qm 8 13])
 (.seq (.reg false [qo 14 (.ld (some 4) (.t 7)),qo 15 (.build (List.replicate 4 (.i .i64 0)) []),qo 16 (.eqa true [0,0,0,0] (.t 14) (.t 15)),qm 17 16,qg 18 (.fa 1 (.t 3)) 17 true,qg 19 (.ld none (.t 18)) 17 true,qg 20 (.fa 1 (.t 7)) 17 true,qg 21 (.ld none (.t 20)) 17 true,qg 22 (.call .pure (.c (.fn 305 [] [])) [.t 19,.t 21]) 17 true,qo 23 (.pick (.t 17) (.t 22) (.c (.b false))),qm 24 23,qg 25 (.fa 2 (.t 3)) 24 true,qg 26 (.ld none (.t 25)) 24 true,qg 27 (.fa 2 (.t 7)) 24 true,qg 28 (.ld none (.t 27)) 24 true,qg 29 (.call .pure (.c (.fn 305 [] [])) [.t 26,.t 28]) 24 true,qo 30 (.pick (.t 24) (.t 29) (.c (.b false))),qm 9 30])
 (.seq (.reg true [qm 31 9,qm 32 31,qg 33 (.mv (.t 8)) 32 true,qg 34 (.call .pure (.t 33) [.c (.i .i64 1)]) 32 true,qg 35 (.fa 3 (.t 3)) 32 true,qg 36 (.ld none (.t 35)) 32 true,qg 37 (.call .pure (.c (.fn 306 [] [])) [.t 34,.t 36,.c (.i .i64 7)]) 32 true,qo 38 (.pick (.t 32) (.t 37) (.c (.b false))),qm 39 38,qg 40 (.mv (.t 8)) 39 true,qg 41 (.call .pure (.t 40) [.c (.i .i64 2)]) 39 true,qg 42 (.fa 4 (.t 3)) 39 true,qg 43 (.ld none (.t 42)) 39 true,qg 44 (.mv (.t 1)) 39 true,qg 45 (.mx (.t 44) (.c (.i .i64 0))) 39 true,qg 46 (.bin .sub (.t 45) (.c (.i .i64 1))) 39 true,qg 47 (.call .pure (.c (.fn 306 [] [])) [.t 41,.t 43,.t 46]) 39 true,qo 48 (.pick (.t 39) (.t 47) (.c (.b false))),qm 49 48,qg 50 (.mv (.t 8)) 49 true,qg 51 (.call .pure (.t 50) [.c (.i .i64 8)]) 49 true,qg 52 (.fa 6 (.t 3)) 49 true,qg 53 (.ld none (.t 52)) 49 true,qg 54 (.mv (.t 2)) 49 true,qg 55 (.call .pure (.c (.fn 306 [] [])) [.t 51,.t 53,.t 54]) 49 true,qo 56 (.pick (.t 49) (.t 55) (.c (.b false))),qm 9 56])
 (.seq (.seq (.reg true [qo 57 (.fa 0 (.t 3)),qo 58 (.ld none (.t 57)),qo 59 (.bin .eql (.t 58) (.c (.i .i64 4))),qm 60 59,qg 61 (.fa 5 (.t 3)) 60 true,qg 62 (.ld none (.t 61)) 60 true,qg 63 (.len (.t 62)) 60 true,qg 64 (.bin .gtr (.t 63) (.c (.i .i64 7))) 60 true,qg 65 (.mv (.t 64)) 60 true,qg 66 (.fa 5 (.t 3)) 65 false,qg 67 (.ld none (.t 66)) 65 false,qg 68 (.call .pure (.c (.fn 307 [] [])) [.t 67]) 65 false,qg 69 (.fa 3 (.t 3)) 65 false,qg 70 (.ld none (.t 69)) 65 false,qg 71 (.call .pure (.c (.fn 369 [] [])) [.t 68,.t 70]) 65 false,qg 72 (.pick (.t 65) (.c (.b true)) (.t 71)) 60 true,qo 73 (.pick (.t 60) (.t 72) (.c (.b false)))])
 (.cond (.t 73) (.seq (.reg false [qo 6 (.mv (.c (.b false)))])
 .ret)
 .skip))
 (.seq (.reg false [qm 74 9,qm 75 74,qg 76 (.mv (.t 8)) 75 true,qg 77 (.call .pure (.t 76) [.c (.i .i64 4)]) 75 true,qg 78 (.mv (.t 77)) 75 true,qg 79 (.fa 5 (.t 3)) 78 true,qg 80 (.ld none (.t 79)) 78 true,qg 81 (.call .pure (.c (.fn 308 [] [])) [.t 80]) 78 true,qg 82 (.pick (.t 78) (.t 81) (.c (.b false))) 75 true,qg 83 (.mv (.t 82)) 75 true,qg 84 (.mv (.t 8)) 83 false,qg 85 (.call .pure (.t 84) [.c (.i .i64 4)]) 83 false,qg 86 (.un .not (.t 85)) 83 false,qg 87 (.mv (.t 86)) 83 false,qg 88 (.fa 5 (.t 3)) 87 true,qg 89 (.ld none (.t 88)) 87 true,qg 90 (.len (.t 89)) 87 true,qg 91 (.bin .eql (.t 90) (.c (.i .i64 0))) 87 true,qg 92 (.pick (.t 87) (.t 91) (.c (.b false))) 83 false,qg 93 (.pick (.t 83) (.c (.b true)) (.t 92)) 75 true,qo 94 (.pick (.t 75) (.t 93) (.c (.b false))),qm 6 94])
 .ret))))))) }
def A_sound_Events:AFun:={ res:=[.t 2],body:=(.seq (.reg false [qo 2 (.mv (.c (.i .i64 0)))])
 (.seq (.reg false [qo 3 (.mv (.c (.i .i64 0)))])
 (.seq (.seq (.reg false [qm 6 0,qo 7 (.len (.t 6)),qo 8 (.mv (.c (.i .i64 0)))])
 (.blk 0 (.loop (.seq (.reg false [qo 9 (.bin .lss (.t 8) (.t 7))])
 (.seq (.cond (.t 9) .skip
 (.ext 0))
 (.seq (.blk 1 (.seq (.reg false [qo 10 (.ia 7 (.t 6) (.t 8)),qo 11 (.ld (some 7) (.t 10)),qo 5 (.new (List.replicate 5 (.i .i64 0) ++ [.sl [] 0 .rig,.i .i64 0])),qn (.st 7 (.t 5) (.t 11))])
 (.reg false [qm 12 3,qo 13 (.fa 0 (.t 5)),qo 14 (.ld none (.t 13)),qo 15 (.call .pure (.c (.fn 303 [] [])) [.t 14]),qo 16 (.fld 3 none (.t 15)),qo 17 (.bin .add (.t 12) (.t 16)),qm 3 17])))
 (.reg false [qo 18 (.bin .add (.t 8) (.c (.i .i64 1))),qm 8 18])))))))
 (.seq (.reg false [qm 19 3,qm 2 19])
 .ret)))) }
def A_sound_Paths:AFun:={ res:=[.t 2],body:=(.seq (.reg false [qo 2 (.mv (.c (.i .i64 0)))])
 (.seq (.reg false [qo 3 (.mv (.c (.i .i64 1)))])
 (.seq (.seq (.reg false [qm 6 0,qo 7 (.len (.t 6)),qo 8 (.mv (.c (.i .i64 0)))])
 (.blk 0 (.loop (.seq (.reg false [qo 9 (.bin .lss (.t 8) (.t 7))])
 (.seq (.cond (.t 9) .skip
 (.ext 0))
 (.seq (.blk 1 (.seq (.reg false [qo 10 (.ia 7 (.t 6) (.t 8)),qo 11 (.ld (some 7) (.t 10)),qo 5 (.new (List.replicate 5 (.i .i64 0) ++ [.sl [] 0 .rig,.i .i64 0])),qn (.st 7 (.t 5) (.t 11))])
 (.seq (.reg false [qo 12 (.fa 0 (.t 5)),qo 13 (.ld none (.t 12)),qo 14 (.bin .eql (.t 13) (.c (.i .i64 6)))])
 (.cond (.t 14) (.reg false [qm 15 3,qo 16 (.bin .mul (.c (.i .i64 2)) (.t 15)),qo 17 (.mn (.t 16) (.c (.i .i64 1000000))),qm 3 17])
 .skip))))
 (.reg false [qo 18 (.bin .add (.t 8) (.c (.i .i64 1))),qm 8 18])))))))
 (.seq (.reg false [qm 19 3,qm 2 19])
 .ret)))) }
def A_sound_of:AFun:={ res:=[.cell 2 (some 4)],body:=(.seq (.reg false [qo 2 (.new (List.replicate 4 (.i .i64 0)))])
 (.seq (.reg false [qo 4 (.call .pure (.c (.fn 330 [] [])) []),qm 3 4])
 (.seq (.seq (.reg false [qm 5 0,qo 6 (.bin .lss (.t 5) (.c (.i .i64 0))),qm 7 6,qg 8 (.mv (.t 0)) 7 false,qg 9 (.mv (.t 3)) 7 false,qg 10 (.len (.t 9)) 7 false,qg 11 (.bin .geq (.t 8) (.t 10)) 7 false,qo 12 (.pick (.t 7) (.c (.b true)) (.t 11))])
 (.cond (.t 12) (.seq (.reg false [qo 13 (.build (List.replicate 4 (.i .i64 0)) []),qn (.st 4 (.t 2) (.t 13))])
 .ret)
 .skip))
 (.seq (.reg false [qm 14 3,qm 15 0,qo 16 (.ia 4 (.t 14) (.t 15)),qo 17 (.ld (some 4) (.t 16)),qn (.st 4 (.t 2) (.t 17))])
 .ret)))) }
def A_sound_Instr_1:AFun:={ res:=[.t 3],body:=(.seq (.reg false [qo 3 (.mv (.c (.b false)))])
 (.seq (.reg false [qo 4 (.fa 0 (.t 1)),qo 5 (.ld none (.t 4)),qm 6 0,qo 7 (.bin .and (.t 5) (.t 6)),qo 8 (.bin .neq (.t 7) (.c (.i .i64 0))),qm 3 8])
 .ret)) }
def A_sound_mode:AFun:={ res:=[.t 4],body:=(.seq (.reg false [qo 4 (.mv (.c (.b false)))])
 (.seq (.reg false [qm 5 0,qo 6 (.bin .geq (.t 5) (.c (.i .i64 0))),qm 7 6,qg 8 (.mv (.t 0)) 7 true,qg 9 (.bin .leq (.t 8) (.c (.i .i64 4))) 7 true,qo 10 (.pick (.t 7) (.t 9) (.c (.b false))),qm 11 10,qg 12 (.mv (.t 1)) 11 true,qg 13 (.mv (.t 0)) 11 true,qg 14 (.bin .shr (.t 12) (.t 13)) 11 true,qg 15 (.bin .and (.t 14) (.c (.i .i64 1))) 11 true,qg 16 (.bin .eql (.t 15) (.c (.i .i64 1))) 11 true,qo 17 (.pick (.t 11) (.t 16) (.c (.b false))),qm 4 17])
 .ret)) }
def A_sound_part:AFun:={ res:=[.t 6],body:=(.seq (.reg false [qo 6 (.mv (.c (.b false)))])
 (.seq (.seq (.reg false [qm 7 0,qo 8 (.un .not (.t 7))])
 (.cond (.t 8) (.reg false [qo 2 (.mv (.c (.i .i64 0)))])
 .skip))
 (.seq (.reg false [qm 9 1,qo 10 (.bin .geq (.t 9) (.c (.i .i64 0))),qm 11 10,qg 12 (.mv (.t 1)) 11 true,qg 13 (.mv (.t 2)) 11 true,qg 14 (.bin .leq (.t 12) (.t 13)) 11 true,qo 15 (.pick (.t 11) (.t 14) (.c (.b false))),qm 6 15])
 .ret))) }
def A_sound_kinds:AFun:={ res:=[.t 0],body:=(.seq (.reg false [qo 0 (.mv (.c (.sl [] 0 .rig)))])
 (.seq (.reg false [qo 1 (.build (List.replicate 4 (.i .i64 0)) []),qo 2 (.build (List.replicate 4 (.i .i64 0)) [(0,1,.c (.i .i64 3)),(1,1,.c (.i .i64 3)),(2,1,.c (.i .i64 1)),(3,1,.c (.i .i64 1))]),qo 3 (.build (List.replicate 4 (.i .i64 0)) [(0,1,.c (.i .i64 6)),(1,1,.c (.i .i64 5)),(2,1,.c (.i .i64 1)),(3,1,.c (.i .i64 1))]),qo 4 (.build (List.replicate 4 (.i .i64 0)) [(0,1,.c (.i .i64 0)),(1,1,.c (.i .i64 30)),(2,1,.c (.i .i64 1)),(3,1,.c (.i .i64 1))]),qo 5 (.build (List.replicate 4 (.i .i64 0)) [(0,1,.c (.i .i64 7)),(1,1,.c (.i .i64 3)),(2,1,.c (.i .i64 5)),(3,1,.c (.i .i64 2))]),qo 6 (.build (List.replicate 4 (.i .i64 0)) [(0,1,.c (.i .i64 5)),(1,1,.c (.i .i64 1)),(2,1,.c (.i .i64 1)),(3,1,.c (.i .i64 0))]),qo 7 (.build (List.replicate 4 (.i .i64 0)) [(0,1,.c (.i .i64 12)),(1,1,.c (.i .i64 1)),(2,1,.c (.i .i64 1)),(3,1,.c (.i .i64 0))]),qo 8 (.bsl true 7 (List.replicate 28 (.i .i64 0)) [(0,4,.t 1),(4,4,.t 2),(8,4,.t 3),(12,4,.t 4),(16,4,.t 5),(20,4,.t 6),(24,4,.t 7)]),qm 0 8])
 .ret)) }
end Go.Ab
end
