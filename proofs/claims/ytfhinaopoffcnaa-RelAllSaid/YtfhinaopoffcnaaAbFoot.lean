/- What an operation looks at, and what it turns: two that do not meet change places. -/
import Derived.Test.YtfhinaopoffcnaaAbRun
set_option linter.unusedVariables false
set_option linter.unusedSimpArgs false
namespace Go.Ab

def Opd.names : Opd → List Nat
  | .t n => [n]
  | .c _ => []
def onames : Option Opd → List Nat
  | some x => x.names
  | none => []
def pnames (ps : List (Nat × Nat × Opd)) : List Nat := ps.flatMap fun p => p.2.2.names
def AOp.names : AOp → List Nat
  | .mv x | .box x | .boxI x | .ld _ x | .nilck x | .un _ x | .conv _ x | .fa _ x | .fld _ _ x | .ext _ x | .len x | .slen x => x.names
  | .pick x y z | .mput x y z => x.names ++ y.names ++ z.names
  | .new _ | .mkmap => []
  | .build _ ps | .bsl _ _ _ ps => pnames ps
  | .st _ x y | .stL _ x y | .bin _ x y | .eqb _ x y | .eqn _ x y | .eqa _ _ x y | .mget x y | .mksl _ _ _ x y | .ia _ x y | .iaa _ _ x y | .idx _ _ _ x y | .sidx x y | .mx x y | .mn x y | .app _ _ x y => x.names ++ y.names
  | .mkfn _ a b => a.flatMap (·.names) ++ b.flatMap (·.names)
  | .slice _ x l h m => x.names ++ onames l ++ onames h ++ onames m
  | .sslice x l h => x.names ++ onames l ++ onames h
  | .call _ f as => f.names ++ as.flatMap (·.names)

theorem ev_congr {e e' : Env} {x : Opd} (h : ∀ t ∈ x.names, e' t = e t) : x.ev e' = x.ev e := by
  cases x with
  | t n => exact h n (by simp [Opd.names])
  | c v => rfl
theorem evo_congr {e e' : Env} {x : Option Opd} (h : ∀ t ∈ onames x, e' t = e t) : evo e' x = evo e x := by
  cases x with
  | none => rfl
  | some x => exact congrArg some (ev_congr h)
theorem evl_congr {e e' : Env} : ∀ {xs : List Opd}, (∀ t ∈ xs.flatMap (·.names), e' t = e t) → xs.map (·.ev e') = xs.map (·.ev e)
  | [], _ => rfl
  | x :: xs, h => by
    rw [List.map_cons, List.map_cons, ev_congr (fun t ht => h t (by simp [ht])), evl_congr (xs := xs) (fun t ht => h t (by rw [List.flatMap_cons]; exact List.mem_append_right _ ht))]
theorem fill_congr {e e' : Env} : ∀ {ps : List (Nat × Nat × Opd)} {cs : List AV}, (∀ t ∈ pnames ps, e' t = e t) → fill e' cs ps = fill e cs ps
  | [], _, _ => rfl
  | (off, n, x) :: ps, cs, h => by
    have hx : x.ev e' = x.ev e := ev_congr (fun t ht => h t (by simp [pnames, ht]))
    simp only [fill, hx]
    split
    · exact fill_congr (ps := ps) (fun t ht => h t (by
        unfold pnames at ht ⊢
        rw [List.flatMap_cons]
        exact List.mem_append_right _ ht))
    · rfl
theorem opE_congr {call : CS} {al : Nat → Bool} {lo id : Nat} {op : AOp} {e e' : Env} (h : ∀ t ∈ op.names, e' t = e t) (g : G) : opE call al lo id op e' g = opE call al lo id op e g := by
  have l1 : ∀ {x : Opd} {ns : List Nat}, (∀ t ∈ x.names ++ ns, e' t = e t) → x.ev e' = x.ev e := fun h => ev_congr fun t ht => h t (List.mem_append_left _ ht)
  cases op <;> simp only [AOp.names] at h <;> simp only [opE]
  case mv => rw [ev_congr h]
  case pick => rw [ev_congr fun t ht => h t (by simp [ht]), ev_congr fun t ht => h t (by simp [ht]), ev_congr fun t ht => h t (by simp [ht])]
  case box => rw [ev_congr h]
  case boxI => rw [ev_congr h]
  case build => rw [fill_congr h]
  case bsl => rw [fill_congr h]
  case ld => rw [ev_congr h]
  case st => rw [ev_congr fun t ht => h t (by simp [ht]), ev_congr fun t ht => h t (by simp [ht])]
  case stL => rw [ev_congr fun t ht => h t (by simp [ht]), ev_congr fun t ht => h t (by simp [ht])]
  case nilck => rw [ev_congr h]
  case bin => rw [ev_congr fun t ht => h t (by simp [ht]), ev_congr fun t ht => h t (by simp [ht])]
  case eqb => rw [ev_congr fun t ht => h t (by simp [ht]), ev_congr fun t ht => h t (by simp [ht])]
  case eqn => rw [ev_congr fun t ht => h t (by simp [ht]), ev_congr fun t ht => h t (by simp [ht])]
  case eqa => rw [ev_congr fun t ht => h t (by simp [ht]), ev_congr fun t ht => h t (by simp [ht])]
  case un => rw [ev_congr h]
  case conv => rw [ev_congr h]
  case mkfn => rw [evl_congr fun t ht => h t (List.mem_append_left _ ht), evl_congr fun t ht => h t (List.mem_append_right _ ht)]
  case mput => rw [ev_congr fun t ht => h t (by simp [ht]), ev_congr fun t ht => h t (by simp [ht]), ev_congr fun t ht => h t (by simp [ht])]
  case mget => rw [ev_congr fun t ht => h t (by simp [ht]), ev_congr fun t ht => h t (by simp [ht])]
  case mksl => rw [ev_congr fun t ht => h t (by simp [ht]), ev_congr fun t ht => h t (by simp [ht])]
  case slice => rw [ev_congr fun t ht => h t (by simp [ht]), evo_congr fun t ht => h t (by simp [ht]), evo_congr fun t ht => h t (by simp [ht]), evo_congr fun t ht => h t (by simp [ht])]
  case sslice => rw [ev_congr fun t ht => h t (by simp [ht]), evo_congr fun t ht => h t (by simp [ht]), evo_congr fun t ht => h t (by simp [ht])]
  case fa => rw [ev_congr h]
  case fld => rw [ev_congr h]
  case ia => rw [ev_congr fun t ht => h t (by simp [ht]), ev_congr fun t ht => h t (by simp [ht])]
  case iaa => rw [ev_congr fun t ht => h t (by simp [ht]), ev_congr fun t ht => h t (by simp [ht])]
  case idx => rw [ev_congr fun t ht => h t (by simp [ht]), ev_congr fun t ht => h t (by simp [ht])]
  case sidx => rw [ev_congr fun t ht => h t (by simp [ht]), ev_congr fun t ht => h t (by simp [ht])]
  case ext => rw [ev_congr h]
  case len => rw [ev_congr h]
  case slen => rw [ev_congr h]
  case mx => rw [ev_congr fun t ht => h t (by simp [ht]), ev_congr fun t ht => h t (by simp [ht])]
  case mn => rw [ev_congr fun t ht => h t (by simp [ht]), ev_congr fun t ht => h t (by simp [ht])]
  case app => rw [ev_congr fun t ht => h t (by simp [ht]), ev_congr fun t ht => h t (by simp [ht])]
  case call => rw [l1 h, evl_congr fun t ht => h t (List.mem_append_right _ ht)]

/-! ### classes -/
inductive Cls where
  | p | r | a | t | s | x
  deriving DecidableEq
def cls : AOp → Cls
  | .ld _ _ | .mget _ _ | .call .pure _ _ => .r
  | .new _ | .box _ | .bsl false _ _ _ | .mkmap | .mksl _ _ _ _ _ | .call .thaw _ _ => .a
  | .app _ _ _ _ => .t
  | .stL _ _ _ => .s
  | .st _ _ _ | .mput _ _ _ | .call .raw _ _ | .call .lock _ _ => .x
  | _ => .p
/-- Cells, or a map. -/
def CM : Option Blk → Prop
  | some (.cells _ _) | some (.map _) => True
  | _ => False
def isT : Option Blk → Prop
  | some (.tok true) => True
  | _ => False
/-- What is looked at, by class. -/
def Rd (c : Cls) (al : Nat → Bool) (lo : Nat) (g : G) (i : Nat) : Prop := match c with
  | .p => False
  | .r | .a => al i = true ∧ CM (g.hp i)
  | .t => al i = true ∧ (CM (g.hp i) ∨ isT (g.hp i))
  | .s => lo ≤ i ∧ al i = true ∧ CM (g.hp i)
  | .x => True
def Wr (c : Cls) (al : Nat → Bool) (lo id : Nat) (g : G) (i : Nat) : Prop := match c with
  | .p | .r => False
  | .a => i = id
  | .t => i = id ∨ (al i = true ∧ isT (g.hp i))
  | .s => lo ≤ i ∧ al i = true ∧ CM (g.hp i)
  | .x => True

open Classical in
structure Foot (call : CS) (al : Nat → Bool) (lo id : Nat) (op : AOp) (e : Env) (g : G) (v : AV) (g1 : G) : Prop where
  nx : g1.nx = g.nx
  kind : ∀ i, i ≠ id → CM (g1.hp i) → CM (g.hp i)
  foot : ∃ W : Nat → Prop, (∀ i, W i → Wr (cls op) al lo id g i) ∧ (∀ i, ¬ W i → g1.hp i = g.hp i) ∧
    ∀ g' : G, (∀ i, Rd (cls op) al lo g i → g'.hp i = g.hp i) → opE call al lo id op e g' = some (v, ⟨fun i => if W i then g1.hp i else g'.hp i, g'.nx⟩)

theorem foot_none {call : CS} {al : Nat → Bool} {lo id : Nat} {op : AOp} {e : Env} {g : G} {v : AV} (h : ∀ g' : G, (∀ i, Rd (cls op) al lo g i → g'.hp i = g.hp i) → opE call al lo id op e g' = some (v, g')) : Foot call al lo id op e g v g :=
  ⟨rfl, fun _ _ h => h, fun _ => False, fun _ h => h.elim, fun _ _ => rfl, fun g' hg' => by
    rw [h g' hg']
    congr 2
    simp⟩
theorem foot_new {call : CS} {al : Nat → Bool} {lo id : Nat} {op : AOp} {e : Env} {g : G} {v : AV} {b : Blk} (hw : Wr (cls op) al lo id g id) (h : ∀ g' : G, (∀ i, Rd (cls op) al lo g i → g'.hp i = g.hp i) → opE call al lo id op e g' = some (v, ⟨upd g'.hp id (some b), g'.nx⟩)) : Foot call al lo id op e g v ⟨upd g.hp id (some b), g.nx⟩ :=
  ⟨rfl, fun i hi h => by
    have h : CM (upd g.hp id (some b) i) := h
    rwa [upd, if_neg hi] at h, fun i => i = id, fun i hi => by subst hi; exact hw, fun i hi => by show upd _ _ _ _ = _; rw [upd, if_neg hi], fun g' hg' => by
    rw [h g' hg']
    congr 3
    funext i
    by_cases hi : i = id
    · subst hi; simp [upd]
    · simp [upd, hi]⟩

mutual
theorem frz_agree {hp hp' : Nat → Option Blk} (h : ∀ i, CM (hp i) → hp' i = hp i) : ∀ (k : Nat) {x y : AV}, frz hp k x = some y → frz hp' k x = some y ∧ vis hp' k x = vis hp k x
  | 0, _, _, hf => by simp [frz] at hf
  | k + 1, x, y, hf => by
    cases x with
    | agg cs =>
      simp only [frz] at hf
      cases hc : frzL hp k cs with
      | none => rw [hc] at hf; cases hf
      | some ds => rw [hc] at hf; obtain ⟨h1, h2⟩ := frzL_agree h k hc; exact ⟨by simp only [frz, h1]; exact hf, by simp only [vis, h2]⟩
    | tup cs =>
      simp only [frz] at hf
      cases hc : frzL hp k cs with
      | none => rw [hc] at hf; cases hf
      | some ds => rw [hc] at hf; obtain ⟨h1, h2⟩ := frzL_agree h k hc; exact ⟨by simp only [frz, h1]; exact hf, by simp only [vis, h2]⟩
    | fn f as bs =>
      simp only [frz] at hf
      cases hc : frzL hp k as with
      | none => rw [hc] at hf; cases hf
      | some ds =>
        cases hd : frzL hp k bs with
        | none => rw [hc, hd] at hf; cases hf
        | some es =>
          rw [hc, hd] at hf
          obtain ⟨h1, h2⟩ := frzL_agree h k hc
          obtain ⟨h3, h4⟩ := frzL_agree h k hd
          exact ⟨by simp only [frz, h1, h3]; exact hf, by simp only [vis, h2, h4]⟩
    | ifc t v =>
      simp only [frz] at hf
      cases hc : frz hp k v with
      | none => rw [hc] at hf; cases hf
      | some ds => rw [hc] at hf; obtain ⟨h1, h2⟩ := frz_agree h k hc; exact ⟨by simp only [frz, h1]; exact hf, by simp only [vis, h2]⟩
    | mp id off =>
      simp only [frz] at hf
      split at hf
      · rename_i cs ro hb
        have hb' : hp' id = some (.cells cs ro) := by rw [h id (by rw [hb]; trivial), hb]
        cases hc : frzL hp k (cs.drop off) with
        | none => rw [hc] at hf; cases hf
        | some ds =>
          rw [hc] at hf
          obtain ⟨h1, h2⟩ := frzL_agree h k hc
          exact ⟨by simp only [frz, hb', h1]; exact hf, by simp only [vis, hb', hb, h2]⟩
      · cases hf
    | ms id off n =>
      simp only [frz] at hf
      split at hf
      · rename_i cs ro hb
        have hb' : hp' id = some (.cells cs ro) := by rw [h id (by rw [hb]; trivial), hb]
        cases hc : frzL hp k (cs.drop off) with
        | none => rw [hc] at hf; cases hf
        | some ds =>
          rw [hc] at hf
          obtain ⟨h1, h2⟩ := frzL_agree h k hc
          exact ⟨by simp only [frz, hb', h1]; exact hf, by simp only [vis, hb', hb, h2]⟩
      · cases hf
    | mm id => simp [frz] at hf
    | undef => exact ⟨by simpa only [frz] using hf, by simp only [vis]⟩
    | b x => exact ⟨by simpa only [frz] using hf, by simp only [vis]⟩
    | i k n => exact ⟨by simpa only [frz] using hf, by simp only [vis]⟩
    | s x => exact ⟨by simpa only [frz] using hf, by simp only [vis]⟩
    | nilp => exact ⟨by simpa only [frz] using hf, by simp only [vis]⟩
    | nilf => exact ⟨by simpa only [frz] using hf, by simp only [vis]⟩
    | nili => exact ⟨by simpa only [frz] using hf, by simp only [vis]⟩
    | sl cs n t => exact ⟨by simpa only [frz] using hf, by simp only [vis]⟩
    | ptr cs => exact ⟨by simpa only [frz] using hf, by simp only [vis]⟩
theorem frzL_agree {hp hp' : Nat → Option Blk} (h : ∀ i, CM (hp i) → hp' i = hp i) : ∀ (k : Nat) {cs ds : List AV}, frzL hp k cs = some ds → frzL hp' k cs = some ds ∧ cs.flatMap (vis hp' k) = cs.flatMap (vis hp k)
  | k, [], ds, hf => ⟨by simpa only [frzL] using hf, rfl⟩
  | k, x :: cs, ds, hf => by
    simp only [frzL] at hf
    split at hf
    · rename_i hx hs
      obtain ⟨h1, h2⟩ := frz_agree h k hx
      obtain ⟨h3, h4⟩ := frzL_agree h k hs
      refine ⟨by simp only [frzL, h1, h3]; exact hf, ?_⟩
      rw [List.flatMap_cons, List.flatMap_cons, h2, h4]
    · cases hf
end

theorem rd_agree {al : Nat → Bool} {g g' : G} (h : ∀ i, (al i = true ∧ CM (g.hp i)) → g'.hp i = g.hp i) : ∀ i, CM (rd g al i) → rd g' al i = rd g al i := by
  intro i hi
  unfold rd at hi ⊢
  split at hi
  · rename_i ha
    rw [if_pos ha, if_pos ha]
    exact h i ⟨ha, hi⟩
  · cases hi
theorem rd_cells {al : Nat → Bool} {g g' : G} (h : ∀ i, (al i = true ∧ CM (g.hp i)) → g'.hp i = g.hp i) {i : Nat} {b : Blk} (hb : rd g al i = some b) (hc : CM (some b)) : rd g' al i = some b := by
  rw [rd_agree h i (by rw [hb]; exact hc), hb]

theorem vMap_any {g g' : G} {o : Option AV} {v : AV} {g1 : G} (h : vMap g o = some (v, g1)) : g1 = g ∧ vMap g' o = some (v, g') := by
  cases o with
  | none => cases h
  | some x => cases h; exact ⟨rfl, rfl⟩
theorem vMapL_any {g g' : G} {f} {o : Option (List AV)} {v : AV} {g1 : G} (h : vMapL f g o = some (v, g1)) : g1 = g ∧ vMapL f g' o = some (v, g') := by
  cases o with
  | none => cases h
  | some x => cases h; exact ⟨rfl, rfl⟩


def Any (f : G → Option (AV × G)) : Prop := ∀ g v g1, f g = some (v, g1) → g1 = g ∧ ∀ g', f g' = some (v, g')
theorem any_pick (c a b : AV) : Any (vPick c a b) := by
  intro g v g1 h; cases c <;> simp only [vPick] at h <;> first | (cases h; done) | (cases h; exact ⟨rfl, fun _ => rfl⟩)
theorem any_map (o : Option AV) : Any fun g => vMap g o := by
  intro g v g1 h; cases o <;> simp only [vMap] at h <;> first | (cases h; done) | (cases h; exact ⟨rfl, fun _ => rfl⟩)
theorem any_mapL (f) (o : Option (List AV)) : Any fun g => vMapL f g o := by
  intro g v g1 h; cases o <;> simp only [vMapL] at h <;> first | (cases h; done) | (cases h; exact ⟨rfl, fun _ => rfl⟩)
theorem any_some (x : AV) : Any fun g => some (x, g) := by intro g v g1 h; cases h; exact ⟨rfl, fun _ => rfl⟩
theorem any_none : Any fun _ => none := by intro g v g1 h; cases h
theorem any_ite (c : Prop) [Decidable c] {f k : G → Option (AV × G)} (h1 : Any f) (h2 : Any k) : Any fun g => if c then f g else k g := by
  by_cases h : c
  · simpa only [if_pos h] using h1
  · simpa only [if_neg h] using h2
theorem any_boxI (x : AV) : Any (vBoxI x) := by unfold vBoxI; exact any_ite _ (any_mapL _ _) any_none
theorem any_bslI (id n : Nat) (o : Option (List AV)) : Any (vBsl id true n o) := by
  cases o with
  | none => exact any_none
  | some cs => exact any_mapL _ _
theorem any_nil (x : AV) : Any (vNil x) := by cases x <;> first | exact any_none | exact any_some _
theorem any_conv (k : IntKind) (x : AV) : Any (vConv k x) := by cases x <;> first | exact any_none | exact any_some _
theorem any_slice (esz : Nat) (x : AV) (l h m : Option AV) : Any (vSlice esz x l h m) := by
  cases x <;> first | exact any_none | skip
  rename_i cs n t
  show Any fun g => vSlice esz (.sl cs n t) l h m g
  simp only [vSlice]
  split <;> first | exact any_none | exact any_ite _ (any_some _) any_none
theorem any_sslice (x : AV) (l h : Option AV) : Any (vSslice x l h) := by
  cases x <;> first | exact any_none | skip
  rename_i s
  show Any fun g => vSslice (.s s) l h g
  simp only [vSslice]
  split <;> first | exact any_none | exact any_ite _ (any_some _) any_none
theorem any_fa (off : Nat) (x : AV) : Any (vFa off x) := by cases x <;> first | exact any_none | exact any_some _ | exact any_ite _ (any_some _) any_none
theorem any_fld (off : Nat) (agg) (x : AV) : Any (vFld off agg x) := by cases x <;> first | exact any_none | exact any_map _
theorem any_ia (esz : Nat) (x i : AV) : Any (vIa esz x i) := by
  cases x <;> cases i <;> first | exact any_none | exact any_ite _ (any_some _) any_none
theorem any_iaa (len esz : Nat) (x i : AV) : Any (vIaa len esz x i) := by
  cases x <;> cases i <;> first | exact any_none | exact any_ite _ (any_some _) any_none
theorem any_idx (len esz : Nat) (agg) (x i : AV) : Any (vIdx len esz agg x i) := by
  cases x <;> cases i <;> first | exact any_none | exact any_ite _ (any_map _) any_none
theorem any_sidx (x i : AV) : Any (vSidx x i) := by
  cases x <;> cases i <;> first | exact any_none | skip
  rename_i s k z
  show Any fun g => vSidx (.s s) (.i k z) g
  simp only [vSidx]
  split <;> first | exact any_none | exact any_some _
theorem any_ext (i : Nat) (x : AV) : Any (vExt i x) := by cases x <;> first | exact any_none | exact any_map _
theorem any_len (x : AV) : Any (vLen x) := by cases x <;> first | exact any_none | exact any_some _
theorem any_slen (x : AV) : Any (vSlen x) := by cases x <;> first | exact any_none | exact any_some _
theorem any_mx (x y : AV) : Any (vMx x y) := by cases x <;> cases y <;> first | exact any_none | exact any_some _
theorem any_mn (x y : AV) : Any (vMn x y) := by cases x <;> cases y <;> first | exact any_none | exact any_some _

section
variable {call : CS} {al : Nat → Bool} {lo id : Nat} {e : Env} {g : G} {v : AV} {g1 : G}

/-- What looks at no block at all. -/
theorem any_p {op : AOp} (hc : cls op = .p) : Any (opE call al lo id op e) := by
  cases op
  case mv => exact any_some _
  case pick => exact any_pick _ _ _
  case boxI => exact any_boxI _
  case build => exact any_mapL _ _
  case bsl imm n z ps =>
    cases imm with
    | false => cases hc
    | true => exact any_bslI _ _ _
  case nilck => exact any_nil _
  case bin => exact any_map _
  case eqb => exact any_map _
  case eqn => exact any_map _
  case eqa => exact any_map _
  case un => exact any_map _
  case conv => exact any_conv _ _
  case mkfn => exact any_some _
  case slice => exact any_slice _ _ _ _ _
  case sslice => exact any_sslice _ _ _
  case fa => exact any_fa _ _
  case fld => exact any_fld _ _ _
  case ia => exact any_ia _ _ _
  case iaa => exact any_iaa _ _ _ _
  case idx => exact any_idx _ _ _ _ _
  case sidx => exact any_sidx _ _
  case ext => exact any_ext _ _
  case len => exact any_len _
  case slen => exact any_slen _
  case mx => exact any_mx _ _
  case mn => exact any_mn _ _
  case call m f as => cases m <;> cases hc
  all_goals cases hc
theorem foot_p {op : AOp} (hc : cls op = .p) (h : opE call al lo id op e g = some (v, g1)) : Foot call al lo id op e g v g1 := by
  obtain ⟨rfl, hk⟩ := any_p hc g v g1 h
  exact foot_none fun g' _ => hk g'

/-- What looks at blocks, and turns none. -/
theorem foot_r {op : AOp} (hc : cls op = .r) (h : opE call al lo id op e g = some (v, g1)) : Foot call al lo id op e g v g1 := by
  have key : g1 = g ∧ ∀ g' : G, (∀ i, Rd (cls op) al lo g i → g'.hp i = g.hp i) → opE call al lo id op e g' = some (v, g') := by
    rw [hc]
    cases op
    case ld agg x =>
      simp only [opE] at h ⊢
      unfold vLd at h ⊢
      split at h
      · rename_i cs hx
        obtain ⟨rfl, hk⟩ := any_map _ _ _ _ h
        exact ⟨rfl, fun g' _ => hk g'⟩
      · rename_i b off hx
        split at h
        · rename_i cs ro hb
          obtain ⟨rfl, hk⟩ := any_map _ _ _ _ h
          exact ⟨rfl, fun g' hg' => by simp only [rd_cells hg' hb trivial]; exact hk g'⟩
        · cases h
      · cases h
    case mget m k =>
      simp only [opE] at h ⊢
      unfold vMget at h ⊢
      split at h
      · rename_i b s hx hy
        split at h
        · rename_i es hb
          obtain ⟨rfl, hk⟩ := any_map _ _ _ _ h
          exact ⟨rfl, fun g' hg' => by simp only [rd_cells hg' hb trivial]; exact hk g'⟩
        · cases h
      · cases h
    case call m f as =>
      cases m with
      | pure =>
        simp only [opE] at h ⊢
        unfold vCall at h ⊢
        split at h
        · rename_i fid fst caps hx
          simp only at h
          split at h
          · cases h
          · rename_i bs hbs
            split at h
            · cases h
            · rename_i v' g' hcr
              split at h
              · cases h
              · rename_i v2 hfz
                split at h
                · rename_i hcond
                  cases h
                  refine ⟨rfl, fun g'' hg' => ?_⟩
                  obtain ⟨h1, h2⟩ := frzL_agree (rd_agree hg') depth hbs
                  simp only [h1, hcr, hfz, h2, hcond, if_true]
                · cases h
        · cases h
      | lock => cases hc
      | thaw => cases hc
      | raw => cases hc
    case bsl imm n z ps => cases imm <;> cases hc
    all_goals cases hc
  obtain ⟨rfl, hk⟩ := key
  exact foot_none hk

/-- What fills its own slot. -/
theorem foot_a {op : AOp} (hc : cls op = .a) (h : opE call al lo id op e g = some (v, g1)) : Foot call al lo id op e g v g1 := by
  have hw : Wr (cls op) al lo id g id := by rw [hc]; rfl
  cases op
  case new z =>
    simp only [opE] at h; cases h
    exact foot_new hw fun g' _ => rfl
  case box x =>
    simp only [opE] at h
    unfold vBox at h
    split at h
    · rename_i hh
      cases h
      exact foot_new hw fun g' _ => by simp only [opE, vBox]; rw [if_pos hh]
    · cases h
  case bsl imm n z ps =>
    cases imm with
    | true => cases hc
    | false =>
      simp only [opE] at h
      unfold vBsl at h
      split at h
      · cases h
      · rename_i cs hf
        simp only [Bool.false_eq_true, if_false] at h
        cases h
        exact foot_new hw fun g' _ => by simp only [opE, vBsl, hf, Bool.false_eq_true, if_false]
  case mkmap =>
    simp only [opE] at h; cases h
    exact foot_new hw fun g' _ => rfl
  case mksl z esz b l cp =>
    simp only [opE] at h
    unfold vMksl at h
    split at h
    · rename_i n m hx hy
      split at h
      · rename_i h1
        split at h
        · rename_i h2
          cases h
          exact foot_new hw fun g' _ => by simp only [opE, vMksl, hx, hy]; rw [if_pos h1, if_pos h2]
        · rename_i h2
          split at h
          · rename_i h3
            cases h
            exact foot_new hw fun g' _ => by simp only [opE, vMksl, hx, hy]; rw [if_pos h1, if_neg h2, if_pos h3]
          · cases h
      · cases h
    · cases h
  case call m f as =>
    cases m with
    | thaw =>
      simp only [opE] at h
      unfold vCall at h
      split at h
      · rename_i fid fst caps hx
        simp only at h
        split at h
        · cases h
        · rename_i bs hbs
          split at h
          · rename_i b g' hcr
            split at h
            · rename_i cs hb
              split at h
              · rename_i cs' hfz
                split at h
                · rename_i hcond
                  cases h
                  refine foot_new hw fun g'' hg' => ?_
                  rw [hc] at hg'
                  obtain ⟨h1, h2⟩ := frzL_agree (rd_agree hg') depth hbs
                  simp only [opE, vCall, hx, h1, hcr, hb, hfz, h2, hcond, if_true]
                · cases h
              · cases h
            · cases h
          · cases h
      · cases h
    | pure => cases hc
    | lock => cases hc
    | raw => cases hc
  all_goals cases hc

theorem vSrc_agree {esz : Nat} {y : AV} {g g' : G} {r : List AV × Nat} (h : ∀ i, (al i = true ∧ CM (g.hp i)) → g'.hp i = g.hp i) (hs : vSrc al esz y g = some r) : vSrc al esz y g' = some r := by
  unfold vSrc at hs ⊢
  cases y <;> simp only at hs ⊢ <;> first | exact hs | (cases hs; done) | skip
  split at hs
  · rename_i hb
    simp only [rd_cells h hb trivial]
    exact hs
  · cases hs
open Classical in
theorem foot_t {op : AOp} (hc : cls op = .t) (h : opE call al lo id op e g = some (v, g1)) : Foot call al lo id op e g v g1 := by
  cases op
  case app esz b x y =>
    simp only [opE] at h
    unfold vApp at h
    split at h
    · rename_i cs n tk hx
      split at h
      · cases h
      · rename_i ds m hsrc
        split at h
        · rename_i hcond
          have hsrc' : ∀ g' : G, (∀ i, Rd (cls (.app esz b x y)) al lo g i → g'.hp i = g.hp i) → vSrc al esz (y.ev e) g' = some (ds, m) := fun g' hg' => vSrc_agree (fun i hi => hg' i ⟨hi.1, .inl hi.2⟩) hsrc
          split at h
          · cases h
          · split at h
            · rename_i hm
              cases h
              exact foot_none fun g' hg' => by simp only [opE, vApp, hx, hsrc' g' hg', if_pos hcond, if_pos hm]
            · rename_i hm
              cases h
              exact foot_new (.inl rfl) fun g' hg' => by simp only [opE, vApp, hx, hsrc' g' hg', if_pos hcond, if_neg hm]
          · rename_i τ e'
            split at h
            · rename_i htk
              split at h
              · rename_i he'
                cases h
                have hal : al τ = true := by
                  unfold rd at htk; split at htk
                  · assumption
                  · cases htk
                have hhp := rd_g htk
                refine ⟨rfl, fun i hi h => ?_, fun i => i = id ∨ i = τ, fun i hi => ?_, fun i hi => ?_, fun g' hg' => ?_⟩
                · have h : CM (upd (upd g.hp τ (some (.tok false))) id (some (.tok true)) i) := h
                  rw [upd, if_neg hi] at h
                  by_cases h2 : i = τ
                  · subst h2; rw [upd, if_pos rfl] at h; exact h.elim
                  · rwa [upd, if_neg h2] at h
                · rcases hi with rfl | rfl
                  · exact .inl rfl
                  · exact .inr ⟨hal, by rw [hhp]; trivial⟩
                · show upd _ _ _ _ = _
                  rw [upd, if_neg (fun h => hi (.inl h)), upd, if_neg (fun h => hi (.inr h))]
                · have hrd : rd g' al τ = some (.tok true) := by
                    unfold rd; rw [if_pos hal, hg' τ ⟨hal, .inr (by rw [hhp]; trivial)⟩, hhp]
                  simp only [opE, vApp, hx, hsrc' g' hg', if_pos hcond, hrd, if_pos he']
                  congr 3
                  funext i
                  by_cases h1 : i = id
                  · subst h1; simp [upd]
                  · by_cases h2 : i = τ
                    · subst h2; simp [upd, h1]
                    · simp [upd, h1, h2]
              · cases h
            · cases h
        · cases h
    · cases h
  case bsl imm n z ps => cases imm <;> cases hc
  case call m f as => cases m <;> cases hc
  all_goals cases hc
open Classical in
theorem foot_s {op : AOp} (hc : cls op = .s) (h : opE call al lo id op e g = some (v, g1)) : Foot call al lo id op e g v g1 := by
  cases op
  case stL n x y =>
    simp only [opE] at h
    unfold vSt at h
    split at h
    · rename_i b off hx
      split at h
      · rename_i cs hb
        split at h
        · rename_i hcond
          cases h
          have hal : lo ≤ b ∧ al b = true := by
            unfold rd at hb; split at hb
            · rename_i hh; simpa using hh
            · cases hb
          have hhp := rd_g hb
          refine ⟨rfl, fun i hi h => ?_, fun i => i = b, fun i hi => ?_, fun i hi => ?_, fun g' hg' => ?_⟩
          · by_cases h2 : i = b
            · subst h2; rw [hhp]; trivial
            · have h : CM (upd g.hp b _ i) := h
              rwa [upd, if_neg h2] at h
          · subst hi; exact ⟨hal.1, hal.2, by rw [hhp]; trivial⟩
          · show upd _ _ _ _ = _
            rw [upd, if_neg hi]
          · have hrd : rd g' (fun i => decide (lo ≤ i) && al i) b = some (.cells cs false) := by
              unfold rd; rw [if_pos (by simp [hal.1, hal.2]), hg' b ⟨hal.1, hal.2, by rw [hhp]; trivial⟩, hhp]
            simp only [opE, vSt, hx, hrd, if_pos hcond]
            congr 3
            funext i
            by_cases h1 : i = b
            · subst h1; simp [upd]
            · simp [upd, h1]
        · cases h
      · cases h
    · cases h
  case bsl imm n z ps => cases imm <;> cases hc
  case call m f as => cases m <;> cases hc
  all_goals cases hc
theorem foot_all {op : AOp} (hc : cls op ≠ .x) (h : opE call al lo id op e g = some (v, g1)) : Foot call al lo id op e g v g1 := by
  cases hcl : cls op with
  | p => exact foot_p hcl h
  | r => exact foot_r hcl h
  | a => exact foot_a hcl h
  | t => exact foot_t hcl h
  | s => exact foot_s hcl h
  | x => exact absurd hcl hc
end
end Go.Ab
