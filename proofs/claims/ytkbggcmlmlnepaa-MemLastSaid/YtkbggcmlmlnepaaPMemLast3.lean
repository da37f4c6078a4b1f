/- What MemLast rests on, part 3: lemmas, no claim of its own. -/
import Derived.Test.YtkbggcmlmlnepaaPMemLast2
section
set_option linter.unusedVariables false
namespace Go.Ab
section
variable (F : Funs)
def W (c : ACode) (e : Env) (g : G) (Q : Out → Env → G → Prop) : Prop := ∃ o e' g', codeS F c e g = some (o, e', g') ∧ Q o e' g'
def WR (d : Bool) (b j : Nat) (ops : List AOper) (e : Env) (g : G) (K : Env → G → Prop) : Prop := ∃ e' g', regE (callS F) d b j ops e g = some (e', g') ∧ K e' g'
def thenQ (b : ACode) (Q : Out → Env → G → Prop) : Out → Env → G → Prop
  | .nrm, e, g => W F b e g Q
  | o, e, g => Q o e g
def selW (t f : ACode) (e : Env) (g : G) (Q : Out → Env → G → Prop) : AV → Prop
  | .b true => W F t e g Q
  | .b false => W F f e g Q
  | _ => False
def blkQ (id : Nat) (Q : Out → Env → G → Prop) : Out → Env → G → Prop
  | .ext n, e, g => if n = id then Q .nrm e g else Q (.ext n) e g
  | o, e, g => Q o e g
def nrmQ (Q : Out → Env → G → Prop) (e : Env) (g : G) : Prop := Q .nrm e g
def bindO (d : Bool) (b j : Nat) (dst : Option Nat) (os : List AOper) (e : Env) (K : Env → G → Prop) : Option (AV × G) → Prop
  | some (v, g) => WR F d b j os (put e dst v) g K
  | none => False
def selO (d : Bool) (b j : Nat) (dst : Option Nat) (os : List AOper) (e : Env) (op : AOp) (pre : List Nat) (g : G) (K : Env → G → Prop) (w : Bool) : Prop :=
  if w then bindO F d b (j + 1) dst os e K (opE (callS F) (allow d b pre) b (b + j) op e g) else WR F d b (j + 1) os (put e dst .undef) g K
end
section
variable {F : Funs}
theorem W_skip {e g Q} : W F .skip e g Q = Q .nrm e g := by
  unfold W; rw [codeS_skip]; apply propext
  exact ⟨fun ⟨o, e', g', h, q⟩ => by cases h; exact q, fun q => ⟨_, _, _, rfl, q⟩⟩
theorem W_ext {id e g Q} : W F (.ext id) e g Q = Q (.ext id) e g := by
  unfold W; rw [codeS_ext]; apply propext
  exact ⟨fun ⟨o, e', g', h, q⟩ => by cases h; exact q, fun q => ⟨_, _, _, rfl, q⟩⟩
theorem W_ret {e g Q} : W F .ret e g Q = Q .ret e g := by
  unfold W; rw [codeS_ret]; apply propext
  exact ⟨fun ⟨o, e', g', h, q⟩ => by cases h; exact q, fun q => ⟨_, _, _, rfl, q⟩⟩
theorem W_seq {a b e g Q} : W F (.seq a b) e g Q = W F a e g (thenQ F b Q) := by
  unfold W; rw [cS_seq]; apply propext
  constructor
  · intro ⟨o, e', g', h, q⟩
    cases hc : codeS F a e g with
    | none => rw [hc] at h; cases h
    | some r =>
      obtain ⟨o1, e1, g1⟩ := r
      rw [hc] at h
      refine ⟨o1, e1, g1, rfl, ?_⟩
      cases o1 with
      | nrm => exact ⟨o, e', g', h, q⟩
      | ext n => cases h; exact q
      | ret => cases h; exact q
  · intro ⟨o, e', g', h, q⟩
    rw [h]
    cases o with
    | nrm => exact q
    | ext n => exact ⟨_, _, _, rfl, q⟩
    | ret => exact ⟨_, _, _, rfl, q⟩
theorem thenQ_nrm {b Q e g} : thenQ F b Q .nrm e g = W F b e g Q := rfl
theorem thenQ_ext {b Q n e g} : thenQ F b Q (.ext n) e g = Q (.ext n) e g := rfl
theorem thenQ_ret {b Q e g} : thenQ F b Q .ret e g = Q .ret e g := rfl
theorem W_cond {c t f e g Q} : W F (.cond c t f) e g Q = selW F t f e g Q (c.ev e) := by
  unfold W; rw [cS_cond]; apply propext
  generalize c.ev e = v
  cases v <;> simp only [selS, selW] <;> try (constructor <;> (intro h; first | exact h.elim | (obtain ⟨_, _, _, h, _⟩ := h; cases h)))
  rename_i x
  cases x <;> simp [W]
theorem selW_true {t f e g Q} : selW F t f e g Q (.b true) = W F t e g Q := rfl
theorem selW_false {t f e g Q} : selW F t f e g Q (.b false) = W F f e g Q := rfl
theorem W_scp {c e g Q} : W F (.scp c) e g Q = W F c e g Q := by unfold W; rw [codeS_scp]
theorem W_lab {e g Q} : W F .lab e g Q = Q .nrm e g := by
  unfold W; rw [codeS_lab]; apply propext
  exact ⟨fun ⟨o, e', g', h, q⟩ => by cases h; exact q, fun q => ⟨_, _, _, rfl, q⟩⟩
theorem W_blk {id c e g Q} : W F (.blk id c) e g Q = W F c e g (blkQ id Q) := by
  unfold W; rw [cS_blk]; apply propext
  constructor
  · intro ⟨o, e', g', h, q⟩
    cases hc : codeS F c e g with
    | none => rw [hc] at h; cases h
    | some r =>
      obtain ⟨o1, e1, g1⟩ := r
      rw [hc] at h
      refine ⟨o1, e1, g1, rfl, ?_⟩
      cases o1 with
      | nrm => cases h; exact q
      | ext n =>
        cases h
        show if n = id then _ else _
        split
        · rename_i hn; rw [if_pos hn] at q; exact q
        · rename_i hn; rw [if_neg hn] at q; exact q
      | ret => cases h; exact q
  · intro ⟨o, e', g', h, q⟩
    rw [h]
    cases o with
    | nrm => exact ⟨_, _, _, rfl, q⟩
    | ext n =>
      refine ⟨_, _, _, rfl, ?_⟩
      have q : if n = id then Q .nrm e' g' else Q (.ext n) e' g' := q
      split
      · rename_i hn; rw [if_pos hn] at q; exact q
      · rename_i hn; rw [if_neg hn] at q; exact q
    | ret => exact ⟨_, _, _, rfl, q⟩
theorem blkQ_nrm {id Q e g} : blkQ id Q .nrm e g = Q .nrm e g := rfl
theorem blkQ_ret {id Q e g} : blkQ id Q .ret e g = Q .ret e g := rfl
theorem blkQ_same {id Q e g} : blkQ id Q (.ext id) e g = Q .nrm e g := if_pos rfl
theorem blkQ_ne {id n Q e g} (h : n ≠ id) : blkQ id Q (.ext n) e g = Q (.ext n) e g := if_neg h
theorem W_reg {d ops e g Q} : W F (.reg d ops) e g Q = WR F d g.nx 0 ops e ⟨g.hp, g.nx + ops.length⟩ (nrmQ Q) := by
  unfold W WR; rw [cS_reg]; apply propext
  constructor
  · intro ⟨o, e', g', h, q⟩
    cases hc : regE (callS F) d g.nx 0 ops e ⟨g.hp, g.nx + ops.length⟩ with
    | none => rw [hc] at h; cases h
    | some r =>
      rw [hc] at h
      cases h
      exact ⟨_, _, rfl, q⟩
  · intro ⟨e', g', h, q⟩
    rw [h]
    exact ⟨.nrm, e', g', rfl, q⟩
theorem nrmQ_is {Q e g} : nrmQ Q e g = Q .nrm e g := rfl
theorem WR_nil {d b j e g K} : WR F d b j [] e g K = K e g := by
  unfold WR; apply propext
  simp only [regE_nil]
  exact ⟨fun ⟨e', g', h, q⟩ => by cases h; exact q, fun q => ⟨_, _, rfl, q⟩⟩
theorem WR_cons {d b j dst op grd pre os e g K} : WR F d b j ({ dst, op, grd, pre } :: os) e g K = selO F d b j dst os e op pre g K (wanted e grd) := by
  unfold WR; rw [regE_cons]
  generalize wanted e grd = w
  cases w
  · rfl
  · rw [selR_true]
    show _ = bindO _ _ _ _ _ _ _ _ _
    cases opE (callS F) (allow d b pre) b (b + j) op e g with
    | none =>
      apply propext
      constructor
      · intro ⟨_, _, h, _⟩; cases h
      · intro h; exact False.elim h
    | some r => rfl
theorem selO_true {d b j dst os e op pre g K} : selO F d b j dst os e op pre g K true = bindO F d b (j + 1) dst os e K (opE (callS F) (allow d b pre) b (b + j) op e g) := rfl
theorem selO_false {d b j dst os e op pre g K} : selO F d b j dst os e op pre g K false = WR F d b (j + 1) os (put e dst .undef) g K := rfl
theorem bindO_some {d b j dst os e K v g} : bindO F d b j dst os e K (some (v, g)) = WR F d b j os (put e dst v) g K := rfl
def loopQ (I : Nat → Env → G → Prop) (m : Nat) (Q : Out → Env → G → Prop) : Out → Env → G → Prop
  | .nrm, e, g => ∃ m', m' < m ∧ I m' e g
  | o, e, g => Q o e g
theorem loopQ_nrm {I m Q e g} : loopQ I m Q .nrm e g = ∃ m', m' < m ∧ I m' e g := rfl
theorem loopQ_ext {I m Q n e g} : loopQ I m Q (.ext n) e g = Q (.ext n) e g := rfl
theorem loopQ_ret {I m Q e g} : loopQ I m Q .ret e g = Q .ret e g := rfl
noncomputable def pureS (F : Funs) (f : Nat) (asx : List AV) : Option AV := match callS F f asx g0 with
  | some (v, g) => frz g.hp depth v
  | none => none
noncomputable def vPure (F : Funs) (al : Nat → Bool) (f : AV) (args : List AV) (g : G) : Option (AV × G) := vCall (callS F) al 0 .pure f args g
theorem o_pure {al lo id e g} (f : Opd) (asx : List Opd) : opE (callS F) al lo id (.call .pure f asx) e g = vPure F al (f.ev e) (asx.map (·.ev e)) g := rfl
theorem vPure_ok {al : Nat → Bool} {fid : Nat} {fst caps args bs : List AV} {g : G} {v : AV} (h1 : frzL (rd g al) depth (fst ++ args ++ caps) = some bs) (h2 : pureS F fid bs = some v) (h3 : (flat v || ((fst ++ args ++ caps).flatMap (vis (rd g al) depth)).isEmpty) = true) :
    vPure F al (.fn fid fst caps) args g = some (v, g) := by
  unfold pureS at h2
  split at h2
  · rename_i v0 g' hc
    have hc' : callS F fid bs ⟨fun _ => none, 0⟩ = some (v0, g') := hc
    unfold vPure vCall
    simp only [h1, hc', h2, h3, if_true]
  · cases h2
def retQ (rs : List ARes) (v : AV) : Out → Env → G → Prop
  | .ext _, _, _ => False
  | _, e, g => (match resE rs e g with | some v0 => frz g.hp depth v0 | none => none) = some v
theorem retQ_nrm {rs v e g} : retQ rs v .nrm e g = ((match resE rs e g with | some v0 => frz g.hp depth v0 | none => none) = some v) := rfl
theorem retQ_ret {rs v e g} : retQ rs v .ret e g = ((match resE rs e g with | some v0 => frz g.hp depth v0 | none => none) = some v) := rfl
theorem pure_of {f : Nat} {fn : AFun} {asx : List AV} {v : AV} (hF : F f = some fn) (h : W F fn.body (argEnv asx) g0 (retQ fn.res v)) : pureS F f asx = some v := by
  obtain ⟨o, e, g, h1, h2⟩ := h
  unfold pureS
  rw [callS_eq, hF]
  simp only [h1]
  cases o with
  | ext n => exact h2.elim
  | nrm =>
    have h2 : (match resE fn.res e g with | some v0 => frz g.hp depth v0 | none => none) = some v := h2
    cases hr : resE fn.res e g with
    | none => rw [hr] at h2; cases h2
    | some v0 => rw [hr] at h2; simp only [hr, Option.map_some]; exact h2
  | ret =>
    have h2 : (match resE fn.res e g with | some v0 => frz g.hp depth v0 | none => none) = some v := h2
    cases hr : resE fn.res e g with
    | none => rw [hr] at h2; cases h2
    | some v0 => rw [hr] at h2; simp only [hr, Option.map_some]; exact h2
end
theorem argEnv_0 (a l) : argEnv (a :: l) 0 = a := rfl
theorem argEnv_1 (a b l) : argEnv (a :: b :: l) 1 = b := rfl
theorem argEnv_2 (a b c l) : argEnv (a :: b :: c :: l) 2 = c := rfl
theorem argEnv_3 (a b c d l) : argEnv (a :: b :: c :: d :: l) 3 = d := rfl
theorem argEnv_4 (a b c d e l) : argEnv (a :: b :: c :: d :: e :: l) 4 = e := rfl
theorem argEnv_5 (a b c d e f l) : argEnv (a :: b :: c :: d :: e :: f :: l) 5 = f := rfl
theorem res_1 (n e g) : resE [.t n] e g = some (e n) := rfl
theorem res_2 (n m e g) : resE [.t n, .t m] e g = some (.tup [e n, e m]) := rfl
theorem frz_flat {hp} {d : Nat} {v : AV} (h : flat v = true) : frz hp (d + 1) v = some v := by cases v <;> first | (cases h; done) | simp only [frz]
theorem frzL_flat {hp} {d : Nat} : ∀ {cs : List AV}, cs.all flat = true → frzL hp (d + 1) cs = some cs
  | [], _ => by simp only [frzL]
  | c :: cs, h => by
    simp only [List.all_cons, Bool.and_eq_true] at h
    simp only [frzL, frz_flat h.1, frzL_flat h.2]
theorem frzL_nil (hp d) : frzL hp d [] = some [] := by simp only [frzL]
def consO (c : Option AV) (cs : Option (List AV)) : Option (List AV) := match c, cs with
  | some c, some cs => some (c :: cs)
  | _, _ => none
theorem consO_ok (c cs) : consO (some c) (some cs) = some (c :: cs) := rfl
theorem frzL_cons (hp d c cs) : frzL hp d (c :: cs) = consO (frz hp d c) (frzL hp d cs) := by
  simp only [frzL]
  cases frz hp d c <;> cases frzL hp d cs <;> rfl
theorem frz_d_i (hp k n) : frz hp depth (.i k n) = some (.i k n) := by show frz hp (8 + 1) _ = _; simp only [frz]
theorem frz_d_b (hp x) : frz hp depth (.b x) = some (.b x) := by show frz hp (8 + 1) _ = _; simp only [frz]
theorem frz_d_s (hp x) : frz hp depth (.s x) = some (.s x) := by show frz hp (8 + 1) _ = _; simp only [frz]
theorem frz_d_nilp (hp) : frz hp depth .nilp = some .nilp := by show frz hp (8 + 1) _ = _; simp only [frz]
theorem frz_d_ptr (hp cs) : frz hp depth (.ptr cs) = some (.ptr cs) := by show frz hp (8 + 1) _ = _; simp only [frz]
theorem frz_d_sl (hp cs n t) : frz hp depth (.sl cs n t) = some (.sl cs n .non) := by show frz hp (8 + 1) _ = _; simp only [frz]
theorem frz_d_fn0 (hp f) : frz hp depth (.fn f [] []) = some (.fn f [] []) := by show frz hp (8 + 1) _ = _; simp only [frz, frzL]
noncomputable def frzB (hp : Nat → Option Blk) (off : Nat) (cs : List AV) (x : Bool) : Option (List AV) := if x then some (cs.drop off) else frzL hp 8 (cs.drop off)
noncomputable def frzP (hp : Nat → Option Blk) (off : Nat) (f : List AV → AV) : Option Blk → Option AV
  | some (.cells cs _) => (frzB hp off cs (cs.all flat)).map f
  | _ => none
theorem frzB_eq (hp : Nat → Option Blk) (off : Nat) (cs : List AV) : frzB hp off cs (cs.all flat) = frzL hp 8 (cs.drop off) := by
  unfold frzB
  split
  · rename_i hf
    refine (frzL_flat ?_).symm
    rw [List.all_eq_true] at hf ⊢
    exact fun x hx => hf x (List.mem_of_mem_drop hx)
  · rfl
theorem frz_P (hp : Nat → Option Blk) (id off : Nat) : frz hp depth (.mp id off) = frzP hp off .ptr (hp id) := by
  show frz hp (8 + 1) _ = _
  simp only [frz]
  unfold frzP
  simp only [frzB_eq]
  cases hp id with
  | none => rfl
  | some b => cases b <;> rfl
theorem frz_Q (hp : Nat → Option Blk) (id off n : Nat) : frz hp depth (.ms id off n) = frzP hp off (fun cs => .sl cs n .non) (hp id) := by
  show frz hp (8 + 1) _ = _
  simp only [frz]
  unfold frzP
  simp only [frzB_eq]
  cases hp id with
  | none => rfl
  | some b => cases b <;> rfl
theorem frzP_cells (hp off f cs ro) : frzP hp off f (some (.cells cs ro)) = (frzB hp off cs (cs.all flat)).map f := rfl
theorem frzB_true (hp off cs) : frzB hp off cs true = some (cs.drop off) := rfl
theorem map_some' (f : List AV → AV) (cs : List AV) : (some cs).map f = some (f cs) := rfl
noncomputable def purD (g : G) (vs : List Nat) : Option AV → Option (AV × G)
  | some v => if flat v || vs.isEmpty then some (v, g) else none
  | none => none
def purE (g : G) (v : AV) (x : Bool) : Option (AV × G) := if x then some (v, g) else none
theorem purD_some (g vs v) : purD g vs (some v) = purE g v (flat v || vs.isEmpty) := rfl
theorem purE_true (g v) : purE g v true = some (v, g) := rfl
noncomputable def purS (F : Funs) (f : Nat) (g : G) (vs : List Nat) : Option (List AV) → Option (AV × G)
  | some bs => purD g vs (pureS F f bs)
  | none => none
theorem purS_some (F f g vs bs) : purS F f g vs (some bs) = purD g vs (pureS F f bs) := rfl
theorem vPure_S (F : Funs) (al : Nat → Bool) (fid : Nat) (fst args caps : List AV) (g : G) :
    vPure F al (.fn fid fst caps) args g = purS F fid g ((fst ++ args ++ caps).flatMap (vis (rd g al) depth)) (frzL (rd g al) depth (fst ++ args ++ caps)) := by
  unfold vPure vCall
  simp only
  cases frzL (rd g al) depth (fst ++ args ++ caps) with
  | none => rfl
  | some bs =>
    rw [purS_some]
    unfold pureS g0
    simp only
    cases callS F fid bs ⟨fun _ => none, 0⟩ with
    | none => rfl
    | some r =>
      obtain ⟨v, g'⟩ := r
      simp only
      cases frz g'.hp depth v with
      | none => rfl
      | some v' => rfl
theorem flat_i (k n) : flat (.i k n) = true := rfl
theorem flat_b (x) : flat (.b x) = true := rfl
theorem flat_s (x) : flat (.s x) = true := rfl
theorem flat_nilp : flat .nilp = true := rfl
theorem flat_ptr (x) : flat (.ptr x) = false := rfl
theorem flat_sl (a b c) : flat (.sl a b c) = false := rfl
theorem flat_agg (a) : flat (.agg a) = false := rfl
theorem flat_tup (a) : flat (.tup a) = false := rfl
theorem vis_i (hp k n) : vis hp depth (.i k n) = [] := by show vis hp (8 + 1) _ = _; simp only [vis]
theorem vis_b (hp x) : vis hp depth (.b x) = [] := by show vis hp (8 + 1) _ = _; simp only [vis]
theorem vis_s (hp x) : vis hp depth (.s x) = [] := by show vis hp (8 + 1) _ = _; simp only [vis]
theorem vis_nilp (hp) : vis hp depth .nilp = [] := by show vis hp (8 + 1) _ = _; simp only [vis]
theorem vis_ptr (hp x) : vis hp depth (.ptr x) = [] := by show vis hp (8 + 1) _ = _; simp only [vis]
theorem vis_sl (hp a b c) : vis hp depth (.sl a b c) = [] := by show vis hp (8 + 1) _ = _; simp only [vis]
theorem vis_fn0 (hp f) : vis hp depth (.fn f [] []) = [] := by show vis hp (8 + 1) _ = _; simp only [vis, List.flatMap_nil, List.append_nil]
theorem isEmpty_nil : ([] : List Nat).isEmpty = true := rfl
def midQ (M : Env → G → Prop) : Out → Env → G → Prop
  | .nrm, e, g => M e g
  | _, _, _ => False
theorem midQ_nrm {M e g} : midQ M .nrm e g = M e g := rfl
theorem frz_b_inv {hp : Nat → Option Blk} {k : Nat} {v : AV} {b : Bool} (h : frz hp (k + 1) v = some (.b b)) : v = .b b := by
  cases v with
  | b x => simp only [frz] at h; cases h; rfl
  | agg cs => simp only [frz] at h; cases hf : frzL hp k cs <;> rw [hf] at h <;> cases h
  | tup cs => simp only [frz] at h; cases hf : frzL hp k cs <;> rw [hf] at h <;> cases h
  | mp id off =>
    simp only [frz] at h
    split at h
    · cases hf : frzL hp k (List.drop off _) <;> rw [hf] at h <;> cases h
    · cases h
  | ms id off n =>
    simp only [frz] at h
    split at h
    · cases hf : frzL hp k (List.drop off _) <;> rw [hf] at h <;> cases h
    · cases h
  | fn f asx bs => simp only [frz] at h; split at h <;> cases h
  | ifc t w => simp only [frz] at h; cases hf : frz hp k w <;> rw [hf] at h <;> cases h
  | _ => simp only [frz] at h; cases h
theorem pureS_bool {F : Funs} {f : Nat} {asx : List AV} {b : Bool} (h : pureS F f asx = some (.b b)) : ∃ k g', callE F k f asx g0 = some (.b b, g') := by
  unfold pureS at h
  split at h
  · rename_i v g hc
    have := frz_b_inv (k := 8) h
    subst this
    obtain ⟨k, hk⟩ := (callS_some F).1 hc
    exact ⟨k, g, hk⟩
  · cases h
def retB (rs : List ARes) (P : Bool → Prop) : Out → Env → G → Prop
  | .ext _, _, _ => False
  | _, e, g => ∃ b, resE rs e g = some (.b b) ∧ P b
theorem retB_nrm {rs P e g} : retB rs P .nrm e g = (∃ b, resE rs e g = some (.b b) ∧ P b) := rfl
theorem retB_ret {rs P e g} : retB rs P .ret e g = (∃ b, resE rs e g = some (.b b) ∧ P b) := rfl
def midR (Q : Out → Env → G → Prop) (M : Env → G → Prop) : Out → Env → G → Prop
  | .nrm, e, g => M e g
  | .ret, e, g => Q .ret e g
  | .ext _, _, _ => False
theorem midR_nrm {Q M e g} : midR Q M .nrm e g = M e g := rfl
theorem midR_ret {Q M e g} : midR Q M .ret e g = Q .ret e g := rfl
set_option maxRecDepth 10000 in
theorem wp : type_of% (And.intro (And.intro (And.intro (And.intro (And.intro (And.intro (And.intro @W_skip (And.intro @W_ext @W_ret)) (And.intro (And.intro @W_seq @thenQ_nrm) (And.intro @thenQ_ext @thenQ_ret))) (And.intro (And.intro (And.intro @W_cond @selW_true) (And.intro @selW_false @W_blk)) (And.intro (And.intro @blkQ_nrm @blkQ_ret) (And.intro @blkQ_same @blkQ_ne)))) (And.intro (And.intro (And.intro @W_reg (And.intro @nrmQ_is @WR_nil)) (And.intro (And.intro @WR_cons @selO_true) (And.intro @selO_false @bindO_some))) (And.intro (And.intro (And.intro @loopQ_nrm @loopQ_ext) (And.intro @loopQ_ret @wanted_none)) (And.intro (And.intro @wanted_some @wantV_1) (And.intro @wantV_0 @wantV_undef))))) (And.intro (And.intro (And.intro (And.intro @ev_t (And.intro @ev_c @put_some)) (And.intro (And.intro @put_none @upd_same) (And.intro @upd_ne @List.length_cons.{0}))) (And.intro (And.intro (And.intro @List.length_nil.{0} @List.map_cons.{0, 0}) (And.intro @List.map_nil.{0, 0} @allow_no)) (And.intro (And.intro @allow_lt @argEnv_0) (And.intro @argEnv_1 @argEnv_2)))) (And.intro (And.intro (And.intro (And.intro @argEnv_3 @argEnv_4) (And.intro @argEnv_5 @res_1)) (And.intro (And.intro @res_2 @retQ_nrm) (And.intro @retQ_ret @o_mv))) (And.intro (And.intro (And.intro @o_pick @vPick_t) (And.intro @vPick_f @o_new)) (And.intro (And.intro @o_box @vBox_S) (And.intro @boxD_ok @vMap_some)))))) (And.intro (And.intro (And.intro (And.intro (And.intro @vMapL_some (And.intro @o_build @o_ld)) (And.intro (And.intro @vLd_ptr @vLd_S) (And.intro @ldS_ok @selB_true))) (And.intro (And.intro (And.intro @o_st @vSt_S) (And.intro @stS_ok @stD_ok)) (And.intro (And.intro @o_nilck @vNil_ptr) (And.intro @vNil_mp @vNil_fn)))) (And.intro (And.intro (And.intro (And.intro @o_bin @o_un) (And.intro @o_mkfn @o_fa)) (And.intro (And.intro @vFa_mp @vFa_S) (And.intro @faD_ok @o_fld))) (And.intro (And.intro (And.intro @vFld_agg @o_ia) (And.intro @vIa_sl @vIa_ms)) (And.intro (And.intro @o_iaa @vIaa_ptr) (And.intro @vIaa_mp @o_len))))) (And.intro (And.intro (And.intro (And.intro @vLen_sl (And.intro @vLen_ms @o_mx)) (And.intro (And.intro @o_mn @vMx_i) (And.intro @vMn_i @o_ext))) (And.intro (And.intro (And.intro @vExt_tup @b_add) (And.intro @b_sub @b_mul)) (And.intro (And.intro @b_lss @b_leq) (And.intro @b_gtr @b_geq)))) (And.intro (And.intro (And.intro (And.intro @b_eql @b_neq) (And.intro @o_pure @List.nil_append.{0})) (And.intro (And.intro @List.append_nil.{0} @List.cons_append.{0}) (And.intro @frz_d_i @frz_d_b))) (And.intro (And.intro (And.intro @frz_d_s @frz_d_nilp) (And.intro @frz_d_ptr @frz_d_sl)) (And.intro (And.intro @frz_d_fn0 @Bool.not_true) (And.intro @Bool.not_false @Bool.true_and))))))) (And.intro (And.intro (And.intro (And.intro (And.intro (And.intro @Bool.and_true (And.intro @Bool.false_and @Bool.and_false)) (And.intro (And.intro @decide_true @decide_false) (And.intro @beq_self_eq_true.{0} @Bool.true_eq_false))) (And.intro (And.intro (And.intro @Bool.false_eq_true @Nat.zero_add) (And.intro @Nat.add_zero @Int.toNat_natCast)) (And.intro (And.intro @ge_iff_le.{0} @gt_iff_lt.{0}) (And.intro @fill_S @fillD_ok)))) (And.intro (And.intro (And.intro (And.intro @fill_nil @cellsOf_agg) (And.intro @cellsOf_i @cellsOf_b)) (And.intro (And.intro @cellsOf_s @cellsOf_ptr) (And.intro @cellsOf_nilp @cellsOf_sl))) (And.intro (And.intro (And.intro @cellsOf_mp @cellsOf_fn) (And.intro @one_i @one_b)) (And.intro (And.intro @one_s @one_ptr) (And.intro @one_nilp @one_sl))))) (And.intro (And.intro (And.intro (And.intro @one_mp (And.intro @one_fn @List.all_cons.{0})) (And.intro (And.intro @List.all_nil.{0} @splice_1) (And.intro @splice_2 @splice_3))) (And.intro (And.intro (And.intro @part_0 @part_1) (And.intro @part_2 @drop_0)) (And.intro (And.intro @g0_nx @g0_hp) (And.intro @List.set_cons_zero.{0} @List.set_cons_succ.{0})))) (And.intro (And.intro (And.intro (And.intro @List.length_append.{0} @List.length_replicate.{0}) (And.intro @eq_self.{1} @true_and)) (And.intro (And.intro @and_true @vPure_S) (And.intro @purS_some @purD_some))) (And.intro (And.intro (And.intro @purE_true @frzL_cons) (And.intro @frzL_nil @consO_ok)) (And.intro (And.intro @flat_i @flat_b) (And.intro @flat_s @flat_nilp)))))) (And.intro (And.intro (And.intro (And.intro (And.intro @flat_ptr (And.intro @flat_sl @flat_agg)) (And.intro (And.intro @flat_tup @vis_i) (And.intro @vis_b @vis_s))) (And.intro (And.intro (And.intro @vis_nilp @vis_ptr) (And.intro @vis_sl @vis_fn0)) (And.intro (And.intro @List.flatMap_cons.{0, 0} @List.flatMap_nil.{0, 0}) (And.intro @isEmpty_nil @Bool.true_or)))) (And.intro (And.intro (And.intro (And.intro @Bool.false_or @Bool.or_true) (And.intro @Bool.or_false @frz_P)) (And.intro (And.intro @frz_Q @frzP_cells) (And.intro @frzB_true @map_some'))) (And.intro (And.intro (And.intro @rd_S @o_bsl) (And.intro @vBsl_t @vBsl_f)) (And.intro (And.intro @o_app @appD_ok) (And.intro @vApp_rig @vApp_rig0))))) (And.intro (And.intro (And.intro (And.intro @appK_ok (And.intro @vApp_own @o_eqn)) (And.intro (And.intro @o_eqb @o_eqa) (And.intro @aeqn_pn @aeqn_np))) (And.intro (And.intro (And.intro @aeqn_mn @aeqn_nn) (And.intro @aeqb_bb @negb_t)) (And.intro (And.intro @negb_f @aun_not) (And.intro @midQ_nrm @part_3)))) (And.intro (And.intro (And.intro (And.intro @part_4 @part_5) (And.intro @cellsOf_ms @one_ms)) (And.intro (And.intro @Int.toNat_zero @Nat.zero_mul) (And.intro @o_stL @andLe_ok))) (And.intro (And.intro (And.intro @allow_hd @allow_h2) (And.intro @retB_nrm @retB_ret)) (And.intro (And.intro @midR_nrm @midR_ret) (And.intro @W_scp @W_lab)))))))) := (And.intro (And.intro (And.intro (And.intro (And.intro (And.intro (And.intro @W_skip (And.intro @W_ext @W_ret)) (And.intro (And.intro @W_seq @thenQ_nrm) (And.intro @thenQ_ext @thenQ_ret))) (And.intro (And.intro (And.intro @W_cond @selW_true) (And.intro @selW_false @W_blk)) (And.intro (And.intro @blkQ_nrm @blkQ_ret) (And.intro @blkQ_same @blkQ_ne)))) (And.intro (And.intro (And.intro @W_reg (And.intro @nrmQ_is @WR_nil)) (And.intro (And.intro @WR_cons @selO_true) (And.intro @selO_false @bindO_some))) (And.intro (And.intro (And.intro @loopQ_nrm @loopQ_ext) (And.intro @loopQ_ret @wanted_none)) (And.intro (And.intro @wanted_some @wantV_1) (And.intro @wantV_0 @wantV_undef))))) (And.intro (And.intro (And.intro (And.intro @ev_t (And.intro @ev_c @put_some)) (And.intro (And.intro @put_none @upd_same) (And.intro @upd_ne @List.length_cons.{0}))) (And.intro (And.intro (And.intro @List.length_nil.{0} @List.map_cons.{0, 0}) (And.intro @List.map_nil.{0, 0} @allow_no)) (And.intro (And.intro @allow_lt @argEnv_0) (And.intro @argEnv_1 @argEnv_2)))) (And.intro (And.intro (And.intro (And.intro @argEnv_3 @argEnv_4) (And.intro @argEnv_5 @res_1)) (And.intro (And.intro @res_2 @retQ_nrm) (And.intro @retQ_ret @o_mv))) (And.intro (And.intro (And.intro @o_pick @vPick_t) (And.intro @vPick_f @o_new)) (And.intro (And.intro @o_box @vBox_S) (And.intro @boxD_ok @vMap_some)))))) (And.intro (And.intro (And.intro (And.intro (And.intro @vMapL_some (And.intro @o_build @o_ld)) (And.intro (And.intro @vLd_ptr @vLd_S) (And.intro @ldS_ok @selB_true))) (And.intro (And.intro (And.intro @o_st @vSt_S) (And.intro @stS_ok @stD_ok)) (And.intro (And.intro @o_nilck @vNil_ptr) (And.intro @vNil_mp @vNil_fn)))) (And.intro (And.intro (And.intro (And.intro @o_bin @o_un) (And.intro @o_mkfn @o_fa)) (And.intro (And.intro @vFa_mp @vFa_S) (And.intro @faD_ok @o_fld))) (And.intro (And.intro (And.intro @vFld_agg @o_ia) (And.intro @vIa_sl @vIa_ms)) (And.intro (And.intro @o_iaa @vIaa_ptr) (And.intro @vIaa_mp @o_len))))) (And.intro (And.intro (And.intro (And.intro @vLen_sl (And.intro @vLen_ms @o_mx)) (And.intro (And.intro @o_mn @vMx_i) (And.intro @vMn_i @o_ext))) (And.intro (And.intro (And.intro @vExt_tup @b_add) (And.intro @b_sub @b_mul)) (And.intro (And.intro @b_lss @b_leq) (And.intro @b_gtr @b_geq)))) (And.intro (And.intro (And.intro (And.intro @b_eql @b_neq) (And.intro @o_pure @List.nil_append.{0})) (And.intro (And.intro @List.append_nil.{0} @List.cons_append.{0}) (And.intro @frz_d_i @frz_d_b))) (And.intro (And.intro (And.intro @frz_d_s @frz_d_nilp) (And.intro @frz_d_ptr @frz_d_sl)) (And.intro (And.intro @frz_d_fn0 @Bool.not_true) (And.intro @Bool.not_false @Bool.true_and))))))) (And.intro (And.intro (And.intro (And.intro (And.intro (And.intro @Bool.and_true (And.intro @Bool.false_and @Bool.and_false)) (And.intro (And.intro @decide_true @decide_false) (And.intro @beq_self_eq_true.{0} @Bool.true_eq_false))) (And.intro (And.intro (And.intro @Bool.false_eq_true @Nat.zero_add) (And.intro @Nat.add_zero @Int.toNat_natCast)) (And.intro (And.intro @ge_iff_le.{0} @gt_iff_lt.{0}) (And.intro @fill_S @fillD_ok)))) (And.intro (And.intro (And.intro (And.intro @fill_nil @cellsOf_agg) (And.intro @cellsOf_i @cellsOf_b)) (And.intro (And.intro @cellsOf_s @cellsOf_ptr) (And.intro @cellsOf_nilp @cellsOf_sl))) (And.intro (And.intro (And.intro @cellsOf_mp @cellsOf_fn) (And.intro @one_i @one_b)) (And.intro (And.intro @one_s @one_ptr) (And.intro @one_nilp @one_sl))))) (And.intro (And.intro (And.intro (And.intro @one_mp (And.intro @one_fn @List.all_cons.{0})) (And.intro (And.intro @List.all_nil.{0} @splice_1) (And.intro @splice_2 @splice_3))) (And.intro (And.intro (And.intro @part_0 @part_1) (And.intro @part_2 @drop_0)) (And.intro (And.intro @g0_nx @g0_hp) (And.intro @List.set_cons_zero.{0} @List.set_cons_succ.{0})))) (And.intro (And.intro (And.intro (And.intro @List.length_append.{0} @List.length_replicate.{0}) (And.intro @eq_self.{1} @true_and)) (And.intro (And.intro @and_true @vPure_S) (And.intro @purS_some @purD_some))) (And.intro (And.intro (And.intro @purE_true @frzL_cons) (And.intro @frzL_nil @consO_ok)) (And.intro (And.intro @flat_i @flat_b) (And.intro @flat_s @flat_nilp)))))) (And.intro (And.intro (And.intro (And.intro (And.intro @flat_ptr (And.intro @flat_sl @flat_agg)) (And.intro (And.intro @flat_tup @vis_i) (And.intro @vis_b @vis_s))) (And.intro (And.intro (And.intro @vis_nilp @vis_ptr) (And.intro @vis_sl @vis_fn0)) (And.intro (And.intro @List.flatMap_cons.{0, 0} @List.flatMap_nil.{0, 0}) (And.intro @isEmpty_nil @Bool.true_or)))) (And.intro (And.intro (And.intro (And.intro @Bool.false_or @Bool.or_true) (And.intro @Bool.or_false @frz_P)) (And.intro (And.intro @frz_Q @frzP_cells) (And.intro @frzB_true @map_some'))) (And.intro (And.intro (And.intro @rd_S @o_bsl) (And.intro @vBsl_t @vBsl_f)) (And.intro (And.intro @o_app @appD_ok) (And.intro @vApp_rig @vApp_rig0))))) (And.intro (And.intro (And.intro (And.intro @appK_ok (And.intro @vApp_own @o_eqn)) (And.intro (And.intro @o_eqb @o_eqa) (And.intro @aeqn_pn @aeqn_np))) (And.intro (And.intro (And.intro @aeqn_mn @aeqn_nn) (And.intro @aeqb_bb @negb_t)) (And.intro (And.intro @negb_f @aun_not) (And.intro @midQ_nrm @part_3)))) (And.intro (And.intro (And.intro (And.intro @part_4 @part_5) (And.intro @cellsOf_ms @one_ms)) (And.intro (And.intro @Int.toNat_zero @Nat.zero_mul) (And.intro @o_stL @andLe_ok))) (And.intro (And.intro (And.intro @allow_hd @allow_h2) (And.intro @retB_nrm @retB_ret)) (And.intro (And.intro @midR_nrm @midR_ret) (And.intro @W_scp @W_lab))))))))
end Go.Ab
end
section
set_option linter.unusedVariables false
set_option linter.unusedSimpArgs false
namespace Go.Ab
noncomputable def vRaw (F : Funs) (al : Nat → Bool) (id : Nat) (f : AV) (args : List AV) (g : G) : Option (AV × G) := vCall (callS F) al id .raw f args g
theorem o_raw {F : Funs} {al lo id e g} (f : Opd) (asx : List Opd) : opE (callS F) al lo id (.call .raw f asx) e g = vRaw F al id (f.ev e) (asx.map (·.ev e)) g := rfl
theorem vRaw_fn {F : Funs} {al id fid fst caps args g} : vRaw F al id (.fn fid fst caps) args g = callS F fid (fst ++ args ++ caps) g := rfl
def retP (rs : List ARes) (P : AV → G → Prop) : Out → Env → G → Prop
  | .ext _, _, _ => False
  | _, e, g => ∃ v, resE rs e g = some v ∧ P v g
theorem retP_nrm {rs P e g} : retP rs P .nrm e g = (∃ v, resE rs e g = some v ∧ P v g) := rfl
theorem retP_ret {rs P e g} : retP rs P .ret e g = (∃ v, resE rs e g = some v ∧ P v g) := rfl
theorem res_0 (e g) : resE [] e g = some (.tup []) := rfl
def mgS (k : ByteArray) (g : G) : Option Blk → Option (AV × G)
  | some (.map es) => vMap g (mlook es k)
  | _ => none
theorem o_mget {c : CS} {al : Nat → Bool} {lo id : Nat} {e : Env} {g : G} (m k) : opE c al lo id (.mget m k) e g = vMget al (m.ev e) (k.ev e) g := rfl
theorem vMget_S {al : Nat → Bool} {g : G} (b k) : vMget al (.mm b) (.s k) g = mgS k g (selB (al b) (g.hp b)) := by
  simp only [vMget, rd_S]
  cases selB (al b) (g.hp b) with
  | none => rfl
  | some bl => cases bl <;> rfl
theorem mgS_map (k g es) : mgS k g (some (.map es)) = vMap g (mlook es k) := rfl
theorem o_mkmap {c : CS} {al : Nat → Bool} {lo id : Nat} {e : Env} {g : G} : opE c al lo id .mkmap e g = some (.mm id, ⟨upd g.hp id (some (.map [])), g.nx⟩) := rfl
theorem o_mput {c : CS} {al : Nat → Bool} {lo id : Nat} {e : Env} {g : G} (m k v) : opE c al lo id (.mput m k v) e g = vMput al (m.ev e) (k.ev e) (v.ev e) g := rfl
def mpO (b : Nat) (k : ByteArray) (v : AV) (es : List (AV × AV)) (g : G) (x : Bool) : Option AV → Option (AV × G)
  | none => if x then some (.undef, ⟨upd g.hp b (some (.map (es ++ [(.s k, v)]))), g.nx⟩) else none
  | some _ => none
def mpS (b : Nat) (k : ByteArray) (v : AV) (g : G) (x : Bool) : Option Blk → Option (AV × G)
  | some (.map es) => mpO b k v es g x (mlook es k)
  | _ => none
theorem vMput_S {al : Nat → Bool} {g : G} (b k v) : vMput al (.mm b) (.s k) v g = mpS b k v g (one v) (selB (al b) (g.hp b)) := by
  simp only [vMput, rd_S]
  cases selB (al b) (g.hp b) with
  | none => rfl
  | some bl =>
    cases bl with
    | map es => simp only [mpS]; cases mlook es k <;> rfl
    | cells _ _ => rfl
    | tok _ => rfl
theorem mpS_map (b k v g x es) : mpS b k v g x (some (.map es)) = mpO b k v es g x (mlook es k) := rfl
theorem mpO_none (b k v es g) : mpO b k v es g true none = some (.undef, ⟨upd g.hp b (some (.map (es ++ [(.s k, v)]))), g.nx⟩) := rfl
theorem frz_d_agg {hp cs ds} (h : frzL hp 8 cs = some ds) : frz hp depth (.agg cs) = some (.agg ds) := by
  show frz hp (8 + 1) _ = _
  simp only [frz, h, Option.map_some]
end Go.Ab
end
section
set_option linter.unusedVariables false
set_option linter.unusedSimpArgs false
namespace Go.Ab
inductive ET where
  | leaf
  | node (v : Option AV) (l r : ET)
noncomputable def ET.get (t : ET) : Nat → Option AV :=
  ET.rec (motive := fun _ => Nat → Option AV) (fun _ => none) (fun v _ _ gl gr n => Nat.rec (motive := fun _ => Option AV) v (fun m _ => Bool.rec (motive := fun _ => Option AV) (gr (Nat.div m 2)) (gl (Nat.div m 2)) (Nat.beq (Nat.mod m 2) 0)) n) t
theorem ET.get_succ (v l r) (m : Nat) : (ET.node v l r).get (m + 1) = if m % 2 = 0 then l.get (m / 2) else r.get (m / 2) := by
  show Bool.rec (motive := fun _ => Option AV) (r.get (m / 2)) (l.get (m / 2)) (Nat.beq (m % 2) 0) = _
  cases h : Nat.beq (m % 2) 0 with
  | true => rw [if_pos (Nat.eq_of_beq_eq_true h)]
  | false => rw [if_neg (Nat.ne_of_beq_eq_false h)]
section
variable {α : Type}
noncomputable def ET.putK (v : AV) (fuel : Nat) : ET → Nat → (ET → α) → α :=
  Nat.rec (motive := fun _ => ET → Nat → (ET → α) → α) (fun t _ k => k t)
    (fun _ ih t n k => ET.rec (motive := fun _ => α)
      (Nat.rec (motive := fun _ => α) (k (.node (some v) .leaf .leaf)) (fun m _ => Bool.rec (motive := fun _ => α) (ih .leaf (Nat.div m 2) fun r' => k (.node none .leaf r')) (ih .leaf (Nat.div m 2) fun l' => k (.node none l' .leaf)) (Nat.beq (Nat.mod m 2) 0)) n)
      (fun w l r _ _ => Nat.rec (motive := fun _ => α) (k (.node (some v) l r)) (fun m _ => Bool.rec (motive := fun _ => α) (ih r (Nat.div m 2) fun r' => k (.node w l r')) (ih l (Nat.div m 2) fun l' => k (.node w l' r)) (Nat.beq (Nat.mod m 2) 0)) n) t) fuel
theorem ET.putK_ok (v : AV) : ∀ (fuel : Nat) (t : ET) (n : Nat) (k : ET → α), n < fuel → ∃ t', ET.putK v fuel t n k = k t' ∧ ∀ j, t'.get j = if j = n then some v else t.get j
  | 0, _, _, _, h => absurd h (Nat.not_lt_zero _)
  | f + 1, t, 0, k, _ => by
    cases t with
    | leaf =>
      refine ⟨.node (some v) .leaf .leaf, rfl, fun j => ?_⟩
      cases j with
      | zero => rfl
      | succ j => rw [ET.get_succ, if_neg (Nat.succ_ne_zero j)]; split <;> rfl
    | node w l r =>
      refine ⟨.node (some v) l r, rfl, fun j => ?_⟩
      cases j with
      | zero => rfl
      | succ j => rw [ET.get_succ, if_neg (Nat.succ_ne_zero j), ET.get_succ]
  | f + 1, t, m + 1, k, h => by
    have hd : m / 2 < f := by omega
    cases t with
    | leaf =>
      cases hb : Nat.beq (m % 2) 0 with
      | true =>
        have hm := Nat.eq_of_beq_eq_true hb
        obtain ⟨t', h1, h2⟩ := ET.putK_ok v f .leaf (m / 2) (fun l' => k (.node none l' .leaf)) hd
        refine ⟨.node none t' .leaf, ?_, fun j => ?_⟩
        · show Bool.rec (motive := fun _ => α) _ (ET.putK v f .leaf (m / 2) fun l' => k (.node none l' .leaf)) (Nat.beq (m % 2) 0) = _
          rw [hb]; exact h1
        · cases j with
          | zero => rw [if_neg (by omega)]; rfl
          | succ j =>
            rw [ET.get_succ]
            by_cases hj : j % 2 = 0
            · rw [if_pos hj, h2]
              by_cases e : j / 2 = m / 2
              · rw [if_pos e, if_pos (by omega)]
              · rw [if_neg e, if_neg (by omega)]; rfl
            · rw [if_neg hj, if_neg (by omega)]; rfl
      | false =>
        have hm := Nat.ne_of_beq_eq_false hb
        obtain ⟨t', h1, h2⟩ := ET.putK_ok v f .leaf (m / 2) (fun r' => k (.node none .leaf r')) hd
        refine ⟨.node none .leaf t', ?_, fun j => ?_⟩
        · show Bool.rec (motive := fun _ => α) (ET.putK v f .leaf (m / 2) fun r' => k (.node none .leaf r')) _ (Nat.beq (m % 2) 0) = _
          rw [hb]; exact h1
        · cases j with
          | zero => rw [if_neg (by omega)]; rfl
          | succ j =>
            rw [ET.get_succ]
            by_cases hj : j % 2 = 0
            · rw [if_pos hj, if_neg (by omega)]; rfl
            · rw [if_neg hj, h2]
              by_cases e : j / 2 = m / 2
              · rw [if_pos e, if_pos (by omega)]
              · rw [if_neg e, if_neg (by omega)]; rfl
    | node w l r =>
      cases hb : Nat.beq (m % 2) 0 with
      | true =>
        have hm := Nat.eq_of_beq_eq_true hb
        obtain ⟨t', h1, h2⟩ := ET.putK_ok v f l (m / 2) (fun l' => k (.node w l' r)) hd
        refine ⟨.node w t' r, ?_, fun j => ?_⟩
        · show Bool.rec (motive := fun _ => α) _ (ET.putK v f l (m / 2) fun l' => k (.node w l' r)) (Nat.beq (m % 2) 0) = _
          rw [hb]; exact h1
        · cases j with
          | zero => rw [if_neg (by omega)]; rfl
          | succ j =>
            rw [ET.get_succ, ET.get_succ]
            by_cases hj : j % 2 = 0
            · rw [if_pos hj, if_pos hj, h2]
              by_cases e : j / 2 = m / 2
              · rw [if_pos e, if_pos (by omega)]
              · rw [if_neg e, if_neg (by omega)]
            · rw [if_neg hj, if_neg hj, if_neg (by omega)]
      | false =>
        have hm := Nat.ne_of_beq_eq_false hb
        obtain ⟨t', h1, h2⟩ := ET.putK_ok v f r (m / 2) (fun r' => k (.node w l r')) hd
        refine ⟨.node w l t', ?_, fun j => ?_⟩
        · show Bool.rec (motive := fun _ => α) (ET.putK v f r (m / 2) fun r' => k (.node w l r')) _ (Nat.beq (m % 2) 0) = _
          rw [hb]; exact h1
        · cases j with
          | zero => rw [if_neg (by omega)]; rfl
          | succ j =>
            rw [ET.get_succ, ET.get_succ]
            by_cases hj : j % 2 = 0
            · rw [if_pos hj, if_pos hj, if_neg (by omega)]
            · rw [if_neg hj, if_neg hj, h2]
              by_cases e : j / 2 = m / 2
              · rw [if_pos e, if_pos (by omega)]
              · rw [if_neg e, if_neg (by omega)]
noncomputable def frcN (n : Nat) (k : Nat → α) : α := Nat.rec (motive := fun _ => α) (k 0) (fun m _ => k (Nat.add m 1)) n
theorem frcN_ok (n : Nat) (k : Nat → α) : frcN n k = k n := by cases n <;> rfl
noncomputable def frcI (n : Int) (k : Int → α) : α := Int.rec (motive := fun _ => α) (fun m => frcN m fun m => k (.ofNat m)) (fun m => frcN m fun m => k (.negSucc m)) n
theorem frcI_ok (n : Int) (k : Int → α) : frcI n k = k n := by
  cases n with
  | ofNat m => exact frcN_ok m fun m => k (.ofNat m)
  | negSucc m => exact frcN_ok m fun m => k (.negSucc m)
noncomputable def frcB (x : Bool) (k : Bool → α) : α := Bool.rec (motive := fun _ => α) (k false) (k true) x
theorem frcB_ok (x : Bool) (k : Bool → α) : frcB x k = k x := by cases x <;> rfl
noncomputable def frc1 (v : AV) (k : AV → α) : α := match v with
  | .i s n => frcI n fun n => k (.i s n)
  | .b x => frcB x fun x => k (.b x)
  | v => k v
theorem frc1_ok (v : AV) (k : AV → α) : frc1 v k = k v := by
  cases v with
  | i s n => exact frcI_ok n fun n => k (.i s n)
  | b x => exact frcB_ok x fun x => k (.b x)
  | _ => rfl
noncomputable def frcL (cs : List AV) : (List AV → α) → α := List.rec (motive := fun _ => (List AV → α) → α) (fun k => k []) (fun c _ ih k => frc1 c fun c => ih fun cs => k (c :: cs)) cs
theorem frcL_ok : ∀ (cs : List AV) (k : List AV → α), frcL cs k = k cs
  | [], _ => rfl
  | c :: cs, k => by
    show frc1 c (fun c => frcL cs fun cs => k (c :: cs)) = _
    rw [frc1_ok, frcL_ok cs]
noncomputable def frcV (v : AV) (k : AV → α) : α := match v with
  | .i s n => frcI n fun n => k (.i s n)
  | .b x => frcB x fun x => k (.b x)
  | .sl cs n t => frcL cs fun cs => frcN n fun n => k (.sl cs n t)
  | .agg cs => frcL cs fun cs => k (.agg cs)
  | .ptr cs => frcL cs fun cs => k (.ptr cs)
  | .mp a o => frcN a fun a => frcN o fun o => k (.mp a o)
  | .ms a o n => frcN a fun a => frcN o fun o => frcN n fun n => k (.ms a o n)
  | v => k v
theorem frcV_ok (v : AV) (k : AV → α) : frcV v k = k v := by
  cases v with
  | i s n => exact frcI_ok n fun n => k (.i s n)
  | b x => exact frcB_ok x fun x => k (.b x)
  | sl cs n t =>
    show frcL cs (fun cs => frcN n fun n => k (.sl cs n t)) = _
    rw [frcL_ok, frcN_ok]
  | agg cs => exact frcL_ok cs fun cs => k (.agg cs)
  | ptr cs => exact frcL_ok cs fun cs => k (.ptr cs)
  | mp a o =>
    show frcN a (fun a => frcN o fun o => k (.mp a o)) = _
    rw [frcN_ok, frcN_ok]
  | ms a o n =>
    show frcN a (fun a => frcN o fun o => frcN n fun n => k (.ms a o n)) = _
    rw [frcN_ok, frcN_ok, frcN_ok]
  | _ => rfl
end
noncomputable def mapO (f : AV → Option AV) (cs : List AV) : Option (List AV) := List.rec (motive := fun _ => Option (List AV)) (some []) (fun c _ ih => match f c with
  | some c => (match ih with | some cs => some (c :: cs) | none => none)
  | none => none) cs
noncomputable def frzK (hp : Nat → Option Blk) (k : Nat) : AV → Option AV := Nat.rec (motive := fun _ => AV → Option AV) (fun _ => none) (fun _ ih v => match v with
  | .agg cs => (match mapO ih cs with | some cs => some (.agg cs) | none => none)
  | .tup cs => (match mapO ih cs with | some cs => some (.tup cs) | none => none)
  | .sl cs n _ => some (.sl cs n .non)
  | .mp id off => (match hp id with
    | some (.cells cs _) => (match mapO ih (cs.drop off) with | some cs => some (.ptr cs) | none => none)
    | _ => none)
  | .ms id off n => (match hp id with
    | some (.cells cs _) => (match mapO ih (cs.drop off) with | some cs => some (.sl cs n .non) | none => none)
    | _ => none)
  | .fn f a b => (match mapO ih a with
    | some a => (match mapO ih b with | some b => some (.fn f a b) | none => none)
    | none => none)
  | .ifc t v => (match ih v with | some v => some (.ifc t v) | none => none)
  | .mm _ => none
  | v => some v) k
noncomputable def frzLK (hp : Nat → Option Blk) (k : Nat) (cs : List AV) : Option (List AV) := mapO (frzK hp k) cs
theorem mapO_cons (f c cs) : mapO f (c :: cs) = (match f c with
  | some c => (match mapO f cs with | some cs => some (c :: cs) | none => none)
  | none => none) := rfl
theorem mapO_frz (hp : Nat → Option Blk) (k : Nat) (h : ∀ v, frzK hp k v = frz hp k v) : ∀ cs, mapO (frzK hp k) cs = frzL hp k cs
  | [] => by simp only [frzL]; rfl
  | c :: cs => by
    rw [mapO_cons, mapO_frz hp k h cs, h c]
    simp only [frzL]
    cases frz hp k c <;> cases frzL hp k cs <;> rfl
theorem frzK_ok (hp : Nat → Option Blk) : ∀ (k : Nat) (v : AV), frzK hp k v = frz hp k v
  | 0, v => by simp only [frz]; rfl
  | k + 1, v => by
    have hl := mapO_frz hp k (frzK_ok hp k)
    have e : frzK hp (k + 1) v = (match v with
      | .agg cs => (match mapO (frzK hp k) cs with | some cs => some (.agg cs) | none => none)
      | .tup cs => (match mapO (frzK hp k) cs with | some cs => some (.tup cs) | none => none)
      | .sl cs n _ => some (.sl cs n .non)
      | .mp id off => (match hp id with
        | some (.cells cs _) => (match mapO (frzK hp k) (cs.drop off) with | some cs => some (.ptr cs) | none => none)
        | _ => none)
      | .ms id off n => (match hp id with
        | some (.cells cs _) => (match mapO (frzK hp k) (cs.drop off) with | some cs => some (.sl cs n .non) | none => none)
        | _ => none)
      | .fn f a b => (match mapO (frzK hp k) a with
        | some a => (match mapO (frzK hp k) b with | some b => some (.fn f a b) | none => none)
        | none => none)
      | .ifc t v => (match frzK hp k v with | some v => some (.ifc t v) | none => none)
      | .mm _ => none
      | v => some v) := rfl
    rw [e]
    simp only [hl, frzK_ok hp k]
    cases v with
    | agg cs => simp only [frz]; cases frzL hp k cs <;> rfl
    | tup cs => simp only [frz]; cases frzL hp k cs <;> rfl
    | mp id off =>
      simp only [frz]
      cases hp id with
      | none => rfl
      | some b =>
        cases b with
        | cells cs ro => simp only; cases frzL hp k (cs.drop off) <;> rfl
        | _ => rfl
    | ms id off n =>
      simp only [frz]
      cases hp id with
      | none => rfl
      | some b =>
        cases b with
        | cells cs ro => simp only; cases frzL hp k (cs.drop off) <;> rfl
        | _ => rfl
    | fn f a b =>
      simp only [frz]
      cases frzL hp k a <;> cases frzL hp k b <;> rfl
    | ifc t v => simp only [frz]; cases frz hp k v <;> rfl
    | _ => simp only [frz]
theorem frzLK_ok (hp : Nat → Option Blk) (k : Nat) (cs : List AV) : frzLK hp k cs = frzL hp k cs := mapO_frz hp k (frzK_ok hp k) cs
noncomputable def kBoxI (v : AV) (g : G) : Option (AV × G) :=
  if (cellsOf v).all one then vMapL .ptr g (frzLK (fun _ => none) depth (cellsOf v)) else none
noncomputable def kBsl (id : Nat) (imm : Bool) (n : Nat) (cs : Option (List AV)) (g : G) : Option (AV × G) := match cs with
  | none => none
  | some cs =>
    if imm then vMapL (fun cs => .sl cs n .rig) g (frzLK (fun _ => none) depth cs)
    else some (.ms id 0 n, ⟨upd g.hp id (some (.cells cs false)), g.nx⟩)
noncomputable def kSrc (al : Nat → Bool) (esz : Nat) (y : AV) (g : G) : Option (List AV × Nat) := match y with
  | .sl ds m _ => some (ds, m)
  | .ms b off m => match rd g al b with
    | some (.cells ds _) => match frzLK (fun _ => none) depth ((ds.drop off).take (m * esz)) with
      | some ds => some (ds, m)
      | none => none
    | _ => none
  | _ => none
noncomputable def kApp (al : Nat → Bool) (id esz bytes : Nat) (x y : AV) (g : G) : Option (AV × G) := match x with
  | .sl cs n t => match kSrc al esz y g with
    | none => none
    | some (ds, m) =>
      if (n + m) * bytes ≤ 2 ^ 46 ∧ n + m ≤ 2 ^ 62 ∧ cs.length = n * esz ∧ ds.length = m * esz then
        match t with
        | .non => none
        | .rig => if m = 0 then some (.sl cs n .rig, g) else some (.sl (cs ++ ds) (n + m) (.own id esz), ⟨upd g.hp id (some (.tok true)), g.nx⟩)
        | .own tk e => match rd g al tk with
          | some (.tok true) => if e = esz then some (.sl (cs ++ ds) (n + m) (.own id esz), ⟨upd (upd g.hp tk (some (.tok false))) id (some (.tok true)), g.nx⟩) else none
          | _ => none
      else none
  | _ => none
theorem kSrc_ok (al esz y g) : kSrc al esz y g = vSrc al esz y g := by unfold kSrc vSrc; simp only [frzLK_ok]; rfl
theorem kApp_ok (al id esz bytes x y g) : kApp al id esz bytes x y g = vApp al id esz bytes x y g := by
  unfold kApp vApp
  simp only [kSrc_ok]
  rfl
theorem kBsl_ok (id imm n cs g) : kBsl id imm n cs g = vBsl id imm n cs g := by unfold kBsl vBsl; simp only [frzLK_ok]; first | done | rfl
theorem kBoxI_ok (v g) : kBoxI v g = vBoxI v g := by unfold kBoxI vBoxI; simp only [frzLK_ok]; first | done | rfl
noncomputable def kCall (call : CS) (al : Nat → Bool) (id : Nat) (m : Mode) (f : AV) (args : List AV) (g : G) : Option (AV × G) := match f with
  | .fn fid fst caps => match m with
    | .raw => call fid (fst ++ args ++ caps) g
    | .pure => match frzLK (rd g al) depth (fst ++ args ++ caps) with
      | none => none
      | some bs => match call fid bs ⟨fun _ => none, 0⟩ with
        | none => none
        | some (v, g') => match frzK g'.hp depth v with
          | none => none
          | some v => if flat v || ((fst ++ args ++ caps).flatMap (vis (rd g al) depth)).isEmpty then some (v, g) else none
    | .lock => match frzLK (rd g al) depth (fst ++ args ++ caps) with
      | none => none
      | some bs => match call fid bs ⟨fun _ => none, 0⟩ with
        | none => none
        | some (v, g') => match frzK g'.hp depth v with
          | none => none
          | some v => some (v, ⟨lock g.hp ((fst ++ args ++ caps).flatMap (vis (rd g al) depth)), g.nx⟩)
    | .thaw => match frzLK (rd g al) depth (fst ++ args ++ caps) with
      | none => none
      | some bs => match call fid bs ⟨fun _ => none, 0⟩ with
        | some (.mp b 0, g') => match g'.hp b with
          | some (.cells cs false) => match frzLK g'.hp depth cs with
            | some cs' =>
              if ((fst ++ args ++ caps).flatMap (vis (rd g al) depth)).isEmpty && !(cs.flatMap (vis g'.hp depth)).contains b then some (.mp id 0, ⟨upd g.hp id (some (.cells cs' false)), g.nx⟩) else none
            | none => none
          | _ => none
        | _ => none
    | .melt => match frzLK (rd g al) depth (fst ++ args ++ caps) with
      | none => none
      | some bs => match call fid bs ⟨fun _ => none, 0⟩ with
        | some (.ms b 0 n, g') => match g'.hp b with
          | some (.cells cs false) => match frzLK g'.hp depth cs with
            | some cs' =>
              if ((fst ++ args ++ caps).flatMap (vis (rd g al) depth)).isEmpty && !(cs.flatMap (vis g'.hp depth)).contains b then some (.ms id 0 n, ⟨upd g.hp id (some (.cells cs' false)), g.nx⟩) else none
            | none => none
          | _ => none
        | _ => none
  | _ => none
theorem kCall_ok (call al id m f args g) : kCall call al id m f args g = vCall call al id m f args g := by
  unfold kCall vCall
  simp only [frzLK_ok, frzK_ok]
  rfl
abbrev Orc := Nat → List AV → Option AV
noncomputable def kev (b : Env) (t : ET) : Env := fun n => match t.get n with | some v => v | none => b n
noncomputable def putO {α : Type} (d : Option Nat) (v : AV) (t : ET) (k : ET → α) : α := match d with
  | some d => ET.putK v (d + 1) t d k
  | none => k t
theorem putO_ok {α : Type} (b : Env) (d : Option Nat) (v : AV) (t : ET) (k : ET → α) : ∃ t', putO d v t k = k t' ∧ kev b t' = put (kev b t) d v := by
  cases d with
  | none => exact ⟨t, rfl, rfl⟩
  | some d =>
    obtain ⟨t', h1, h2⟩ := ET.putK_ok v (d + 1) t d k (by omega)
    refine ⟨t', h1, ?_⟩
    funext j
    simp only [kev, put, upd, h2]
    by_cases e : j = d
    · simp only [if_pos e]
    · simp only [if_neg e]
noncomputable def ltI (a b : Int) : Bool := Int.rec (motive := fun _ => Bool) (fun m => Int.rec (motive := fun _ => Bool) (fun n => Nat.ble (Nat.add m 1) n) (fun _ => false) b) (fun m => Int.rec (motive := fun _ => Bool) (fun _ => true) (fun n => Nat.ble (Nat.add n 1) m) b) a
theorem ble_dec (m n : Nat) : Nat.ble m n = decide (m ≤ n) := by
  cases h : Nat.ble m n with
  | true => exact (decide_eq_true (Nat.le_of_ble_eq_true h)).symm
  | false => exact (decide_eq_false (fun hh => by rw [Nat.ble_eq_true_of_le hh] at h; cases h)).symm
theorem ltI_ok (a b : Int) : ltI a b = decide (a < b) := by
  cases a with
  | ofNat m =>
    cases b with
    | ofNat n =>
      show Nat.ble (m + 1) n = _
      rw [ble_dec, decide_eq_decide]
      show m + 1 ≤ n ↔ (m : Int) < (n : Int)
      omega
    | negSucc n =>
      show false = _
      refine (decide_eq_false ?_).symm
      show ¬ (m : Int) < Int.negSucc n
      omega
  | negSucc m =>
    cases b with
    | ofNat n =>
      show true = _
      refine (decide_eq_true ?_).symm
      show Int.negSucc m < (n : Int)
      omega
    | negSucc n =>
      show Nat.ble (n + 1) m = _
      rw [ble_dec, decide_eq_decide]
      omega
noncomputable def eqI (a b : Int) : Bool := Int.rec (motive := fun _ => Bool) (fun m => Int.rec (motive := fun _ => Bool) (fun n => Nat.beq m n) (fun _ => false) b) (fun m => Int.rec (motive := fun _ => Bool) (fun _ => false) (fun n => Nat.beq m n) b) a
theorem beq_dec (m n : Nat) : Nat.beq m n = decide (m = n) := by
  cases h : Nat.beq m n with
  | true => exact (decide_eq_true (Nat.eq_of_beq_eq_true h)).symm
  | false => exact (decide_eq_false (Nat.ne_of_beq_eq_false h)).symm
theorem eqI_ok (a b : Int) : eqI a b = (a == b) := by
  have e : (a == b) = decide (a = b) := by rw [Bool.eq_iff_iff]; simp
  rw [e]
  cases a with
  | ofNat m =>
    cases b with
    | ofNat n =>
      show Nat.beq m n = _
      rw [beq_dec, decide_eq_decide]
      show m = n ↔ (m : Int) = (n : Int)
      omega
    | negSucc n => exact (decide_eq_false (fun h => by cases h)).symm
  | negSucc m =>
    cases b with
    | ofNat n => exact (decide_eq_false (fun h => by cases h)).symm
    | negSucc n =>
      show Nat.beq m n = _
      rw [beq_dec, decide_eq_decide]
      omega
noncomputable def wrI (n : Int) : Int := Int.rec (motive := fun _ => Int) (fun m => Bool.rec (motive := fun _ => Int) (IntKind.i64.wrap (.ofNat m)) (.ofNat m) (Nat.ble m 9223372036854775807)) (fun m => Bool.rec (motive := fun _ => Int) (IntKind.i64.wrap (.negSucc m)) (.negSucc m) (Nat.ble m 9223372036854775807)) n
theorem wrI_in {x : Int} (h : -9223372036854775808 ≤ x) (h2 : x ≤ 9223372036854775807) : IntKind.i64.wrap x = x := by
  simp [IntKind.wrap, IntKind.bits, IntKind.signed]
  omega
theorem wrI_ok (n : Int) : wrI n = IntKind.i64.wrap n := by
  cases n with
  | ofNat m =>
    show Bool.rec (motive := fun _ => Int) (IntKind.i64.wrap (.ofNat m)) (.ofNat m) (Nat.ble m 9223372036854775807) = _
    rw [ble_dec]
    by_cases h : m ≤ 9223372036854775807
    · rw [decide_eq_true h]
      exact (wrI_in (x := (m : Int)) (by omega) (by omega)).symm
    · rw [decide_eq_false h]
  | negSucc m =>
    show Bool.rec (motive := fun _ => Int) (IntKind.i64.wrap (.negSucc m)) (.negSucc m) (Nat.ble m 9223372036854775807) = _
    rw [ble_dec]
    by_cases h : m ≤ 9223372036854775807
    · rw [decide_eq_true h]
      exact (wrI_in (x := Int.negSucc m) (by omega) (by omega)).symm
    · rw [decide_eq_false h]
noncomputable def addI (a b : Int) : Int := Int.rec (motive := fun _ => Int) (fun m => Int.rec (motive := fun _ => Int) (fun n => .ofNat (Nat.add m n)) (fun n => Int.add (.ofNat m) (.negSucc n)) b) (fun m => Int.add (.negSucc m) b) a
theorem addI_ok (a b : Int) : addI a b = a + b := by cases a <;> cases b <;> rfl
noncomputable def kII (op : BinOp) : Int → Int → Option AV := BinOp.casesOn (motive := fun _ => Int → Int → Option AV) op
  (fun a b => some (.i .i64 (wrI (addI a b)))) (fun a b => some (.i .i64 (wrI (Int.sub a b)))) (ibin .mul .i64) (ibin .quo .i64) (ibin .rem .i64) (ibin .and .i64) (ibin .or .i64) (ibin .xor .i64)
  (ishift .shl .i64) (ishift .shr .i64) (ibin .andNot .i64) (fun a b => some (.b (eqI a b))) (fun a b => some (.b (!eqI a b))) (fun a b => some (.b (ltI a b))) (fun a b => some (.b (!ltI b a))) (fun a b => some (.b (ltI b a))) (fun a b => some (.b (!ltI a b)))
theorem kII_ok (op : BinOp) (a b : Int) : kII op a b = abin op (.i .i64 a) (.i .i64 b) := by
  cases op
  · show some (AV.i .i64 (wrI (addI a b))) = _
    rw [wrI_ok, addI_ok]; simp [abin, ibin]
  · show some (AV.i .i64 (wrI (a - b))) = _
    rw [wrI_ok]; simp [abin, ibin]
  · show ibin .mul .i64 a b = _; simp [abin]
  · show ibin .quo .i64 a b = _; simp [abin]
  · show ibin .rem .i64 a b = _; simp [abin]
  · show ibin .and .i64 a b = _; simp [abin]
  · show ibin .or .i64 a b = _; simp [abin]
  · show ibin .xor .i64 a b = _; simp [abin]
  · show ishift .shl .i64 a b = _; simp [abin]
  · show ishift .shr .i64 a b = _; simp [abin]
  · show ibin .andNot .i64 a b = _; simp [abin]
  · show some (AV.b (eqI a b)) = _
    rw [eqI_ok]; simp [abin, ibin]
  · show some (AV.b (!eqI a b)) = _
    rw [eqI_ok]; simp only [abin, ibin, if_true]; rfl
  · show some (AV.b (ltI a b)) = _
    rw [ltI_ok]; simp [abin, ibin]
  · show some (AV.b (!ltI b a)) = _
    rw [ltI_ok]; simp [abin, ibin]
    rw [← decide_not, decide_eq_decide]; omega
  · show some (AV.b (ltI b a)) = _
    rw [ltI_ok]; simp [abin, ibin]
  · show some (AV.b (!ltI a b)) = _
    rw [ltI_ok]; simp [abin, ibin]
    rw [← decide_not, decide_eq_decide]; omega
noncomputable def kBin (op : BinOp) (x y : AV) : Option AV := match x with
  | .i k a => (match k with
    | .i64 => (match y with
      | .i k' b => (match k' with
        | .i64 => kII op a b
        | k' => abin op (.i .i64 a) (.i k' b))
      | y => abin op (.i .i64 a) y)
    | k => abin op (.i k a) y)
  | x => abin op x y
theorem kBin_ok (op : BinOp) (x y : AV) : kBin op x y = abin op x y := by
  cases x with
  | i k a =>
    cases k <;> first
      | rfl
      | (cases y with
        | i k' b => cases k' <;> first | rfl | exact kII_ok op a b
        | _ => rfl)
  | _ => rfl
noncomputable def frcR (r : Option (AV × G)) : Option (AV × G) := match r with
  | some (v, g) => frcV v fun v => some (v, g)
  | none => none
theorem frcR_ok (r : Option (AV × G)) : frcR r = r := by
  cases r with
  | none => rfl
  | some p =>
    obtain ⟨v, g⟩ := p
    show frcV v (fun v => some (v, g)) = _
    rw [frcV_ok]
abbrev KO := Orc → CS → (Nat → Bool) → Nat → Nat → Env → G → Option (AV × G)
noncomputable def ko_mv (x : Opd) : KO := fun _ _ _ _ _ e g => some (x.ev e, g)
noncomputable def ko_pick (c a b : Opd) : KO := fun _ _ _ _ _ e g => vPick (c.ev e) (a.ev e) (b.ev e) g
noncomputable def ko_new (zero : List AV) : KO := fun _ _ _ _ id _ g => some (.mp id 0, ⟨upd g.hp id (some (.cells zero false)), g.nx⟩)
noncomputable def ko_box (x : Opd) : KO := fun _ _ _ _ id e g => vBox id (x.ev e) g
noncomputable def ko_boxI (x : Opd) : KO := fun _ _ _ _ _ e g => kBoxI (x.ev e) g
noncomputable def ko_build (zero : List AV) (parts : List (Nat × Nat × Opd)) : KO := fun _ _ _ _ _ e g => frcR (vMapL .agg g (fill e zero parts))
noncomputable def ko_bsl (imm : Bool) (n : Nat) (zero : List AV) (parts : List (Nat × Nat × Opd)) : KO := fun _ _ _ _ id e g => frcR (kBsl id imm n (fill e zero parts) g)
noncomputable def ko_ld (agg : Option Nat) (x : Opd) : KO := fun _ _ al _ _ e g => vLd al agg (x.ev e) g
noncomputable def ko_st (n : Nat) (a x : Opd) : KO := fun _ _ al _ _ e g => vSt al n (a.ev e) (x.ev e) g
noncomputable def ko_stL (n : Nat) (a x : Opd) : KO := fun _ _ al lo _ e g => vSt (fun i => decide (lo ≤ i) && al i) n (a.ev e) (x.ev e) g
noncomputable def ko_ldF (agg : Option Nat) (x : Opd) : KO := fun _ _ al _ _ e g => vLdF al agg (x.ev e) g
noncomputable def ko_stW (n : Nat) (a x : Opd) : KO := fun _ _ al _ _ e g => vSt al n (a.ev e) (x.ev e) g
noncomputable def ko_ldQ (agg : Option Nat) (x : Opd) (t : Nat) : KO := fun _ _ al _ _ e g => vLdQ al agg (x.ev e) (e t) g
noncomputable def ko_stN (n : Nat) (a x : Opd) (ts : List Nat) : KO := fun _ _ al _ _ e g => vStN al n (a.ev e) (x.ev e) (ts.map e) g
noncomputable def ko_nilck (x : Opd) : KO := fun _ _ _ _ _ e g => vNil (x.ev e) g
noncomputable def ko_bin (op : BinOp) (x y : Opd) : KO := fun _ _ _ _ _ e g => frcR (vMap g (kBin op (x.ev e) (y.ev e)))
noncomputable def ko_eqb (neg : Bool) (x y : Opd) : KO := fun _ _ _ _ _ e g => frcR (vMap g (negb neg (aeqb (x.ev e) (y.ev e))))
noncomputable def ko_eqs (neg : Bool) (x : Opd) : KO := fun _ _ _ _ _ e g => frcR (vMap g (negb neg (aeqs (x.ev e))))
noncomputable def ko_eqn (neg : Bool) (x y : Opd) : KO := fun _ _ _ _ _ e g => frcR (vMap g (negb neg (aeqn (x.ev e) (y.ev e))))
noncomputable def ko_eqa (neg : Bool) (ks : List Nat) (x y : Opd) : KO := fun _ _ _ _ _ e g => frcR (vMap g (negb neg (aeqa ks (x.ev e) (y.ev e))))
noncomputable def ko_un (op : UnOp) (x : Opd) : KO := fun _ _ _ _ _ e g => frcR (vMap g (aun op (x.ev e)))
noncomputable def ko_conv (k : IntKind) (x : Opd) : KO := fun _ _ _ _ _ e g => frcR (vConv k (x.ev e) g)
noncomputable def ko_mkfn (f : Nat) (fst caps : List Opd) : KO := fun _ _ _ _ _ e g => some (.fn f (fst.map (·.ev e)) (caps.map (·.ev e)), g)
noncomputable def ko_mkmap : KO := fun _ _ _ _ id _ g => some (.mm id, ⟨upd g.hp id (some (.map [])), g.nx⟩)
noncomputable def ko_mput (m k v : Opd) : KO := fun _ _ al _ _ e g => vMput al (m.ev e) (k.ev e) (v.ev e) g
noncomputable def ko_mget (m k : Opd) : KO := fun _ _ al _ _ e g => vMget al (m.ev e) (k.ev e) g
noncomputable def ko_mksl (zero : List AV) (esz bytes : Nat) (len cap : Opd) : KO := fun _ _ _ _ id e g => frcR (vMksl id zero esz bytes (len.ev e) (cap.ev e) g)
noncomputable def ko_slice (esz : Nat) (x : Opd) (lo hi mx : Option Opd) : KO := fun _ _ _ _ _ e g => frcR (vSlice esz (x.ev e) (evo e lo) (evo e hi) (evo e mx) g)
noncomputable def ko_fa (off : Nat) (x : Opd) : KO := fun _ _ _ _ _ e g => vFa off (x.ev e) g
noncomputable def ko_fld (off : Nat) (agg : Option Nat) (x : Opd) : KO := fun _ _ _ _ _ e g => vFld off agg (x.ev e) g
noncomputable def ko_ia (esz : Nat) (x i : Opd) : KO := fun _ _ _ _ _ e g => vIa esz (x.ev e) (i.ev e) g
noncomputable def ko_iaa (len esz : Nat) (x i : Opd) : KO := fun _ _ _ _ _ e g => vIaa len esz (x.ev e) (i.ev e) g
noncomputable def ko_idx (len esz : Nat) (agg : Option Nat) (x i : Opd) : KO := fun _ _ _ _ _ e g => vIdx len esz agg (x.ev e) (i.ev e) g
noncomputable def ko_sidx (x i : Opd) : KO := fun _ _ _ _ _ e g => frcR (vSidx (x.ev e) (i.ev e) g)
noncomputable def ko_ext (i : Nat) (x : Opd) : KO := fun _ _ _ _ _ e g => vExt i (x.ev e) g
noncomputable def ko_len (x : Opd) : KO := fun _ _ _ _ _ e g => vLen (x.ev e) g
noncomputable def ko_slen (x : Opd) : KO := fun _ _ _ _ _ e g => frcR (vSlen (x.ev e) g)
noncomputable def ko_sslice (x : Opd) (lo hi : Option Opd) : KO := fun _ _ _ _ _ e g => frcR (vSslice (x.ev e) (evo e lo) (evo e hi) g)
noncomputable def ko_mx (x y : Opd) : KO := fun _ _ _ _ _ e g => frcR (vMx (x.ev e) (y.ev e) g)
noncomputable def ko_mn (x y : Opd) : KO := fun _ _ _ _ _ e g => frcR (vMn (x.ev e) (y.ev e) g)
noncomputable def ko_app (esz bytes : Nat) (x y : Opd) : KO := fun _ _ al _ id e g => frcR (kApp al id esz bytes (x.ev e) (y.ev e) g)
noncomputable def ko_appM (esz bytes : Nat) (x y : Opd) : KO := fun _ _ al _ id e g => frcR (vAppM al id esz bytes (x.ev e) (y.ev e) g)
noncomputable def ko_clr (esz : Nat) (zero : List AV) (x : Opd) : KO := fun _ _ al _ _ e g => frcR (vClr al esz zero (x.ev e) g)
noncomputable def ko_cutM (esz : Nat) (x hi : Opd) : KO := fun _ _ al _ id e g => frcR (vCutM al id esz (x.ev e) (hi.ev e) g)
noncomputable def ko_bad : KO := fun _ _ _ _ _ _ _ => none
noncomputable def ko_pure (f : Opd) (args : List Opd) : KO := fun orc call al _ id e g => match f.ev e with
  | .fn fid fst caps => (match frzLK (rd g al) depth (fst ++ args.map (·.ev e) ++ caps) with
    | some bs => (match orc fid bs with
      | some v => frcV v fun v => if flat v || ((fst ++ args.map (·.ev e) ++ caps).flatMap (vis (rd g al) depth)).isEmpty then some (v, g) else none
      | none => frcR (kCall call al id .pure (f.ev e) (args.map (·.ev e)) g))
    | none => none)
  | _ => none
noncomputable def ko_call (m : Mode) (f : Opd) (args : List Opd) : KO := Mode.casesOn (motive := fun _ => KO) m (ko_pure f args)
  (fun _ call al _ id e g => frcR (kCall call al id .lock (f.ev e) (args.map (·.ev e)) g))
  (fun _ call al _ id e g => frcR (kCall call al id .thaw (f.ev e) (args.map (·.ev e)) g))
  (fun _ call al _ id e g => frcR (kCall call al id .raw (f.ev e) (args.map (·.ev e)) g))
  (fun _ call al _ id e g => frcR (kCall call al id .melt (f.ev e) (args.map (·.ev e)) g))
section
variable (orc : Orc)
noncomputable def opK (call : CS) (al : Nat → Bool) (lo id : Nat) (op : AOp) (e : Env) (g : G) : Option (AV × G) :=
  AOp.casesOn (motive := fun _ => KO) op ko_mv ko_pick ko_new ko_box ko_boxI ko_build ko_bsl ko_ld ko_ldF ko_ldQ ko_st ko_stL ko_stW ko_stN ko_nilck ko_bin ko_eqb ko_eqn ko_eqs ko_eqa ko_un ko_conv ko_mkfn ko_mkmap ko_mput ko_mget ko_mksl ko_slice ko_fa ko_fld ko_ia ko_iaa ko_idx ko_sidx ko_ext ko_len ko_slen ko_sslice ko_mx ko_mn ko_app ko_appM ko_cutM ko_clr ko_bad ko_call orc call al lo id e g
noncomputable def regK (call : CS) (b : Env) (draw : Bool) (base : Nat) (ops : List AOper) : Nat → ET → G → Option (ET × G) :=
  List.rec (motive := fun _ => Nat → ET → G → Option (ET × G)) (fun _ t g => some (t, g)) (fun o _ ih j t g =>
    match wanted (kev b t) o.grd with
    | true => match opK orc call (allow draw base o.pre) base (base + j) o.op (kev b t) g with
      | some (v, g) => putO o.dst v t fun t => ih (j + 1) t g
      | none => none
    | false => putO o.dst .undef t fun t => ih (j + 1) t g) ops
noncomputable def iterK (f : ET → G → Option (Out × ET × G)) (k : Nat) : ET → G → Option (Out × ET × G) :=
  Nat.rec (motive := fun _ => ET → G → Option (Out × ET × G)) (fun _ _ => none) (fun _ ih t g => match f t g with
    | some (.nrm, t, g) => ih t g
    | r => r) k
noncomputable def codeK (call : CS) (b : Env) (k : Nat) (c : ACode) : ET → G → Option (Out × ET × G) :=
  ACode.rec (motive := fun _ => ET → G → Option (Out × ET × G))
    (fun t g => some (.nrm, t, g))
    (fun draw ops t g => frcN g.nx fun base => frcN (base + ops.length) fun nx => match regK orc call b draw base ops 0 t ⟨g.hp, nx⟩ with
      | some (t, g) => some (.nrm, t, g)
      | none => none)
    (fun _ _ fa fb t g => match fa t g with
      | some (.nrm, t, g) => fb t g
      | r => r)
    (fun c _ _ ft ff t g => match c.ev (kev b t) with
      | .b x => Bool.rec (motive := fun _ => Option (Out × ET × G)) (ff t g) (ft t g) x
      | _ => none)
    (fun id _ fc t g => match fc t g with
      | some (.ext n, t, g) => some (Bool.rec (motive := fun _ => Out) (.ext n) .nrm (Nat.beq n id), t, g)
      | r => r)
    (fun n _ fc t g => fc t ⟨lock g.hp (vis g.hp depth (kev b t n)), g.nx⟩)
    (fun n _ fc t g => fc t ⟨lock g.hp (ids1 (kev b t n)), g.nx⟩)
    (fun n _ fc t g => match frzK g.hp depth (kev b t n) with
      | some v => ET.putK v (n + 1) t n fun t' => fc t' ⟨lock g.hp (vis g.hp depth (kev b t n)), g.nx⟩
      | none => none)
    (fun _ _ _ _ => none)
    (fun _ fc t g => fc t g)
    (fun t g => some (.nrm, t, g))
    (fun _ fc t g => iterK fc k t g)
    (fun id t g => some (.ext id, t, g))
    (fun t g => some (.ret, t, g)) c
variable (F : Funs)
noncomputable def callK (k : Nat) : CS :=
  Nat.rec (motive := fun _ => CS) (fun _ _ _ => none) (fun k ih f args g => match F f with
    | none => none
    | some fn => match codeK orc ih (argEnv args) k fn.body .leaf g with
      | some (.nrm, t, g) => (resE fn.res (kev (argEnv args) t) g).map (·, g)
      | some (.ret, t, g) => (resE fn.res (kev (argEnv args) t) g).map (·, g)
      | _ => none) k
end
def OrcOk (F : Funs) (orc : Orc) : Prop := ∀ f bs v, orc f bs = some v → pureS F f bs = some v
section
variable {F : Funs} {orc : Orc} (ho : OrcOk F orc)
include ho
theorem opK_ok {call : CS} (hc : CLe call (callS F)) {al lo id op e g r} (h : opK orc call al lo id op e g = some r) : opE (callS F) al lo id op e g = some r := by
  cases op with
  | boxI x =>
    have h : kBoxI (x.ev e) g = some r := h
    rw [kBoxI_ok] at h; exact h
  | build z ps =>
    have h : frcR (vMapL .agg g (fill e z ps)) = some r := h
    rw [frcR_ok] at h; exact h
  | bsl imm n z ps =>
    have h : frcR (kBsl id imm n (fill e z ps) g) = some r := h
    rw [frcR_ok, kBsl_ok] at h; exact h
  | bin o x y =>
    have h : frcR (vMap g (kBin o (x.ev e) (y.ev e))) = some r := h
    rw [frcR_ok, kBin_ok] at h; exact h
  | eqb neg x y =>
    have h : frcR (vMap g (negb neg (aeqb (x.ev e) (y.ev e)))) = some r := h
    rw [frcR_ok] at h; exact h
  | eqn neg x y =>
    have h : frcR (vMap g (negb neg (aeqn (x.ev e) (y.ev e)))) = some r := h
    rw [frcR_ok] at h; exact h
  | eqs neg x =>
    have h : frcR (vMap g (negb neg (aeqs (x.ev e)))) = some r := h
    rw [frcR_ok] at h; exact h
  | eqa neg ks x y =>
    have h : frcR (vMap g (negb neg (aeqa ks (x.ev e) (y.ev e)))) = some r := h
    rw [frcR_ok] at h; exact h
  | un o x =>
    have h : frcR (vMap g (aun o (x.ev e))) = some r := h
    rw [frcR_ok] at h; exact h
  | conv k x =>
    have h : frcR (vConv k (x.ev e) g) = some r := h
    rw [frcR_ok] at h; exact h
  | mksl z esz bytes len cap =>
    have h : frcR (vMksl id z esz bytes (len.ev e) (cap.ev e) g) = some r := h
    rw [frcR_ok] at h; exact h
  | slice esz x lo' hi mx =>
    have h : frcR (vSlice esz (x.ev e) (evo e lo') (evo e hi) (evo e mx) g) = some r := h
    rw [frcR_ok] at h; exact h
  | sidx x i =>
    have h : frcR (vSidx (x.ev e) (i.ev e) g) = some r := h
    rw [frcR_ok] at h; exact h
  | slen x =>
    have h : frcR (vSlen (x.ev e) g) = some r := h
    rw [frcR_ok] at h; exact h
  | sslice x lo' hi =>
    have h : frcR (vSslice (x.ev e) (evo e lo') (evo e hi) g) = some r := h
    rw [frcR_ok] at h; exact h
  | mx x y =>
    have h : frcR (vMx (x.ev e) (y.ev e) g) = some r := h
    rw [frcR_ok] at h; exact h
  | mn x y =>
    have h : frcR (vMn (x.ev e) (y.ev e) g) = some r := h
    rw [frcR_ok] at h; exact h
  | app esz bytes x y =>
    have h : frcR (kApp al id esz bytes (x.ev e) (y.ev e) g) = some r := h
    rw [frcR_ok, kApp_ok] at h; exact h
  | appM esz bytes x y =>
    have h : frcR (vAppM al id esz bytes (x.ev e) (y.ev e) g) = some r := h
    rw [frcR_ok] at h; exact h
  | clr esz z x =>
    have h : frcR (vClr al esz z (x.ev e) g) = some r := h
    rw [frcR_ok] at h; exact h
  | cutM esz x hi =>
    have h : frcR (vCutM al id esz (x.ev e) (hi.ev e) g) = some r := h
    rw [frcR_ok] at h; exact h
  | bad => cases h
  | call m f args =>
    cases m with
    | raw =>
      have h : frcR (kCall call al id .raw (f.ev e) (args.map (·.ev e)) g) = some r := h
      rw [frcR_ok, kCall_ok] at h
      exact opE_mono (op := .call .raw f args) hc h
    | lock =>
      have h : frcR (kCall call al id .lock (f.ev e) (args.map (·.ev e)) g) = some r := h
      rw [frcR_ok, kCall_ok] at h
      exact opE_mono (op := .call .lock f args) hc h
    | thaw =>
      have h : frcR (kCall call al id .thaw (f.ev e) (args.map (·.ev e)) g) = some r := h
      rw [frcR_ok, kCall_ok] at h
      exact opE_mono (op := .call .thaw f args) hc h
    | melt =>
      have h : frcR (kCall call al id .melt (f.ev e) (args.map (·.ev e)) g) = some r := h
      rw [frcR_ok, kCall_ok] at h
      exact opE_mono (op := .call .melt f args) hc h
    | pure =>
      have h : ko_pure f args orc call al lo id e g = some r := h
      unfold ko_pure at h
      split at h
      · rename_i fid fst caps hf
        split at h
        · rename_i bs hb
          split at h
          · rename_i v hv
            rw [frcV_ok] at h
            split at h
            · rename_i hfl
              cases h
              show vPure F al (f.ev e) (args.map (·.ev e)) g = _
              rw [hf]
              rw [frzLK_ok] at hb
              exact vPure_ok hb (ho _ _ _ hv) hfl
            · cases h
          · rw [frcR_ok, kCall_ok] at h
            exact opE_mono (op := .call .pure f args) hc h
        · cases h
      · cases h
  | _ => exact h
theorem regK_ok {call : CS} (hc : CLe call (callS F)) {b : Env} {draw : Bool} {base : Nat} : ∀ {ops : List AOper} {j : Nat} {t : ET} {g : G} {t' g'}, regK orc call b draw base ops j t g = some (t', g') → regE (callS F) draw base j ops (kev b t) g = some (kev b t', g')
  | [], j, t, g, t', g', h => by cases h; rfl
  | o :: os, j, t, g, t', g', h => by
    have h : (match wanted (kev b t) o.grd with
      | true => match opK orc call (allow draw base o.pre) base (base + j) o.op (kev b t) g with
        | some (v, g) => putO o.dst v t fun t => regK orc call b draw base os (j + 1) t g
        | none => none
      | false => putO o.dst .undef t fun t => regK orc call b draw base os (j + 1) t g) = some (t', g') := h
    simp only [regE]
    cases hw : wanted (kev b t) o.grd with
    | true =>
      rw [hw] at h
      simp only [if_true]
      cases hop : opK orc call (allow draw base o.pre) base (base + j) o.op (kev b t) g with
      | none => rw [hop] at h; cases h
      | some r =>
        obtain ⟨v, g1⟩ := r
        rw [hop] at h
        simp only at h
        rw [opK_ok ho hc hop]
        obtain ⟨t1, e1, e2⟩ := putO_ok b o.dst v t fun t => regK orc call b draw base os (j + 1) t g1
        rw [e1] at h
        simp only
        rw [← e2]
        exact regK_ok hc h
    | false =>
      rw [hw] at h
      simp only [Bool.false_eq_true, if_false]
      obtain ⟨t1, e1, e2⟩ := putO_ok b o.dst .undef t fun t => regK orc call b draw base os (j + 1) t g
      simp only [e1] at h
      rw [← e2]
      exact regK_ok hc h
theorem codeK_ok {call : CS} (hc : CLe call (callS F)) {b : Env} {k : Nat} : ∀ {c : ACode} {t : ET} {g : G} {o t' g'}, codeK orc call b k c t g = some (o, t', g') → codeS F c (kev b t) g = some (o, kev b t', g') := by
  intro c
  induction c with
  | skip => intro t g o t' g' h; cases h; exact codeS_skip F _ _
  | lab => intro t g o t' g' h; cases h; exact codeS_lab F _ _
  | ext id => intro t g o t' g' h; cases h; exact codeS_ext F _ _ _
  | ret => intro t g o t' g' h; cases h; exact codeS_ret F _ _
  | scp c ih => intro t g o t' g' h; rw [codeS_scp]; exact ih h
  | lck n c ih => intro t g o t' g' h; rw [codeS_lck]; exact ih h
  | lckS n c ih => intro t g o t' g' h; rw [codeS_lckS]; exact ih h
  | tmp c ih =>
    intro t g o t' g' h
    have h : (none : Option (Out × ET × G)) = some (o, t', g') := h
    cases h
  | imm n c ih =>
    intro t g o t' g' h
    have h : (match frzK g.hp depth (kev b t n) with
      | some v => ET.putK v (n + 1) t n fun t' => codeK orc call b k c t' ⟨lock g.hp (vis g.hp depth (kev b t n)), g.nx⟩
      | none => none) = some (o, t', g') := h
    rw [frzK_ok] at h
    rw [codeS_imm]
    cases hf : frz g.hp depth (kev b t n) with
    | none => rw [hf] at h; cases h
    | some v =>
      rw [hf] at h
      obtain ⟨t1, e1, e2⟩ := putO_ok b (some n) v t fun t' => codeK orc call b k c t' ⟨lock g.hp (vis g.hp depth (kev b t n)), g.nx⟩
      have e1' : ET.putK v (n + 1) t n (fun t' => codeK orc call b k c t' ⟨lock g.hp (vis g.hp depth (kev b t n)), g.nx⟩) = _ := e1
      simp only [e1'] at h
      have e3 : upd (kev b t) n v = kev b t1 := e2.symm
      simp only [e3]
      exact ih h
  | reg draw ops =>
    intro t g o t' g' h
    have h : (frcN g.nx fun base => frcN (base + ops.length) fun nx => match regK orc call b draw base ops 0 t ⟨g.hp, nx⟩ with
      | some (t, g) => some (Out.nrm, t, g)
      | none => none) = some (o, t', g') := h
    simp only [frcN_ok] at h
    rw [codeS_reg]
    cases hr : regK orc call b draw g.nx ops 0 t ⟨g.hp, g.nx + ops.length⟩ with
    | none => rw [hr] at h; cases h
    | some r =>
      obtain ⟨t1, g1⟩ := r
      rw [hr] at h
      cases h
      rw [regK_ok ho hc hr]
  | seq x y ihx ihy =>
    intro t g o t' g' h
    have h : (match codeK orc call b k x t g with
      | some (.nrm, t, g) => codeK orc call b k y t g
      | r => r) = some (o, t', g') := h
    rw [codeS_seq]
    cases hx : codeK orc call b k x t g with
    | none => rw [hx] at h; cases h
    | some r =>
      obtain ⟨o1, t1, g1⟩ := r
      rw [hx] at h
      rw [ihx hx]
      cases o1 with
      | nrm => exact ihy h
      | ext n => cases h; rfl
      | ret => cases h; rfl
  | cond x y z ihy ihz =>
    intro t g o t' g' h
    have h : (match x.ev (kev b t) with
      | .b w => Bool.rec (motive := fun _ => Option (Out × ET × G)) (codeK orc call b k z t g) (codeK orc call b k y t g) w
      | _ => none) = some (o, t', g') := h
    rw [codeS_cond]
    generalize x.ev (kev b t) = v at h ⊢
    cases v with
    | b w =>
      cases w with
      | true => exact ihy h
      | false => exact ihz h
    | _ => cases h
  | blk id c ih =>
    intro t g o t' g' h
    have h : (match codeK orc call b k c t g with
      | some (.ext n, t, g) => some (Bool.rec (motive := fun _ => Out) (.ext n) .nrm (Nat.beq n id), t, g)
      | r => r) = some (o, t', g') := h
    rw [codeS_blk]
    cases hx : codeK orc call b k c t g with
    | none => rw [hx] at h; cases h
    | some r =>
      obtain ⟨o1, t1, g1⟩ := r
      rw [hx] at h
      rw [ih hx]
      cases o1 with
      | nrm => cases h; rfl
      | ret => cases h; rfl
      | ext n =>
        simp only at h ⊢
        cases hb : Nat.beq n id with
        | true => rw [hb] at h; cases h; rw [if_pos (Nat.eq_of_beq_eq_true hb)]
        | false => rw [hb] at h; cases h; rw [if_neg (Nat.ne_of_beq_eq_false hb)]
  | loop c ih =>
    intro t g o t' g' h
    have key : ∀ (j : Nat) (t : ET) (g : G), iterK (codeK orc call b k c) j t g = some (o, t', g') → codeS F (.loop c) (kev b t) g = some (o, kev b t', g') := by
      intro j
      induction j with
      | zero => intro t g h; cases h
      | succ j ihj =>
        intro t g h
        have h : (match codeK orc call b k c t g with
          | some (.nrm, t, g) => iterK (codeK orc call b k c) j t g
          | r => r) = some (o, t', g') := h
        rw [codeS_loop]
        cases hx : codeK orc call b k c t g with
        | none => rw [hx] at h; cases h
        | some r =>
          obtain ⟨o1, t1, g1⟩ := r
          rw [hx] at h
          rw [ih hx]
          cases o1 with
          | nrm => exact ihj _ _ h
          | ext n => cases h; rfl
          | ret => cases h; rfl
    exact key k t g h
theorem callK_ok : ∀ (k : Nat), CLe (callK orc F k) (callS F)
  | 0 => fun _ _ _ _ h => by cases h
  | k + 1 => fun f asx g r h => by
    have h : (match F f with
      | none => none
      | some fn => match codeK orc (callK orc F k) (argEnv asx) k fn.body .leaf g with
        | some (.nrm, t, g) => (resE fn.res (kev (argEnv asx) t) g).map (·, g)
        | some (.ret, t, g) => (resE fn.res (kev (argEnv asx) t) g).map (·, g)
        | _ => none) = some r := h
    rw [callS_eq]
    cases hF : F f with
    | none => rw [hF] at h; cases h
    | some fn =>
      rw [hF] at h
      simp only at h ⊢
      have e0 : kev (argEnv asx) .leaf = argEnv asx := rfl
      cases hx : codeK orc (callK orc F k) (argEnv asx) k fn.body .leaf g with
      | none => rw [hx] at h; cases h
      | some q =>
        obtain ⟨o1, t1, g1⟩ := q
        rw [hx] at h
        have := codeK_ok ho (callK_ok k) hx
        rw [e0] at this
        rw [this]
        cases o1 with
        | nrm => exact h
        | ext n => cases h
        | ret => exact h
noncomputable def evK (orc : Orc) (F : Funs) (k : Nat) (rs : List ARes) (c : ACode) (e : Env) (g : G) : Bool :=
  match codeK orc (callK orc F k) e k c .leaf g with
  | some (.nrm, t, g) => (match resE rs (kev e t) g with | some v => (match frzK g.hp depth v with | some (.b x) => x | _ => false) | none => false)
  | some (.ret, t, g) => (match resE rs (kev e t) g with | some v => (match frzK g.hp depth v with | some (.b x) => x | _ => false) | none => false)
  | _ => false
theorem W_eval (k : Nat) {rs : List ARes} {c : ACode} {e : Env} {g : G} (h : evK orc F k rs c e g = true) : W F c e g (retQ rs (.b true)) := by
  unfold evK at h
  have fin : ∀ (t : ET) (g : G), (match resE rs (kev e t) g with | some v => (match frzK g.hp depth v with | some (.b x) => x | _ => false) | none => false) = true → (match resE rs (kev e t) g with | some v0 => frz g.hp depth v0 | none => none) = some (.b true) := by
    intro t g h
    cases hr : resE rs (kev e t) g with
    | none => rw [hr] at h; cases h
    | some v =>
      rw [hr] at h
      simp only [frzK_ok] at h ⊢
      cases hf : frz g.hp depth v with
      | none => rw [hf] at h; cases h
      | some w =>
        rw [hf] at h
        cases w <;> first | (cases h; done) | (simp only at h; subst h; rfl)
  split at h
  · rename_i t g1 hx
    exact ⟨_, _, _, codeK_ok ho (callK_ok ho k) hx, fin t g1 h⟩
  · rename_i t g1 hx
    exact ⟨_, _, _, codeK_ok ho (callK_ok ho k) hx, fin t g1 h⟩
  · cases h
theorem pure_eval (k : Nat) {f : Nat} {fn : AFun} {asx : List AV} (hF : F f = some fn) (h : evK orc F k fn.res fn.body (argEnv asx) g0 = true) : pureS F f asx = some (.b true) :=
  pure_of hF (W_eval ho k h)
end
def orc0 : Orc := fun _ _ => none
theorem orc0_ok (F : Funs) : OrcOk F orc0 := fun _ _ _ h => by cases h
end Go.Ab
end
section
set_option linter.unusedVariables false
set_option linter.unusedSimpArgs false
namespace Go.Ab
open Go.RowKit
def c0 (num : Nat → Nat) (w : World) : Cx := ⟨num, w.heap.size, fun _ => True, w, fun _ => (0, 0), fun _ => none⟩
theorem row_calls {P : Program} {num : Nat → Nat} {F : Funs} (hT : Table P num F) (hm : P.follows .mixedOrders = true) {f : Nat} {asx : List AV} {b : Bool} (h : pureS F f asx = some (.b b)) {w : World} {vargs : List Value} (hr : Reps (c0 num w) true asx vargs) :
    Calls P (num f) vargs.toArray w (fun e w' => e = .returned (.bool b) ∧ Below w.heap.size w w') := by
  obtain ⟨k, g', hk⟩ := pureS_bool h
  have K : Ok (c0 num w) 0 := {
    basele := Nat.le_refl _
    cells := fun _ _ _ h => by cases h
    maps := fun _ _ h => by cases h
    toks := fun _ h => by cases h
    inj := fun _ _ _ h => by obtain ⟨_, h, _⟩ := h; cases h
    fresh := fun _ _ => rfl }
  have := ((callE_ok hT hm k).2 f asx g0 _ _ hk).2 (c0 num w) vargs rfl rfl K hr
  refine Calls.mono this.1 fun e w' ⟨val, c', h1, h2, E, _, _, hrep⟩ => ?_
  cases hrep
  exact ⟨h1, h2 ▸ E.below⟩
def intsC (l : List Int) : List AV := l.map fun v => .i .i64 v
def pairsC (l : List (Int × Int)) : List AV := l.flatMap fun p => [.i .i64 p.1, .i .i64 p.2]
end Go.Ab
end
section
set_option linter.unusedVariables false
set_option linter.unusedSimpArgs false
namespace Go.Ab
abbrev Rw := Nat → BitVec 64
def U (x : BitVec 64) : AV := .i .u64 (x.toNat : Int)
def rowsC (R : Rw) : List AV := (List.range 40).map fun a => U (R a)
def relC (n : Nat) (R : Rw) : List AV := .i .i64 n :: rowsC R
theorem rowsC_len (R : Rw) : (rowsC R).length = 40 := by simp [rowsC]
theorem rowsC_get {R : Rw} {a : Nat} (h : a < 40) : (rowsC R)[a]? = some (U (R a)) := by
  simp [rowsC, h]
end Go.Ab
end
section
set_option linter.unusedVariables false
set_option linter.unusedSimpArgs false
namespace Go.Ab
variable {F : Funs}
def has (n : Nat) (R : Rw) (a b : Int) : Bool := decide (0 ≤ a ∧ a < n ∧ 0 ≤ b ∧ b < n) && (R a.toNat).getLsbD b.toNat
end Go.Ab
end
section
set_option linter.unusedVariables false
set_option linter.unusedSimpArgs false
namespace Go.Ab
variable {F : Funs}
theorem i64_wrap {x : Int} (h : -9223372036854775808 ≤ x) (h2 : x ≤ 9223372036854775807) : IntKind.i64.wrap x = x := by
  simp [IntKind.wrap, IntKind.bits, IntKind.signed, IntKind.min, IntKind.max]
  omega
end Go.Ab
end
section
set_option linter.unusedVariables false
set_option linter.unusedSimpArgs false
namespace Go.Ab
variable {F : Funs}
def Live (g : G) (esz : Nat) (t : Tok) : Prop := t = .rig ∨ ∃ τ, t = .own τ esz ∧ g.hp τ = some (.tok true) ∧ τ < g.nx
end Go.Ab
end
section
set_option linter.unusedVariables false
set_option linter.unusedSimpArgs false
namespace Go.Ab
def hb (R : Rw) (a b : Nat) : Bool := (R a).getLsbD b
inductive Thru (r : Nat → Nat → Prop) (k : Nat) : Nat → Nat → Prop
  | one {a b} : r a b → Thru r k a b
  | join {a c b} : c < k → Thru r k a c → Thru r k c b → Thru r k a b
theorem Thru.mono {r : Nat → Nat → Prop} {k k' : Nat} (h : k ≤ k') {a b : Nat} (t : Thru r k a b) : Thru r k' a b := by
  induction t with
  | one h => exact .one h
  | join hc _ _ ih1 ih2 => exact .join (by omega) ih1 ih2
inductive Steps' (r : Nat → Nat → Prop) : Nat → Nat → Prop
  | one {a b} : r a b → Steps' r a b
  | join {a c b} : Steps' r a c → Steps' r c b → Steps' r a b
end Go.Ab
end
section
set_option linter.unusedVariables false
set_option linter.unusedSimpArgs false
namespace Go.Ab
variable {F : Funs}
theorem t1_neg (u n : Int) (e1 : u % n + n * (u / n) = u) : -u = (n - u % n) + n * (-(u / n) - 1) := by
  have e2 : n * (-(u / n) - 1) = -(n * (u / n)) - n := by rw [Int.mul_sub, Int.mul_neg, Int.mul_one]
  rw [e2]
  generalize n * (u / n) = c at *
  generalize u % n = b at *
  omega
theorem tmod_cases {v n : Int} (hn : 0 < n) : (if v.tmod n < 0 then v.tmod n + n else v.tmod n) = v % n := by
  have h2 := Int.emod_nonneg v (by omega : n ≠ 0)
  have h3 := Int.emod_lt_of_pos v hn
  by_cases hv : 0 ≤ v
  · rw [Int.tmod_eq_emod_of_nonneg hv, if_neg (by omega)]
  · obtain ⟨u, rfl⟩ : ∃ u, v = -u := ⟨-v, by omega⟩
    rw [Int.neg_tmod, Int.tmod_eq_emod_of_nonneg (by omega : 0 ≤ u)]
    have h4 := Int.emod_nonneg u (by omega : n ≠ 0)
    have h5 := Int.emod_lt_of_pos u hn
    have e1 := Int.emod_add_mul_ediv u n
    by_cases h6 : u % n = 0
    · rw [h6, Int.neg_zero, if_neg (by omega)]
      exact (Int.emod_eq_zero_of_dvd (Int.dvd_neg.2 (Int.dvd_of_emod_eq_zero h6))).symm
    · rw [if_pos (by omega)]
      have e3 : (-u) % n = n - u % n := by
        rw [t1_neg u n e1, Int.add_mul_emod_self_left, Int.emod_eq_of_lt (by omega) (by omega)]
      rw [e3]
      omega
theorem tmod_bound {v n : Int} (hn : 0 < n) : -n ≤ v.tmod n ∧ v.tmod n < n := by
  refine ⟨?_, Int.tmod_lt_of_pos v hn⟩
  have h1 := tmod_cases (v := v) hn
  have h2 := Int.emod_nonneg v (by omega : n ≠ 0)
  split at h1 <;> omega
def place (v n : Int) : Int := v % n
theorem place_lt {v n : Int} (hn : 0 < n) : 0 ≤ place v n ∧ place v n < n := ⟨Int.emod_nonneg v (by omega), Int.emod_lt_of_pos v hn⟩
theorem sp_place (h10 : F 10 = some A_xlaw00_Place) {v n : Int} (hn : 0 < n) (hb : n ≤ 4611686018427387904) : pureS F 10 [.i .i64 v, .i .i64 n] = some (.i .i64 (place v n)) := by
  refine pure_of h10 ?_
  have h1 := tmod_cases (v := v) hn
  obtain ⟨h2, h3⟩ := tmod_bound (v := v) hn
  unfold place
  by_cases h : v.tmod n < 0
  · have hw : IntKind.i64.wrap (v.tmod n + n) = v.tmod n + n := i64_wrap (by omega) (by omega)
    rw [if_pos h] at h1
    simp (disch := omega) only [A_xlaw00_Place, wp, Nat.reduceAdd, Nat.reduceMul, Nat.reduceSub, b_rem, h, hw]
    rw [h1]
  · rw [if_neg h] at h1
    simp (disch := omega) only [A_xlaw00_Place, wp, Nat.reduceAdd, Nat.reduceMul, Nat.reduceSub, b_rem, h]
    rw [h1]
end Go.Ab
end
section
set_option linter.unusedVariables false
set_option linter.unusedSimpArgs false
namespace Go.Ab
variable {F : Funs}
theorem Steps'.mono {r s : Nat → Nat → Prop} (h : ∀ a b, r a b → s a b) {a b : Nat} (t : Steps' r a b) : Steps' s a b := by
  induction t with
  | one h' => exact .one (h _ _ h')
  | join _ _ i1 i2 => exact .join i1 i2
theorem Steps'.first {r : Nat → Nat → Prop} {a b : Nat} (t : Steps' r a b) : r a b ∨ ∃ c, r a c ∧ Steps' r c b := by
  induction t with
  | one h => exact .inl h
  | @join a c b t1 t2 i1 i2 =>
    rcases i1 with h | ⟨d, h1, h2⟩
    · exact .inr ⟨c, h, t2⟩
    · exact .inr ⟨d, h1, .join h2 t2⟩
end Go.Ab
end
section
set_option linter.unusedVariables false
set_option linter.unusedSimpArgs false
namespace Go.Ab
structure Ev where
  th : Int
  kd : Int
  md : Int
  lc : Int
  vl : Int
  ex : Bool
structure Gr where
  locs : Int
  evs : List Ev
  rf : List Int
  co : List (List Int)
  rmw : List (Int × Int)
  data : List (Int × Int)
  ctrl : List (Int × Int)
  ctrli : List (Int × Int)
def evC (e : Ev) : List AV := [.i .i64 e.th, .i .i64 e.kd, .i .i64 e.md, .i .i64 e.lc, .i .i64 e.vl, .b e.ex]
def evsC (l : List Ev) : List AV := l.flatMap evC
def coC (l : List (List Int)) : List AV := l.map fun c => .sl (intsC c) c.length .non
def grC (g : Gr) : List AV := [.i .i64 g.locs, .sl (evsC g.evs) g.evs.length .non, .sl (intsC g.rf) g.rf.length .non, .sl (coC g.co) g.co.length .non,
  .sl (pairsC g.rmw) g.rmw.length .non, .sl (pairsC g.data) g.data.length .non, .sl (pairsC g.ctrl) g.ctrl.length .non, .sl (pairsC g.ctrli) g.ctrli.length .non]
theorem evsC_len (l : List Ev) : (evsC l).length = l.length * 6 := by
  induction l with
  | nil => rfl
  | cons p l ih => simp only [evsC, List.flatMap_cons, List.length_append, List.length_cons, evC, List.length_nil] at ih ⊢; omega
theorem coC_len (l : List (List Int)) : (coC l).length = l.length := by simp [coC]
theorem splice_ev (e : Ev) : splice (List.replicate 5 (AV.i .i64 0) ++ [.b false]) 0 (evC e) = evC e := rfl
theorem part_22 (a b : AV) : part [a, b] 0 (some 2) = some (.agg [a, b]) := rfl
theorem evC_len (e : Ev) : (evC e).length = 6 := rfl
theorem evC_one (e : Ev) : (evC e).all one = true := rfl
theorem evC_flat (e : Ev) : (evC e).all flat = true := rfl
theorem evC_all (e : Ev) : part (evC e) 0 (some 6) = some (.agg (evC e)) := rfl
theorem ev_th (e : Ev) : part (evC e) 0 none = some (.i .i64 e.th) := rfl
theorem ev_kd (e : Ev) : part (evC e) 1 none = some (.i .i64 e.kd) := rfl
theorem ev_md (e : Ev) : part (evC e) 2 none = some (.i .i64 e.md) := rfl
theorem ev_lc (e : Ev) : part (evC e) 3 none = some (.i .i64 e.lc) := rfl
theorem ev_vl (e : Ev) : part (evC e) 4 none = some (.i .i64 e.vl) := rfl
theorem ev_ex (e : Ev) : part (evC e) 5 none = some (.b e.ex) := rfl
theorem grC_len (g : Gr) : (grC g).length = 8 := rfl
theorem grC_one (g : Gr) : (grC g).all one = true := rfl
theorem grC_all (g : Gr) : part (grC g) 0 (some 8) = some (.agg (grC g)) := rfl
theorem gr_locs (g : Gr) : part (grC g) 0 none = some (.i .i64 g.locs) := rfl
theorem gr_evs (g : Gr) : part (grC g) 1 none = some (.sl (evsC g.evs) g.evs.length .non) := rfl
theorem gr_rf (g : Gr) : part (grC g) 2 none = some (.sl (intsC g.rf) g.rf.length .non) := rfl
theorem gr_co (g : Gr) : part (grC g) 3 none = some (.sl (coC g.co) g.co.length .non) := rfl
theorem gr_rmw (g : Gr) : part (grC g) 4 none = some (.sl (pairsC g.rmw) g.rmw.length .non) := rfl
theorem gr_data (g : Gr) : part (grC g) 5 none = some (.sl (pairsC g.data) g.data.length .non) := rfl
theorem gr_ctrl (g : Gr) : part (grC g) 6 none = some (.sl (pairsC g.ctrl) g.ctrl.length .non) := rfl
theorem gr_ctrli (g : Gr) : part (grC g) 7 none = some (.sl (pairsC g.ctrli) g.ctrli.length .non) := rfl
theorem frz_gr (hp) (g : Gr) : frz hp depth (.agg (grC g)) = some (.agg (grC g)) := by
  refine frz_d_agg ?_
  show frzL hp (7 + 1) _ = _
  simp only [grC, frzL, frz]
theorem frz_ev (hp) (e : Ev) : frz hp depth (.agg (evC e)) = some (.agg (evC e)) := frz_d_agg (frzL_flat (d := 7) (evC_flat e))
theorem vis_gr (hp) (g : Gr) : vis hp depth (.agg (grC g)) = [] := by
  show vis hp (8 + 1) _ = _
  simp only [vis, grC, List.flatMap_cons, List.flatMap_nil, List.nil_append, List.append_nil]
theorem vis_ev (hp) (e : Ev) : vis hp depth (.agg (evC e)) = [] := by
  show vis hp (8 + 1) _ = _
  simp only [vis, evC, List.flatMap_cons, List.flatMap_nil, List.nil_append, List.append_nil]
set_option maxRecDepth 10000 in
theorem gl : type_of% (And.intro (And.intro (And.intro (And.intro (And.intro @evC_len @evC_one) (And.intro @evC_flat (And.intro @evC_all @ev_th))) (And.intro (And.intro @ev_kd @ev_md) (And.intro @ev_lc (And.intro @ev_vl @ev_ex)))) (And.intro (And.intro (And.intro @grC_len @grC_one) (And.intro @grC_all (And.intro @gr_locs @gr_evs))) (And.intro (And.intro @gr_rf (And.intro @gr_co @gr_rmw)) (And.intro @gr_data (And.intro @gr_ctrl @gr_ctrli))))) (And.intro (And.intro (And.intro (And.intro @frz_gr @frz_ev) (And.intro @vis_gr (And.intro @vis_ev @splice_ev))) (And.intro (And.intro @evsC_len @coC_len) (And.intro @o_raw (And.intro @vRaw_fn @res_0)))) (And.intro (And.intro (And.intro @retP_nrm @retP_ret) (And.intro @o_mget (And.intro @vMget_S @mgS_map))) (And.intro (And.intro @o_mkmap (And.intro @o_mput @vMput_S)) (And.intro @mpS_map (And.intro @mpO_none @part_22)))))) := (And.intro (And.intro (And.intro (And.intro (And.intro @evC_len @evC_one) (And.intro @evC_flat (And.intro @evC_all @ev_th))) (And.intro (And.intro @ev_kd @ev_md) (And.intro @ev_lc (And.intro @ev_vl @ev_ex)))) (And.intro (And.intro (And.intro @grC_len @grC_one) (And.intro @grC_all (And.intro @gr_locs @gr_evs))) (And.intro (And.intro @gr_rf (And.intro @gr_co @gr_rmw)) (And.intro @gr_data (And.intro @gr_ctrl @gr_ctrli))))) (And.intro (And.intro (And.intro (And.intro @frz_gr @frz_ev) (And.intro @vis_gr (And.intro @vis_ev @splice_ev))) (And.intro (And.intro @evsC_len @coC_len) (And.intro @o_raw (And.intro @vRaw_fn @res_0)))) (And.intro (And.intro (And.intro @retP_nrm @retP_ret) (And.intro @o_mget (And.intro @vMget_S @mgS_map))) (And.intro (And.intro @o_mkmap (And.intro @o_mput @vMput_S)) (And.intro @mpS_map (And.intro @mpO_none @part_22))))))
end Go.Ab
end
section
set_option linter.unusedVariables false
set_option linter.unusedSimpArgs false
namespace Go.Ab
variable {F : Funs}
structure EcoSt (X : Gr) (l : List (Int × Int)) (g : G) : Prop where
  gr : g.hp 0 = some (.cells (grC X) false)
  put : ∃ t, g.hp 2 = some (.cells [.sl (pairsC l) l.length t] false) ∧ Live g 2 t
  f4 : g.hp 4 = some (.cells [.fn 92 [] [.mp 2 0]] false)
  f7 : g.hp 7 = some (.cells [.fn 93 [] [.mp 0 0, .mp 4 0]] false)
  m9 : g.hp 9 = some (.map [(.s ⟨#[114, 102]⟩, .fn 94 [] [.mp 4 0]), (.s ⟨#[99, 111]⟩, .fn 95 [] [.mp 7 0]), (.s ⟨#[102, 114]⟩, .fn 96 [] [.mp 7 0])])
  nx : 9 < g.nx
def Kept (g g' : G) : Prop := g.nx ≤ g'.nx ∧ ∀ i, 9 < i → i < g.nx → CM (g.hp i) → g'.hp i = g.hp i
theorem Kept.refl (g : G) : Kept g g := ⟨Nat.le_refl _, fun _ _ _ _ => rfl⟩
theorem Kept.trans {g g1 g2 : G} (h : Kept g g1) (k : Kept g1 g2) : Kept g g2 := ⟨Nat.le_trans h.1 k.1, fun i h1 h2 h3 => by
  have e := h.2 i h1 h2 h3
  rw [← e]
  exact k.2 i h1 (Nat.lt_of_lt_of_le h2 h.1) (by rw [e]; exact h3)⟩
theorem EcoSt.same {X : Gr} {l : List (Int × Int)} {g g' : G} (h : EcoSt X l g) (k : Kept g g') (h9 : ∀ i, i ≤ 9 → g'.hp i = g.hp i) (ht : ∀ i b, g.hp i = some (.tok b) → g'.hp i = g.hp i) : EcoSt X l g' := by
  obtain ⟨t, h1, h2⟩ := h.put
  refine ⟨by rw [h9 0 (by omega)]; exact h.gr, ⟨t, by rw [h9 2 (by omega)]; exact h1, ?_⟩, by rw [h9 4 (by omega)]; exact h.f4, by rw [h9 7 (by omega)]; exact h.f7, by rw [h9 9 (by omega)]; exact h.m9, Nat.lt_of_lt_of_le h.nx k.1⟩
  rcases h2 with rfl | ⟨τ, rfl, hτ, hlt⟩
  · exact .inl rfl
  · exact .inr ⟨τ, rfl, by rw [ht τ _ hτ]; exact hτ, Nat.lt_of_lt_of_le hlt k.1⟩
end Go.Ab
end
section
set_option linter.unusedVariables false
set_option linter.unusedSimpArgs false
namespace Go.Ab
variable {F : Funs}
theorem EcoSt.on {X : Gr} {l : List (Int × Int)} {g : G} (h : EcoSt X l g) {n : Nat} (hn : g.nx ≤ n) : EcoSt X l ⟨g.hp, n⟩ :=
  h.same ⟨hn, fun _ _ _ _ => rfl⟩ (fun _ _ => rfl) (fun _ _ _ => rfl)
theorem Kept.on {g g' : G} (h : Kept g g') {n : Nat} (hn : g'.nx ≤ n) : Kept g ⟨g'.hp, n⟩ := ⟨Nat.le_trans h.1 hn, h.2⟩
theorem Kept.from {g g' : G} {n : Nat} (hn : g.nx ≤ n) (h : Kept ⟨g.hp, n⟩ g') : Kept g g' := ⟨Nat.le_trans hn h.1, fun i h1 h2 h3 => h.2 i h1 (Nat.lt_of_lt_of_le h2 hn) h3⟩
end Go.Ab
end
section
set_option linter.unusedVariables false
set_option linter.unusedSimpArgs false
namespace Go.Ab
variable {F : Funs}
theorem EcoSt.grow {X : Gr} {l : List (Int × Int)} {g g' : G} (h : EcoSt X l g) (hn : g.nx ≤ g'.nx) (ho : ∀ i, i < g.nx → g'.hp i = g.hp i) : EcoSt X l g' ∧ Kept g g' := by
  have h9 := h.nx
  obtain ⟨t, h1, h2⟩ := h.put
  refine ⟨⟨by rw [ho 0 (by omega)]; exact h.gr, ⟨t, by rw [ho 2 (by omega)]; exact h1, ?_⟩, by rw [ho 4 (by omega)]; exact h.f4, by rw [ho 7 (by omega)]; exact h.f7, by rw [ho 9 (by omega)]; exact h.m9, by omega⟩, hn, fun i _ hi _ => ho i hi⟩
  rcases h2 with rfl | ⟨τ, rfl, hτ, hlt⟩
  · exact .inl rfl
  · exact .inr ⟨τ, rfl, by rw [ho τ hlt]; exact hτ, by omega⟩
end Go.Ab
end
section
set_option linter.unusedVariables false
set_option linter.unusedSimpArgs false
namespace Go.Ab
variable {F : Funs}
def yesOrc (f0 : Nat) : Orc := fun f bs => if f = f0 then (match bs with | [] => some (.b true) | _ => none) else none
theorem yesOrc_ok {f0 : Nat} (h : pureS F f0 [] = some (.b true)) : OrcOk F (yesOrc f0) := by
  intro f bs v hv
  unfold yesOrc at hv
  split at hv
  · rename_i hf
    subst hf
    split at hv
    · cases hv; exact h
    · cases hv
  · cases hv
end Go.Ab
end
section
set_option linter.unusedVariables false
set_option linter.unusedSimpArgs false
namespace Go.Ab
variable {F : Funs}
def Lst (R : Rw) (zs : List Nat) : Prop := zs.length = 40 ∧ ∀ a, a < 40 → (R a).toNat = zs.getD a 0
theorem Lst.cells {n : Nat} {R : Rw} {zs : List Nat} (h : Lst R zs) : relC n R = .i .i64 n :: zs.map fun (x : Nat) => .i .u64 (x : Int) := by
  show AV.i .i64 (n : Int) :: rowsC R = _
  congr 1
  refine List.ext_getElem? fun i => ?_
  by_cases hi : i < 40
  · rw [rowsC_get hi, List.getElem?_map, List.getElem?_eq_getElem (by rw [h.1]; exact hi)]
    simp only [Option.map_some, U]
    rw [h.2 i hi, List.getD_eq_getElem?_getD, List.getElem?_eq_getElem (by rw [h.1]; exact hi), Option.getD_some]
  · rw [List.getElem?_eq_none (by rw [rowsC_len]; omega), List.getElem?_eq_none (by rw [List.length_map, h.1]; omega)]
noncomputable def newRow (n a : Nat) (l : List (Int × Int)) : Nat := List.rec (motive := fun _ => Nat) 0 (fun p _ ih => match p with
  | (.ofNat x, .ofNat y) => Bool.rec (motive := fun _ => Nat) ih (Bool.rec (motive := fun _ => Nat) ih (Nat.lor (Nat.shiftLeft 1 y) ih) (Nat.ble (Nat.add y 1) n)) (Nat.beq x a)
  | _ => ih) l
end Go.Ab
end
section
set_option linter.unusedVariables false
set_option linter.unusedSimpArgs false
namespace Go.Ab
variable {F : Funs}
structure FewG (X : Gr) : Prop where
  evs : X.evs.length ≤ 50
  rf : X.rf.length ≤ 60
  co : X.co.length ≤ 6
  cos : ∀ c ∈ X.co, c.length ≤ 50
  rmw : X.rmw.length ≤ 50
  data : X.data.length ≤ 300
  ctrl : X.ctrl.length ≤ 300
  ctrli : X.ctrli.length ≤ 300
end Go.Ab
end
section
set_option linter.unusedVariables false
set_option linter.unusedSimpArgs false
namespace Go.Ab
variable {F : Funs}
structure LenG (X : Gr) : Prop where
  fl : X.co.flatten.length ≤ 1000
  col : X.co.length ≤ 1000
  cos : ∀ k, (X.co.getD k []).length ≤ 1000
  rmw : X.rmw.length ≤ 1000
  data : X.data.length ≤ 1000
  ctrl : X.ctrl.length ≤ 1000
  ctrli : X.ctrli.length ≤ 1000
theorem flat_le : ∀ {l : List (List Int)} {m : Nat}, (∀ c ∈ l, c.length ≤ m) → l.flatten.length ≤ l.length * m
  | [], _, _ => by simp
  | c :: l, m, h => by
    have h1 := flat_le (l := l) (m := m) fun c hc => h c (List.mem_cons_of_mem _ hc)
    have h2 := h c (List.mem_cons_self ..)
    rw [List.flatten_cons, List.length_append, List.length_cons, Nat.succ_mul]
    omega
theorem FewG.len {X : Gr} (h : FewG X) : LenG X := by
  have h1 := flat_le h.cos
  have h2 := h.co
  have h3 : X.co.length * 50 ≤ 6 * 50 := Nat.mul_le_mul_right _ h2
  refine ⟨by omega, by omega, fun k => ?_, by have := h.rmw; omega, by have := h.data; omega, by have := h.ctrl; omega, by have := h.ctrli; omega⟩
  by_cases hk : k < X.co.length
  · have hm : X.co.getD k [] ∈ X.co := by
      rw [List.getD_eq_getElem?_getD, List.getElem?_eq_getElem hk]; exact List.getElem_mem hk
    have := h.cos _ hm; omega
  · rw [List.getD_eq_getElem?_getD, List.getElem?_eq_none (by omega)]; simp
end Go.Ab
end
section
set_option linter.unusedVariables false
set_option linter.unusedSimpArgs false
namespace Go.Ab
def sL : ACode → ACode
  | .seq a _ => a
  | c => c
def sR : ACode → ACode
  | .seq _ b => b
  | c => c
end Go.Ab
end
section
set_option linter.unusedVariables false
namespace Go.Ab
theorem kev_none {b : Env} {t : ET} {n : Nat} (h : (t.get n).isNone = true) : kev b t n = b n := by
  unfold kev
  cases hx : t.get n with
  | none => rfl
  | some v => rw [hx] at h; cases h
noncomputable def isI (v : AV) (z : Int) : Bool := match v with
  | .i .i64 m => decide (m = z)
  | _ => false
theorem isI_ok {v : AV} {z : Int} (h : isI v z = true) : v = .i .i64 z := by
  unfold isI at h
  split at h
  · rw [of_decide_eq_true h]
  · cases h
theorem W_assoc {F : Funs} {a b c : ACode} {e : Env} {g : G} {Q : Out → Env → G → Prop} : W F (.seq a (.seq b c)) e g Q = W F (.seq (.seq a b) c) e g Q := by
  rw [W_seq, W_seq, W_seq]
  congr 1
  funext o e g
  cases o <;> simp only [thenQ_nrm, thenQ_ext, thenQ_ret, W_seq]
noncomputable def evM (orc : Orc) (F : Funs) (k : Nat) (c : ACode) (chk : ET → G → Bool) (e : Env) (g : G) : Bool :=
  match codeK orc (callK orc F k) e k c .leaf g with
  | some (.nrm, t, g) => chk t g
  | _ => false
theorem W_mid {F : Funs} {orc : Orc} (ho : OrcOk F orc) (k : Nat) {c1 rest : ACode} {e : Env} {g : G} {Q : Out → Env → G → Prop} (chk : ET → G → Bool) (h : evM orc F k c1 chk e g = true) (hc : ∀ t g', chk t g' = true → W F rest (kev e t) g' Q) : W F (.seq c1 rest) e g Q := by
  rw [W_seq]
  unfold evM at h
  split at h
  · rename_i t g1 hx
    exact ⟨_, _, _, codeK_ok ho (callK_ok ho k) hx, hc t g1 h⟩
  · cases h
end Go.Ab
end
section
set_option linter.unusedVariables false
set_option linter.unusedSimpArgs false
set_option maxRecDepth 100000
namespace Go.Proofs.Ytkbggcmlmlnepaa
open Go.Ab
theorem ml_awake : pureS funs 279 [] = some (.b true) := pure_eval (orc0_ok funs) 1000 (fn := A_xlaw08_awake) rfl (by kernel_rfl)
def mlO : Orc := yesOrc 279
theorem mlO_ok : OrcOk funs mlO := yesOrc_ok ml_awake
theorem W_assoc3 {F : Funs} {x d e' r : ACode} {e : Env} {g : G} {Q : Out → Env → G → Prop} : W F (.seq x (.seq (.seq d e') r)) e g Q = W F (.seq (.seq x d) (.seq e' r)) e g Q := by
  rw [W_seq, W_seq, W_seq]
  congr 1
  funext o e g
  cases o <;> simp only [thenQ_nrm, thenQ_ext, thenQ_ret, W_seq]
  congr 1
  funext o e g
  cases o <;> simp only [thenQ_nrm, thenQ_ext, thenQ_ret, W_seq]
def ml2 : ACode := sR (sR A_xlaw08_MemLast.body)
def mlc : ACode := sL (sR (sR (sR ml2)))
def mlE : ACode := sR mlc
def mlRest : ACode := sR (sR (sR (sR ml2)))
def mlT : ACode := .seq (sL ml2) (.seq (sL (sR ml2)) (.seq (sL (sR (sR ml2))) (.seq (.seq (sL mlc) mlE) mlRest)))
theorem ml_cut : A_xlaw08_MemLast.body = .seq (sL A_xlaw08_MemLast.body) (.seq (sL (sR A_xlaw08_MemLast.body)) mlT) := rfl
noncomputable def isT (v : AV) : Bool := match v with
  | .b x => x
  | _ => false
theorem isT_ok {v : AV} (h : isT v = true) : v = .b true := by
  unfold isT at h
  split at h
  · rw [h]
  · cases h
noncomputable def mlChk (k p v : Int) (e : Env) : ET → G → Bool := fun t g => (((t.get 1).isNone && isI (kev e t 5) k) && isT (kev e t 40)) && evK mlO funs 1000 [.t 4] mlRest (upd (upd (upd (upd (kev e t) 41 (.i .i64 v)) 42 (.i .i64 k)) 43 (.i .i64 p)) 8 (.i .i64 p)) ⟨g.hp, g.nx + 4⟩
theorem ml_tail {k p v : Int} {e : Env} (he : e 1 = .i .i64 v) {t : ET} {g : G} (h : mlChk k p v e t g = true) (hp : pureS funs 10 [.i .i64 v, .i .i64 k] = some (.i .i64 p)) : W funs (.seq mlE mlRest) (kev e t) g (retQ [.t 4] (.b true)) := by
  unfold mlChk at h
  rw [Bool.and_eq_true, Bool.and_eq_true, Bool.and_eq_true] at h
  obtain ⟨⟨⟨a1, a2⟩, a4⟩, a3⟩ := h
  have e1 : kev e t 1 = .i .i64 v := (kev_none a1).trans he
  have e5 := isI_ok a2
  have e40 := isT_ok a4
  have w1 := W_eval mlO_ok 1000 a3
  generalize kev e t = e' at e1 e5 e40 w1
  generalize mlRest = rest at w1
  simp (disch := omega) only [mlE, mlc, ml2, A_xlaw08_MemLast, sL, sR, wp, Nat.reduceAdd, Nat.reduceMul, Nat.reduceSub, e1, e5, e40, hp]
  exact w1
theorem ml_0 (a b : Int) (hk : place a 20 = 0) : pureS funs 270 [.i .i64 a, .i .i64 b] = some (.b true) := by
  refine pure_of (fn := A_xlaw08_MemLast) rfl ?_
  have hp1 := sp_place (F := funs) rfl (v := a) (n := 20) (by omega) (by omega)
  rw [hk] at hp1
  rw [ml_cut]
  generalize hr : mlT = rest
  simp (disch := omega) only [A_xlaw08_MemLast, sL, sR, wp, Nat.reduceAdd, Nat.reduceMul, Nat.reduceSub, hp1]
  subst hr
  exact W_eval mlO_ok 1000 (by kernel_rfl)
end Go.Proofs.Ytkbggcmlmlnepaa
end
section
set_option linter.unusedVariables false
set_option linter.unusedSimpArgs false
set_option maxRecDepth 100000
namespace Go.Proofs.Ytkbggcmlmlnepaa
open Go.Ab
theorem ml_1 (a b : Int) (hk : place a 20 = 1) : pureS funs 270 [.i .i64 a, .i .i64 b] = some (.b true) := by
  refine pure_of (fn := A_xlaw08_MemLast) rfl ?_
  have hp1 := sp_place (F := funs) rfl (v := a) (n := 20) (by omega) (by omega)
  have hp2 := sp_place (F := funs) rfl (v := b) (n := 1) (by omega) (by omega)
  obtain ⟨r0, r1⟩ := place_lt (v := b) (n := 1) (by omega)
  rw [hk] at hp1
  generalize place b 1 = p at hp2 r0 r1
  rw [ml_cut]
  generalize hr : mlT = rest
  simp (disch := omega) only [A_xlaw08_MemLast, sL, sR, wp, Nat.reduceAdd, Nat.reduceMul, Nat.reduceSub, hp1]
  subst hr
  unfold mlT
  rw [W_assoc, W_assoc, W_assoc3]
  have hp : p = 0 := by omega
  rcases hp with rfl
  · refine W_mid mlO_ok 1000 (mlChk 1 0 b _) ?_ (fun t g' h => ml_tail rfl h hp2)
    kernel_rfl
theorem ml_2 (a b : Int) (hk : place a 20 = 2) : pureS funs 270 [.i .i64 a, .i .i64 b] = some (.b true) := by
  refine pure_of (fn := A_xlaw08_MemLast) rfl ?_
  have hp1 := sp_place (F := funs) rfl (v := a) (n := 20) (by omega) (by omega)
  have hp2 := sp_place (F := funs) rfl (v := b) (n := 2) (by omega) (by omega)
  obtain ⟨r0, r1⟩ := place_lt (v := b) (n := 2) (by omega)
  rw [hk] at hp1
  generalize place b 2 = p at hp2 r0 r1
  rw [ml_cut]
  generalize hr : mlT = rest
  simp (disch := omega) only [A_xlaw08_MemLast, sL, sR, wp, Nat.reduceAdd, Nat.reduceMul, Nat.reduceSub, hp1]
  subst hr
  unfold mlT
  rw [W_assoc, W_assoc, W_assoc3]
  have hp : p = 0 ∨ p = 1 := by omega
  rcases hp with rfl | rfl
  · refine W_mid mlO_ok 1000 (mlChk 2 0 b _) ?_ (fun t g' h => ml_tail rfl h hp2)
    kernel_rfl
  · refine W_mid mlO_ok 1000 (mlChk 2 1 b _) ?_ (fun t g' h => ml_tail rfl h hp2)
    kernel_rfl
theorem ml_3 (a b : Int) (hk : place a 20 = 3) : pureS funs 270 [.i .i64 a, .i .i64 b] = some (.b true) := by
  refine pure_of (fn := A_xlaw08_MemLast) rfl ?_
  have hp1 := sp_place (F := funs) rfl (v := a) (n := 20) (by omega) (by omega)
  have hp2 := sp_place (F := funs) rfl (v := b) (n := 3) (by omega) (by omega)
  obtain ⟨r0, r1⟩ := place_lt (v := b) (n := 3) (by omega)
  rw [hk] at hp1
  generalize place b 3 = p at hp2 r0 r1
  rw [ml_cut]
  generalize hr : mlT = rest
  simp (disch := omega) only [A_xlaw08_MemLast, sL, sR, wp, Nat.reduceAdd, Nat.reduceMul, Nat.reduceSub, hp1]
  subst hr
  unfold mlT
  rw [W_assoc, W_assoc, W_assoc3]
  have hp : p = 0 ∨ p = 1 ∨ p = 2 := by omega
  rcases hp with rfl | rfl | rfl
  · refine W_mid mlO_ok 1000 (mlChk 3 0 b _) ?_ (fun t g' h => ml_tail rfl h hp2)
    kernel_rfl
  · refine W_mid mlO_ok 1000 (mlChk 3 1 b _) ?_ (fun t g' h => ml_tail rfl h hp2)
    kernel_rfl
  · refine W_mid mlO_ok 1000 (mlChk 3 2 b _) ?_ (fun t g' h => ml_tail rfl h hp2)
    kernel_rfl
theorem ml_4 (a b : Int) (hk : place a 20 = 4) : pureS funs 270 [.i .i64 a, .i .i64 b] = some (.b true) := by
  refine pure_of (fn := A_xlaw08_MemLast) rfl ?_
  have hp1 := sp_place (F := funs) rfl (v := a) (n := 20) (by omega) (by omega)
  have hp2 := sp_place (F := funs) rfl (v := b) (n := 4) (by omega) (by omega)
  obtain ⟨r0, r1⟩ := place_lt (v := b) (n := 4) (by omega)
  rw [hk] at hp1
  generalize place b 4 = p at hp2 r0 r1
  rw [ml_cut]
  generalize hr : mlT = rest
  simp (disch := omega) only [A_xlaw08_MemLast, sL, sR, wp, Nat.reduceAdd, Nat.reduceMul, Nat.reduceSub, hp1]
  subst hr
  unfold mlT
  rw [W_assoc, W_assoc, W_assoc3]
  have hp : p = 0 ∨ p = 1 ∨ p = 2 ∨ p = 3 := by omega
  rcases hp with rfl | rfl | rfl | rfl
  · refine W_mid mlO_ok 1000 (mlChk 4 0 b _) ?_ (fun t g' h => ml_tail rfl h hp2)
    kernel_rfl
  · refine W_mid mlO_ok 1000 (mlChk 4 1 b _) ?_ (fun t g' h => ml_tail rfl h hp2)
    kernel_rfl
  · refine W_mid mlO_ok 1000 (mlChk 4 2 b _) ?_ (fun t g' h => ml_tail rfl h hp2)
    kernel_rfl
  · refine W_mid mlO_ok 1000 (mlChk 4 3 b _) ?_ (fun t g' h => ml_tail rfl h hp2)
    kernel_rfl
theorem ml_5 (a b : Int) (hk : place a 20 = 5) : pureS funs 270 [.i .i64 a, .i .i64 b] = some (.b true) := by
  refine pure_of (fn := A_xlaw08_MemLast) rfl ?_
  have hp1 := sp_place (F := funs) rfl (v := a) (n := 20) (by omega) (by omega)
  have hp2 := sp_place (F := funs) rfl (v := b) (n := 5) (by omega) (by omega)
  obtain ⟨r0, r1⟩ := place_lt (v := b) (n := 5) (by omega)
  rw [hk] at hp1
  generalize place b 5 = p at hp2 r0 r1
  rw [ml_cut]
  generalize hr : mlT = rest
  simp (disch := omega) only [A_xlaw08_MemLast, sL, sR, wp, Nat.reduceAdd, Nat.reduceMul, Nat.reduceSub, hp1]
  subst hr
  unfold mlT
  rw [W_assoc, W_assoc, W_assoc3]
  have hp : p = 0 ∨ p = 1 ∨ p = 2 ∨ p = 3 ∨ p = 4 := by omega
  rcases hp with rfl | rfl | rfl | rfl | rfl
  · refine W_mid mlO_ok 1000 (mlChk 5 0 b _) ?_ (fun t g' h => ml_tail rfl h hp2)
    kernel_rfl
  · refine W_mid mlO_ok 1000 (mlChk 5 1 b _) ?_ (fun t g' h => ml_tail rfl h hp2)
    kernel_rfl
  · refine W_mid mlO_ok 1000 (mlChk 5 2 b _) ?_ (fun t g' h => ml_tail rfl h hp2)
    kernel_rfl
  · refine W_mid mlO_ok 1000 (mlChk 5 3 b _) ?_ (fun t g' h => ml_tail rfl h hp2)
    kernel_rfl
  · refine W_mid mlO_ok 1000 (mlChk 5 4 b _) ?_ (fun t g' h => ml_tail rfl h hp2)
    kernel_rfl
theorem ml_6 (a b : Int) (hk : place a 20 = 6) : pureS funs 270 [.i .i64 a, .i .i64 b] = some (.b true) := by
  refine pure_of (fn := A_xlaw08_MemLast) rfl ?_
  have hp1 := sp_place (F := funs) rfl (v := a) (n := 20) (by omega) (by omega)
  have hp2 := sp_place (F := funs) rfl (v := b) (n := 6) (by omega) (by omega)
  obtain ⟨r0, r1⟩ := place_lt (v := b) (n := 6) (by omega)
  rw [hk] at hp1
  generalize place b 6 = p at hp2 r0 r1
  rw [ml_cut]
  generalize hr : mlT = rest
  simp (disch := omega) only [A_xlaw08_MemLast, sL, sR, wp, Nat.reduceAdd, Nat.reduceMul, Nat.reduceSub, hp1]
  subst hr
  unfold mlT
  rw [W_assoc, W_assoc, W_assoc3]
  have hp : p = 0 ∨ p = 1 ∨ p = 2 ∨ p = 3 ∨ p = 4 ∨ p = 5 := by omega
  rcases hp with rfl | rfl | rfl | rfl | rfl | rfl
  · refine W_mid mlO_ok 1000 (mlChk 6 0 b _) ?_ (fun t g' h => ml_tail rfl h hp2)
    kernel_rfl
  · refine W_mid mlO_ok 1000 (mlChk 6 1 b _) ?_ (fun t g' h => ml_tail rfl h hp2)
    kernel_rfl
  · refine W_mid mlO_ok 1000 (mlChk 6 2 b _) ?_ (fun t g' h => ml_tail rfl h hp2)
    kernel_rfl
  · refine W_mid mlO_ok 1000 (mlChk 6 3 b _) ?_ (fun t g' h => ml_tail rfl h hp2)
    kernel_rfl
  · refine W_mid mlO_ok 1000 (mlChk 6 4 b _) ?_ (fun t g' h => ml_tail rfl h hp2)
    kernel_rfl
  · refine W_mid mlO_ok 1000 (mlChk 6 5 b _) ?_ (fun t g' h => ml_tail rfl h hp2)
    kernel_rfl
theorem ml_7 (a b : Int) (hk : place a 20 = 7) : pureS funs 270 [.i .i64 a, .i .i64 b] = some (.b true) := by
  refine pure_of (fn := A_xlaw08_MemLast) rfl ?_
  have hp1 := sp_place (F := funs) rfl (v := a) (n := 20) (by omega) (by omega)
  have hp2 := sp_place (F := funs) rfl (v := b) (n := 7) (by omega) (by omega)
  obtain ⟨r0, r1⟩ := place_lt (v := b) (n := 7) (by omega)
  rw [hk] at hp1
  generalize place b 7 = p at hp2 r0 r1
  rw [ml_cut]
  generalize hr : mlT = rest
  simp (disch := omega) only [A_xlaw08_MemLast, sL, sR, wp, Nat.reduceAdd, Nat.reduceMul, Nat.reduceSub, hp1]
  subst hr
  unfold mlT
  rw [W_assoc, W_assoc, W_assoc3]
  have hp : p = 0 ∨ p = 1 ∨ p = 2 ∨ p = 3 ∨ p = 4 ∨ p = 5 ∨ p = 6 := by omega
  rcases hp with rfl | rfl | rfl | rfl | rfl | rfl | rfl
  · refine W_mid mlO_ok 1000 (mlChk 7 0 b _) ?_ (fun t g' h => ml_tail rfl h hp2)
    kernel_rfl
  · refine W_mid mlO_ok 1000 (mlChk 7 1 b _) ?_ (fun t g' h => ml_tail rfl h hp2)
    kernel_rfl
  · refine W_mid mlO_ok 1000 (mlChk 7 2 b _) ?_ (fun t g' h => ml_tail rfl h hp2)
    kernel_rfl
  · refine W_mid mlO_ok 1000 (mlChk 7 3 b _) ?_ (fun t g' h => ml_tail rfl h hp2)
    kernel_rfl
  · refine W_mid mlO_ok 1000 (mlChk 7 4 b _) ?_ (fun t g' h => ml_tail rfl h hp2)
    kernel_rfl
  · refine W_mid mlO_ok 1000 (mlChk 7 5 b _) ?_ (fun t g' h => ml_tail rfl h hp2)
    kernel_rfl
  · refine W_mid mlO_ok 1000 (mlChk 7 6 b _) ?_ (fun t g' h => ml_tail rfl h hp2)
    kernel_rfl
end Go.Proofs.Ytkbggcmlmlnepaa
end
section
set_option linter.unusedVariables false
set_option linter.unusedSimpArgs false
set_option maxRecDepth 100000
namespace Go.Proofs.Ytkbggcmlmlnepaa
open Go.Ab
theorem ml_8 (a b : Int) (hk : place a 20 = 8) : pureS funs 270 [.i .i64 a, .i .i64 b] = some (.b true) := by
  refine pure_of (fn := A_xlaw08_MemLast) rfl ?_
  have hp1 := sp_place (F := funs) rfl (v := a) (n := 20) (by omega) (by omega)
  have hp2 := sp_place (F := funs) rfl (v := b) (n := 8) (by omega) (by omega)
  obtain ⟨r0, r1⟩ := place_lt (v := b) (n := 8) (by omega)
  rw [hk] at hp1
  generalize place b 8 = p at hp2 r0 r1
  rw [ml_cut]
  generalize hr : mlT = rest
  simp (disch := omega) only [A_xlaw08_MemLast, sL, sR, wp, Nat.reduceAdd, Nat.reduceMul, Nat.reduceSub, hp1]
  subst hr
  unfold mlT
  rw [W_assoc, W_assoc, W_assoc3]
  have hp : p = 0 ∨ p = 1 ∨ p = 2 ∨ p = 3 ∨ p = 4 ∨ p = 5 ∨ p = 6 ∨ p = 7 := by omega
  rcases hp with rfl | rfl | rfl | rfl | rfl | rfl | rfl | rfl
  · refine W_mid mlO_ok 1000 (mlChk 8 0 b _) ?_ (fun t g' h => ml_tail rfl h hp2)
    kernel_rfl
  · refine W_mid mlO_ok 1000 (mlChk 8 1 b _) ?_ (fun t g' h => ml_tail rfl h hp2)
    kernel_rfl
  · refine W_mid mlO_ok 1000 (mlChk 8 2 b _) ?_ (fun t g' h => ml_tail rfl h hp2)
    kernel_rfl
  · refine W_mid mlO_ok 1000 (mlChk 8 3 b _) ?_ (fun t g' h => ml_tail rfl h hp2)
    kernel_rfl
  · refine W_mid mlO_ok 1000 (mlChk 8 4 b _) ?_ (fun t g' h => ml_tail rfl h hp2)
    kernel_rfl
  · refine W_mid mlO_ok 1000 (mlChk 8 5 b _) ?_ (fun t g' h => ml_tail rfl h hp2)
    kernel_rfl
  · refine W_mid mlO_ok 1000 (mlChk 8 6 b _) ?_ (fun t g' h => ml_tail rfl h hp2)
    kernel_rfl
  · refine W_mid mlO_ok 1000 (mlChk 8 7 b _) ?_ (fun t g' h => ml_tail rfl h hp2)
    kernel_rfl
theorem ml_9 (a b : Int) (hk : place a 20 = 9) : pureS funs 270 [.i .i64 a, .i .i64 b] = some (.b true) := by
  refine pure_of (fn := A_xlaw08_MemLast) rfl ?_
  have hp1 := sp_place (F := funs) rfl (v := a) (n := 20) (by omega) (by omega)
  have hp2 := sp_place (F := funs) rfl (v := b) (n := 9) (by omega) (by omega)
  obtain ⟨r0, r1⟩ := place_lt (v := b) (n := 9) (by omega)
  rw [hk] at hp1
  generalize place b 9 = p at hp2 r0 r1
  rw [ml_cut]
  generalize hr : mlT = rest
  simp (disch := omega) only [A_xlaw08_MemLast, sL, sR, wp, Nat.reduceAdd, Nat.reduceMul, Nat.reduceSub, hp1]
  subst hr
  unfold mlT
  rw [W_assoc, W_assoc, W_assoc3]
  have hp : p = 0 ∨ p = 1 ∨ p = 2 ∨ p = 3 ∨ p = 4 ∨ p = 5 ∨ p = 6 ∨ p = 7 ∨ p = 8 := by omega
  rcases hp with rfl | rfl | rfl | rfl | rfl | rfl | rfl | rfl | rfl
  · refine W_mid mlO_ok 1000 (mlChk 9 0 b _) ?_ (fun t g' h => ml_tail rfl h hp2)
    kernel_rfl
  · refine W_mid mlO_ok 1000 (mlChk 9 1 b _) ?_ (fun t g' h => ml_tail rfl h hp2)
    kernel_rfl
  · refine W_mid mlO_ok 1000 (mlChk 9 2 b _) ?_ (fun t g' h => ml_tail rfl h hp2)
    kernel_rfl
  · refine W_mid mlO_ok 1000 (mlChk 9 3 b _) ?_ (fun t g' h => ml_tail rfl h hp2)
    kernel_rfl
  · refine W_mid mlO_ok 1000 (mlChk 9 4 b _) ?_ (fun t g' h => ml_tail rfl h hp2)
    kernel_rfl
  · refine W_mid mlO_ok 1000 (mlChk 9 5 b _) ?_ (fun t g' h => ml_tail rfl h hp2)
    kernel_rfl
  · refine W_mid mlO_ok 1000 (mlChk 9 6 b _) ?_ (fun t g' h => ml_tail rfl h hp2)
    kernel_rfl
  · refine W_mid mlO_ok 1000 (mlChk 9 7 b _) ?_ (fun t g' h => ml_tail rfl h hp2)
    kernel_rfl
  · refine W_mid mlO_ok 1000 (mlChk 9 8 b _) ?_ (fun t g' h => ml_tail rfl h hp2)
    kernel_rfl
theorem ml_10 (a b : Int) (hk : place a 20 = 10) : pureS funs 270 [.i .i64 a, .i .i64 b] = some (.b true) := by
  refine pure_of (fn := A_xlaw08_MemLast) rfl ?_
  have hp1 := sp_place (F := funs) rfl (v := a) (n := 20) (by omega) (by omega)
  have hp2 := sp_place (F := funs) rfl (v := b) (n := 10) (by omega) (by omega)
  obtain ⟨r0, r1⟩ := place_lt (v := b) (n := 10) (by omega)
  rw [hk] at hp1
  generalize place b 10 = p at hp2 r0 r1
  rw [ml_cut]
  generalize hr : mlT = rest
  simp (disch := omega) only [A_xlaw08_MemLast, sL, sR, wp, Nat.reduceAdd, Nat.reduceMul, Nat.reduceSub, hp1]
  subst hr
  unfold mlT
  rw [W_assoc, W_assoc, W_assoc3]
  have hp : p = 0 ∨ p = 1 ∨ p = 2 ∨ p = 3 ∨ p = 4 ∨ p = 5 ∨ p = 6 ∨ p = 7 ∨ p = 8 ∨ p = 9 := by omega
  rcases hp with rfl | rfl | rfl | rfl | rfl | rfl | rfl | rfl | rfl | rfl
  · refine W_mid mlO_ok 1000 (mlChk 10 0 b _) ?_ (fun t g' h => ml_tail rfl h hp2)
    kernel_rfl
  · refine W_mid mlO_ok 1000 (mlChk 10 1 b _) ?_ (fun t g' h => ml_tail rfl h hp2)
    kernel_rfl
  · refine W_mid mlO_ok 1000 (mlChk 10 2 b _) ?_ (fun t g' h => ml_tail rfl h hp2)
    kernel_rfl
  · refine W_mid mlO_ok 1000 (mlChk 10 3 b _) ?_ (fun t g' h => ml_tail rfl h hp2)
    kernel_rfl
  · refine W_mid mlO_ok 1000 (mlChk 10 4 b _) ?_ (fun t g' h => ml_tail rfl h hp2)
    kernel_rfl
  · refine W_mid mlO_ok 1000 (mlChk 10 5 b _) ?_ (fun t g' h => ml_tail rfl h hp2)
    kernel_rfl
  · refine W_mid mlO_ok 1000 (mlChk 10 6 b _) ?_ (fun t g' h => ml_tail rfl h hp2)
    kernel_rfl
  · refine W_mid mlO_ok 1000 (mlChk 10 7 b _) ?_ (fun t g' h => ml_tail rfl h hp2)
    kernel_rfl
  · refine W_mid mlO_ok 1000 (mlChk 10 8 b _) ?_ (fun t g' h => ml_tail rfl h hp2)
    kernel_rfl
  · refine W_mid mlO_ok 1000 (mlChk 10 9 b _) ?_ (fun t g' h => ml_tail rfl h hp2)
    kernel_rfl
end Go.Proofs.Ytkbggcmlmlnepaa
end
section
set_option linter.unusedVariables false
set_option linter.unusedSimpArgs false
set_option maxRecDepth 100000
namespace Go.Proofs.Ytkbggcmlmlnepaa
open Go.Ab
theorem ml_11 (a b : Int) (hk : place a 20 = 11) : pureS funs 270 [.i .i64 a, .i .i64 b] = some (.b true) := by
  refine pure_of (fn := A_xlaw08_MemLast) rfl ?_
  have hp1 := sp_place (F := funs) rfl (v := a) (n := 20) (by omega) (by omega)
  have hp2 := sp_place (F := funs) rfl (v := b) (n := 11) (by omega) (by omega)
  obtain ⟨r0, r1⟩ := place_lt (v := b) (n := 11) (by omega)
  rw [hk] at hp1
  generalize place b 11 = p at hp2 r0 r1
  rw [ml_cut]
  generalize hr : mlT = rest
  simp (disch := omega) only [A_xlaw08_MemLast, sL, sR, wp, Nat.reduceAdd, Nat.reduceMul, Nat.reduceSub, hp1]
  subst hr
  unfold mlT
  rw [W_assoc, W_assoc, W_assoc3]
  have hp : p = 0 ∨ p = 1 ∨ p = 2 ∨ p = 3 ∨ p = 4 ∨ p = 5 ∨ p = 6 ∨ p = 7 ∨ p = 8 ∨ p = 9 ∨ p = 10 := by omega
  rcases hp with rfl | rfl | rfl | rfl | rfl | rfl | rfl | rfl | rfl | rfl | rfl
  · refine W_mid mlO_ok 1000 (mlChk 11 0 b _) ?_ (fun t g' h => ml_tail rfl h hp2)
    kernel_rfl
  · refine W_mid mlO_ok 1000 (mlChk 11 1 b _) ?_ (fun t g' h => ml_tail rfl h hp2)
    kernel_rfl
  · refine W_mid mlO_ok 1000 (mlChk 11 2 b _) ?_ (fun t g' h => ml_tail rfl h hp2)
    kernel_rfl
  · refine W_mid mlO_ok 1000 (mlChk 11 3 b _) ?_ (fun t g' h => ml_tail rfl h hp2)
    kernel_rfl
  · refine W_mid mlO_ok 1000 (mlChk 11 4 b _) ?_ (fun t g' h => ml_tail rfl h hp2)
    kernel_rfl
  · refine W_mid mlO_ok 1000 (mlChk 11 5 b _) ?_ (fun t g' h => ml_tail rfl h hp2)
    kernel_rfl
  · refine W_mid mlO_ok 1000 (mlChk 11 6 b _) ?_ (fun t g' h => ml_tail rfl h hp2)
    kernel_rfl
  · refine W_mid mlO_ok 1000 (mlChk 11 7 b _) ?_ (fun t g' h => ml_tail rfl h hp2)
    kernel_rfl
  · refine W_mid mlO_ok 1000 (mlChk 11 8 b _) ?_ (fun t g' h => ml_tail rfl h hp2)
    kernel_rfl
  · refine W_mid mlO_ok 1000 (mlChk 11 9 b _) ?_ (fun t g' h => ml_tail rfl h hp2)
    kernel_rfl
  · refine W_mid mlO_ok 1000 (mlChk 11 10 b _) ?_ (fun t g' h => ml_tail rfl h hp2)
    kernel_rfl
theorem ml_12 (a b : Int) (hk : place a 20 = 12) : pureS funs 270 [.i .i64 a, .i .i64 b] = some (.b true) := by
  refine pure_of (fn := A_xlaw08_MemLast) rfl ?_
  have hp1 := sp_place (F := funs) rfl (v := a) (n := 20) (by omega) (by omega)
  have hp2 := sp_place (F := funs) rfl (v := b) (n := 12) (by omega) (by omega)
  obtain ⟨r0, r1⟩ := place_lt (v := b) (n := 12) (by omega)
  rw [hk] at hp1
  generalize place b 12 = p at hp2 r0 r1
  rw [ml_cut]
  generalize hr : mlT = rest
  simp (disch := omega) only [A_xlaw08_MemLast, sL, sR, wp, Nat.reduceAdd, Nat.reduceMul, Nat.reduceSub, hp1]
  subst hr
  unfold mlT
  rw [W_assoc, W_assoc, W_assoc3]
  have hp : p = 0 ∨ p = 1 ∨ p = 2 ∨ p = 3 ∨ p = 4 ∨ p = 5 ∨ p = 6 ∨ p = 7 ∨ p = 8 ∨ p = 9 ∨ p = 10 ∨ p = 11 := by omega
  rcases hp with rfl | rfl | rfl | rfl | rfl | rfl | rfl | rfl | rfl | rfl | rfl | rfl
  · refine W_mid mlO_ok 1000 (mlChk 12 0 b _) ?_ (fun t g' h => ml_tail rfl h hp2)
    kernel_rfl
  · refine W_mid mlO_ok 1000 (mlChk 12 1 b _) ?_ (fun t g' h => ml_tail rfl h hp2)
    kernel_rfl
  · refine W_mid mlO_ok 1000 (mlChk 12 2 b _) ?_ (fun t g' h => ml_tail rfl h hp2)
    kernel_rfl
  · refine W_mid mlO_ok 1000 (mlChk 12 3 b _) ?_ (fun t g' h => ml_tail rfl h hp2)
    kernel_rfl
  · refine W_mid mlO_ok 1000 (mlChk 12 4 b _) ?_ (fun t g' h => ml_tail rfl h hp2)
    kernel_rfl
  · refine W_mid mlO_ok 1000 (mlChk 12 5 b _) ?_ (fun t g' h => ml_tail rfl h hp2)
    kernel_rfl
  · refine W_mid mlO_ok 1000 (mlChk 12 6 b _) ?_ (fun t g' h => ml_tail rfl h hp2)
    kernel_rfl
  · refine W_mid mlO_ok 1000 (mlChk 12 7 b _) ?_ (fun t g' h => ml_tail rfl h hp2)
    kernel_rfl
  · refine W_mid mlO_ok 1000 (mlChk 12 8 b _) ?_ (fun t g' h => ml_tail rfl h hp2)
    kernel_rfl
  · refine W_mid mlO_ok 1000 (mlChk 12 9 b _) ?_ (fun t g' h => ml_tail rfl h hp2)
    kernel_rfl
  · refine W_mid mlO_ok 1000 (mlChk 12 10 b _) ?_ (fun t g' h => ml_tail rfl h hp2)
    kernel_rfl
  · refine W_mid mlO_ok 1000 (mlChk 12 11 b _) ?_ (fun t g' h => ml_tail rfl h hp2)
    kernel_rfl
end Go.Proofs.Ytkbggcmlmlnepaa
end
section
set_option linter.unusedVariables false
set_option linter.unusedSimpArgs false
set_option maxRecDepth 100000
namespace Go.Proofs.Ytkbggcmlmlnepaa
open Go.Ab
theorem ml_13 (a b : Int) (hk : place a 20 = 13) : pureS funs 270 [.i .i64 a, .i .i64 b] = some (.b true) := by
  refine pure_of (fn := A_xlaw08_MemLast) rfl ?_
  have hp1 := sp_place (F := funs) rfl (v := a) (n := 20) (by omega) (by omega)
  have hp2 := sp_place (F := funs) rfl (v := b) (n := 13) (by omega) (by omega)
  obtain ⟨r0, r1⟩ := place_lt (v := b) (n := 13) (by omega)
  rw [hk] at hp1
  generalize place b 13 = p at hp2 r0 r1
  rw [ml_cut]
  generalize hr : mlT = rest
  simp (disch := omega) only [A_xlaw08_MemLast, sL, sR, wp, Nat.reduceAdd, Nat.reduceMul, Nat.reduceSub, hp1]
  subst hr
  unfold mlT
  rw [W_assoc, W_assoc, W_assoc3]
  have hp : p = 0 ∨ p = 1 ∨ p = 2 ∨ p = 3 ∨ p = 4 ∨ p = 5 ∨ p = 6 ∨ p = 7 ∨ p = 8 ∨ p = 9 ∨ p = 10 ∨ p = 11 ∨ p = 12 := by omega
  rcases hp with rfl | rfl | rfl | rfl | rfl | rfl | rfl | rfl | rfl | rfl | rfl | rfl | rfl
  · refine W_mid mlO_ok 1000 (mlChk 13 0 b _) ?_ (fun t g' h => ml_tail rfl h hp2)
    kernel_rfl
  · refine W_mid mlO_ok 1000 (mlChk 13 1 b _) ?_ (fun t g' h => ml_tail rfl h hp2)
    kernel_rfl
  · refine W_mid mlO_ok 1000 (mlChk 13 2 b _) ?_ (fun t g' h => ml_tail rfl h hp2)
    kernel_rfl
  · refine W_mid mlO_ok 1000 (mlChk 13 3 b _) ?_ (fun t g' h => ml_tail rfl h hp2)
    kernel_rfl
  · refine W_mid mlO_ok 1000 (mlChk 13 4 b _) ?_ (fun t g' h => ml_tail rfl h hp2)
    kernel_rfl
  · refine W_mid mlO_ok 1000 (mlChk 13 5 b _) ?_ (fun t g' h => ml_tail rfl h hp2)
    kernel_rfl
  · refine W_mid mlO_ok 1000 (mlChk 13 6 b _) ?_ (fun t g' h => ml_tail rfl h hp2)
    kernel_rfl
  · refine W_mid mlO_ok 1000 (mlChk 13 7 b _) ?_ (fun t g' h => ml_tail rfl h hp2)
    kernel_rfl
  · refine W_mid mlO_ok 1000 (mlChk 13 8 b _) ?_ (fun t g' h => ml_tail rfl h hp2)
    kernel_rfl
  · refine W_mid mlO_ok 1000 (mlChk 13 9 b _) ?_ (fun t g' h => ml_tail rfl h hp2)
    kernel_rfl
  · refine W_mid mlO_ok 1000 (mlChk 13 10 b _) ?_ (fun t g' h => ml_tail rfl h hp2)
    kernel_rfl
  · refine W_mid mlO_ok 1000 (mlChk 13 11 b _) ?_ (fun t g' h => ml_tail rfl h hp2)
    kernel_rfl
  · refine W_mid mlO_ok 1000 (mlChk 13 12 b _) ?_ (fun t g' h => ml_tail rfl h hp2)
    kernel_rfl
theorem ml_14 (a b : Int) (hk : place a 20 = 14) : pureS funs 270 [.i .i64 a, .i .i64 b] = some (.b true) := by
  refine pure_of (fn := A_xlaw08_MemLast) rfl ?_
  have hp1 := sp_place (F := funs) rfl (v := a) (n := 20) (by omega) (by omega)
  have hp2 := sp_place (F := funs) rfl (v := b) (n := 14) (by omega) (by omega)
  obtain ⟨r0, r1⟩ := place_lt (v := b) (n := 14) (by omega)
  rw [hk] at hp1
  generalize place b 14 = p at hp2 r0 r1
  rw [ml_cut]
  generalize hr : mlT = rest
  simp (disch := omega) only [A_xlaw08_MemLast, sL, sR, wp, Nat.reduceAdd, Nat.reduceMul, Nat.reduceSub, hp1]
  subst hr
  unfold mlT
  rw [W_assoc, W_assoc, W_assoc3]
  have hp : p = 0 ∨ p = 1 ∨ p = 2 ∨ p = 3 ∨ p = 4 ∨ p = 5 ∨ p = 6 ∨ p = 7 ∨ p = 8 ∨ p = 9 ∨ p = 10 ∨ p = 11 ∨ p = 12 ∨ p = 13 := by omega
  rcases hp with rfl | rfl | rfl | rfl | rfl | rfl | rfl | rfl | rfl | rfl | rfl | rfl | rfl | rfl
  · refine W_mid mlO_ok 1000 (mlChk 14 0 b _) ?_ (fun t g' h => ml_tail rfl h hp2)
    kernel_rfl
  · refine W_mid mlO_ok 1000 (mlChk 14 1 b _) ?_ (fun t g' h => ml_tail rfl h hp2)
    kernel_rfl
  · refine W_mid mlO_ok 1000 (mlChk 14 2 b _) ?_ (fun t g' h => ml_tail rfl h hp2)
    kernel_rfl
  · refine W_mid mlO_ok 1000 (mlChk 14 3 b _) ?_ (fun t g' h => ml_tail rfl h hp2)
    kernel_rfl
  · refine W_mid mlO_ok 1000 (mlChk 14 4 b _) ?_ (fun t g' h => ml_tail rfl h hp2)
    kernel_rfl
  · refine W_mid mlO_ok 1000 (mlChk 14 5 b _) ?_ (fun t g' h => ml_tail rfl h hp2)
    kernel_rfl
  · refine W_mid mlO_ok 1000 (mlChk 14 6 b _) ?_ (fun t g' h => ml_tail rfl h hp2)
    kernel_rfl
  · refine W_mid mlO_ok 1000 (mlChk 14 7 b _) ?_ (fun t g' h => ml_tail rfl h hp2)
    kernel_rfl
  · refine W_mid mlO_ok 1000 (mlChk 14 8 b _) ?_ (fun t g' h => ml_tail rfl h hp2)
    kernel_rfl
  · refine W_mid mlO_ok 1000 (mlChk 14 9 b _) ?_ (fun t g' h => ml_tail rfl h hp2)
    kernel_rfl
  · refine W_mid mlO_ok 1000 (mlChk 14 10 b _) ?_ (fun t g' h => ml_tail rfl h hp2)
    kernel_rfl
  · refine W_mid mlO_ok 1000 (mlChk 14 11 b _) ?_ (fun t g' h => ml_tail rfl h hp2)
    kernel_rfl
  · refine W_mid mlO_ok 1000 (mlChk 14 12 b _) ?_ (fun t g' h => ml_tail rfl h hp2)
    kernel_rfl
  · refine W_mid mlO_ok 1000 (mlChk 14 13 b _) ?_ (fun t g' h => ml_tail rfl h hp2)
    kernel_rfl
end Go.Proofs.Ytkbggcmlmlnepaa
end
section
set_option linter.unusedVariables false
set_option linter.unusedSimpArgs false
set_option maxRecDepth 100000
namespace Go.Proofs.Ytkbggcmlmlnepaa
open Go.Ab
theorem ml_15 (a b : Int) (hk : place a 20 = 15) : pureS funs 270 [.i .i64 a, .i .i64 b] = some (.b true) := by
  refine pure_of (fn := A_xlaw08_MemLast) rfl ?_
  have hp1 := sp_place (F := funs) rfl (v := a) (n := 20) (by omega) (by omega)
  have hp2 := sp_place (F := funs) rfl (v := b) (n := 15) (by omega) (by omega)
  obtain ⟨r0, r1⟩ := place_lt (v := b) (n := 15) (by omega)
  rw [hk] at hp1
  generalize place b 15 = p at hp2 r0 r1
  rw [ml_cut]
  generalize hr : mlT = rest
  simp (disch := omega) only [A_xlaw08_MemLast, sL, sR, wp, Nat.reduceAdd, Nat.reduceMul, Nat.reduceSub, hp1]
  subst hr
  unfold mlT
  rw [W_assoc, W_assoc, W_assoc3]
  have hp : p = 0 ∨ p = 1 ∨ p = 2 ∨ p = 3 ∨ p = 4 ∨ p = 5 ∨ p = 6 ∨ p = 7 ∨ p = 8 ∨ p = 9 ∨ p = 10 ∨ p = 11 ∨ p = 12 ∨ p = 13 ∨ p = 14 := by omega
  rcases hp with rfl | rfl | rfl | rfl | rfl | rfl | rfl | rfl | rfl | rfl | rfl | rfl | rfl | rfl | rfl
  · refine W_mid mlO_ok 1000 (mlChk 15 0 b _) ?_ (fun t g' h => ml_tail rfl h hp2)
    kernel_rfl
  · refine W_mid mlO_ok 1000 (mlChk 15 1 b _) ?_ (fun t g' h => ml_tail rfl h hp2)
    kernel_rfl
  · refine W_mid mlO_ok 1000 (mlChk 15 2 b _) ?_ (fun t g' h => ml_tail rfl h hp2)
    kernel_rfl
  · refine W_mid mlO_ok 1000 (mlChk 15 3 b _) ?_ (fun t g' h => ml_tail rfl h hp2)
    kernel_rfl
  · refine W_mid mlO_ok 1000 (mlChk 15 4 b _) ?_ (fun t g' h => ml_tail rfl h hp2)
    kernel_rfl
  · refine W_mid mlO_ok 1000 (mlChk 15 5 b _) ?_ (fun t g' h => ml_tail rfl h hp2)
    kernel_rfl
  · refine W_mid mlO_ok 1000 (mlChk 15 6 b _) ?_ (fun t g' h => ml_tail rfl h hp2)
    kernel_rfl
  · refine W_mid mlO_ok 1000 (mlChk 15 7 b _) ?_ (fun t g' h => ml_tail rfl h hp2)
    kernel_rfl
  · refine W_mid mlO_ok 1000 (mlChk 15 8 b _) ?_ (fun t g' h => ml_tail rfl h hp2)
    kernel_rfl
  · refine W_mid mlO_ok 1000 (mlChk 15 9 b _) ?_ (fun t g' h => ml_tail rfl h hp2)
    kernel_rfl
  · refine W_mid mlO_ok 1000 (mlChk 15 10 b _) ?_ (fun t g' h => ml_tail rfl h hp2)
    kernel_rfl
  · refine W_mid mlO_ok 1000 (mlChk 15 11 b _) ?_ (fun t g' h => ml_tail rfl h hp2)
    kernel_rfl
  · refine W_mid mlO_ok 1000 (mlChk 15 12 b _) ?_ (fun t g' h => ml_tail rfl h hp2)
    kernel_rfl
  · refine W_mid mlO_ok 1000 (mlChk 15 13 b _) ?_ (fun t g' h => ml_tail rfl h hp2)
    kernel_rfl
  · refine W_mid mlO_ok 1000 (mlChk 15 14 b _) ?_ (fun t g' h => ml_tail rfl h hp2)
    kernel_rfl
theorem ml_16 (a b : Int) (hk : place a 20 = 16) : pureS funs 270 [.i .i64 a, .i .i64 b] = some (.b true) := by
  refine pure_of (fn := A_xlaw08_MemLast) rfl ?_
  have hp1 := sp_place (F := funs) rfl (v := a) (n := 20) (by omega) (by omega)
  have hp2 := sp_place (F := funs) rfl (v := b) (n := 16) (by omega) (by omega)
  obtain ⟨r0, r1⟩ := place_lt (v := b) (n := 16) (by omega)
  rw [hk] at hp1
  generalize place b 16 = p at hp2 r0 r1
  rw [ml_cut]
  generalize hr : mlT = rest
  simp (disch := omega) only [A_xlaw08_MemLast, sL, sR, wp, Nat.reduceAdd, Nat.reduceMul, Nat.reduceSub, hp1]
  subst hr
  unfold mlT
  rw [W_assoc, W_assoc, W_assoc3]
  have hp : p = 0 ∨ p = 1 ∨ p = 2 ∨ p = 3 ∨ p = 4 ∨ p = 5 ∨ p = 6 ∨ p = 7 ∨ p = 8 ∨ p = 9 ∨ p = 10 ∨ p = 11 ∨ p = 12 ∨ p = 13 ∨ p = 14 ∨ p = 15 := by omega
  rcases hp with rfl | rfl | rfl | rfl | rfl | rfl | rfl | rfl | rfl | rfl | rfl | rfl | rfl | rfl | rfl | rfl
  · refine W_mid mlO_ok 1000 (mlChk 16 0 b _) ?_ (fun t g' h => ml_tail rfl h hp2)
    kernel_rfl
  · refine W_mid mlO_ok 1000 (mlChk 16 1 b _) ?_ (fun t g' h => ml_tail rfl h hp2)
    kernel_rfl
  · refine W_mid mlO_ok 1000 (mlChk 16 2 b _) ?_ (fun t g' h => ml_tail rfl h hp2)
    kernel_rfl
  · refine W_mid mlO_ok 1000 (mlChk 16 3 b _) ?_ (fun t g' h => ml_tail rfl h hp2)
    kernel_rfl
  · refine W_mid mlO_ok 1000 (mlChk 16 4 b _) ?_ (fun t g' h => ml_tail rfl h hp2)
    kernel_rfl
  · refine W_mid mlO_ok 1000 (mlChk 16 5 b _) ?_ (fun t g' h => ml_tail rfl h hp2)
    kernel_rfl
  · refine W_mid mlO_ok 1000 (mlChk 16 6 b _) ?_ (fun t g' h => ml_tail rfl h hp2)
    kernel_rfl
  · refine W_mid mlO_ok 1000 (mlChk 16 7 b _) ?_ (fun t g' h => ml_tail rfl h hp2)
    kernel_rfl
  · refine W_mid mlO_ok 1000 (mlChk 16 8 b _) ?_ (fun t g' h => ml_tail rfl h hp2)
    kernel_rfl
  · refine W_mid mlO_ok 1000 (mlChk 16 9 b _) ?_ (fun t g' h => ml_tail rfl h hp2)
    kernel_rfl
  · refine W_mid mlO_ok 1000 (mlChk 16 10 b _) ?_ (fun t g' h => ml_tail rfl h hp2)
    kernel_rfl
  · refine W_mid mlO_ok 1000 (mlChk 16 11 b _) ?_ (fun t g' h => ml_tail rfl h hp2)
    kernel_rfl
  · refine W_mid mlO_ok 1000 (mlChk 16 12 b _) ?_ (fun t g' h => ml_tail rfl h hp2)
    kernel_rfl
  · refine W_mid mlO_ok 1000 (mlChk 16 13 b _) ?_ (fun t g' h => ml_tail rfl h hp2)
    kernel_rfl
  · refine W_mid mlO_ok 1000 (mlChk 16 14 b _) ?_ (fun t g' h => ml_tail rfl h hp2)
    kernel_rfl
  · refine W_mid mlO_ok 1000 (mlChk 16 15 b _) ?_ (fun t g' h => ml_tail rfl h hp2)
    kernel_rfl
end Go.Proofs.Ytkbggcmlmlnepaa
end
section
set_option linter.unusedVariables false
set_option linter.unusedSimpArgs false
set_option maxRecDepth 100000
namespace Go.Proofs.Ytkbggcmlmlnepaa
open Go.Ab
theorem ml_17 (a b : Int) (hk : place a 20 = 17) : pureS funs 270 [.i .i64 a, .i .i64 b] = some (.b true) := by
  refine pure_of (fn := A_xlaw08_MemLast) rfl ?_
  have hp1 := sp_place (F := funs) rfl (v := a) (n := 20) (by omega) (by omega)
  have hp2 := sp_place (F := funs) rfl (v := b) (n := 17) (by omega) (by omega)
  obtain ⟨r0, r1⟩ := place_lt (v := b) (n := 17) (by omega)
  rw [hk] at hp1
  generalize place b 17 = p at hp2 r0 r1
  rw [ml_cut]
  generalize hr : mlT = rest
  simp (disch := omega) only [A_xlaw08_MemLast, sL, sR, wp, Nat.reduceAdd, Nat.reduceMul, Nat.reduceSub, hp1]
  subst hr
  unfold mlT
  rw [W_assoc, W_assoc, W_assoc3]
  have hp : p = 0 ∨ p = 1 ∨ p = 2 ∨ p = 3 ∨ p = 4 ∨ p = 5 ∨ p = 6 ∨ p = 7 ∨ p = 8 ∨ p = 9 ∨ p = 10 ∨ p = 11 ∨ p = 12 ∨ p = 13 ∨ p = 14 ∨ p = 15 ∨ p = 16 := by omega
  rcases hp with rfl | rfl | rfl | rfl | rfl | rfl | rfl | rfl | rfl | rfl | rfl | rfl | rfl | rfl | rfl | rfl | rfl
  · refine W_mid mlO_ok 1000 (mlChk 17 0 b _) ?_ (fun t g' h => ml_tail rfl h hp2)
    kernel_rfl
  · refine W_mid mlO_ok 1000 (mlChk 17 1 b _) ?_ (fun t g' h => ml_tail rfl h hp2)
    kernel_rfl
  · refine W_mid mlO_ok 1000 (mlChk 17 2 b _) ?_ (fun t g' h => ml_tail rfl h hp2)
    kernel_rfl
  · refine W_mid mlO_ok 1000 (mlChk 17 3 b _) ?_ (fun t g' h => ml_tail rfl h hp2)
    kernel_rfl
  · refine W_mid mlO_ok 1000 (mlChk 17 4 b _) ?_ (fun t g' h => ml_tail rfl h hp2)
    kernel_rfl
  · refine W_mid mlO_ok 1000 (mlChk 17 5 b _) ?_ (fun t g' h => ml_tail rfl h hp2)
    kernel_rfl
  · refine W_mid mlO_ok 1000 (mlChk 17 6 b _) ?_ (fun t g' h => ml_tail rfl h hp2)
    kernel_rfl
  · refine W_mid mlO_ok 1000 (mlChk 17 7 b _) ?_ (fun t g' h => ml_tail rfl h hp2)
    kernel_rfl
  · refine W_mid mlO_ok 1000 (mlChk 17 8 b _) ?_ (fun t g' h => ml_tail rfl h hp2)
    kernel_rfl
  · refine W_mid mlO_ok 1000 (mlChk 17 9 b _) ?_ (fun t g' h => ml_tail rfl h hp2)
    kernel_rfl
  · refine W_mid mlO_ok 1000 (mlChk 17 10 b _) ?_ (fun t g' h => ml_tail rfl h hp2)
    kernel_rfl
  · refine W_mid mlO_ok 1000 (mlChk 17 11 b _) ?_ (fun t g' h => ml_tail rfl h hp2)
    kernel_rfl
  · refine W_mid mlO_ok 1000 (mlChk 17 12 b _) ?_ (fun t g' h => ml_tail rfl h hp2)
    kernel_rfl
  · refine W_mid mlO_ok 1000 (mlChk 17 13 b _) ?_ (fun t g' h => ml_tail rfl h hp2)
    kernel_rfl
  · refine W_mid mlO_ok 1000 (mlChk 17 14 b _) ?_ (fun t g' h => ml_tail rfl h hp2)
    kernel_rfl
  · refine W_mid mlO_ok 1000 (mlChk 17 15 b _) ?_ (fun t g' h => ml_tail rfl h hp2)
    kernel_rfl
  · refine W_mid mlO_ok 1000 (mlChk 17 16 b _) ?_ (fun t g' h => ml_tail rfl h hp2)
    kernel_rfl
end Go.Proofs.Ytkbggcmlmlnepaa
end
section
set_option linter.unusedVariables false
set_option linter.unusedSimpArgs false
set_option maxRecDepth 100000
namespace Go.Proofs.Ytkbggcmlmlnepaa
open Go.Ab
theorem ml_18 (a b : Int) (hk : place a 20 = 18) : pureS funs 270 [.i .i64 a, .i .i64 b] = some (.b true) := by
  refine pure_of (fn := A_xlaw08_MemLast) rfl ?_
  have hp1 := sp_place (F := funs) rfl (v := a) (n := 20) (by omega) (by omega)
  have hp2 := sp_place (F := funs) rfl (v := b) (n := 18) (by omega) (by omega)
  obtain ⟨r0, r1⟩ := place_lt (v := b) (n := 18) (by omega)
  rw [hk] at hp1
  generalize place b 18 = p at hp2 r0 r1
  rw [ml_cut]
  generalize hr : mlT = rest
  simp (disch := omega) only [A_xlaw08_MemLast, sL, sR, wp, Nat.reduceAdd, Nat.reduceMul, Nat.reduceSub, hp1]
  subst hr
  unfold mlT
  rw [W_assoc, W_assoc, W_assoc3]
  have hp : p = 0 ∨ p = 1 ∨ p = 2 ∨ p = 3 ∨ p = 4 ∨ p = 5 ∨ p = 6 ∨ p = 7 ∨ p = 8 ∨ p = 9 ∨ p = 10 ∨ p = 11 ∨ p = 12 ∨ p = 13 ∨ p = 14 ∨ p = 15 ∨ p = 16 ∨ p = 17 := by omega
  rcases hp with rfl | rfl | rfl | rfl | rfl | rfl | rfl | rfl | rfl | rfl | rfl | rfl | rfl | rfl | rfl | rfl | rfl | rfl
  · refine W_mid mlO_ok 1000 (mlChk 18 0 b _) ?_ (fun t g' h => ml_tail rfl h hp2)
    kernel_rfl
  · refine W_mid mlO_ok 1000 (mlChk 18 1 b _) ?_ (fun t g' h => ml_tail rfl h hp2)
    kernel_rfl
  · refine W_mid mlO_ok 1000 (mlChk 18 2 b _) ?_ (fun t g' h => ml_tail rfl h hp2)
    kernel_rfl
  · refine W_mid mlO_ok 1000 (mlChk 18 3 b _) ?_ (fun t g' h => ml_tail rfl h hp2)
    kernel_rfl
  · refine W_mid mlO_ok 1000 (mlChk 18 4 b _) ?_ (fun t g' h => ml_tail rfl h hp2)
    kernel_rfl
  · refine W_mid mlO_ok 1000 (mlChk 18 5 b _) ?_ (fun t g' h => ml_tail rfl h hp2)
    kernel_rfl
  · refine W_mid mlO_ok 1000 (mlChk 18 6 b _) ?_ (fun t g' h => ml_tail rfl h hp2)
    kernel_rfl
  · refine W_mid mlO_ok 1000 (mlChk 18 7 b _) ?_ (fun t g' h => ml_tail rfl h hp2)
    kernel_rfl
  · refine W_mid mlO_ok 1000 (mlChk 18 8 b _) ?_ (fun t g' h => ml_tail rfl h hp2)
    kernel_rfl
  · refine W_mid mlO_ok 1000 (mlChk 18 9 b _) ?_ (fun t g' h => ml_tail rfl h hp2)
    kernel_rfl
  · refine W_mid mlO_ok 1000 (mlChk 18 10 b _) ?_ (fun t g' h => ml_tail rfl h hp2)
    kernel_rfl
  · refine W_mid mlO_ok 1000 (mlChk 18 11 b _) ?_ (fun t g' h => ml_tail rfl h hp2)
    kernel_rfl
  · refine W_mid mlO_ok 1000 (mlChk 18 12 b _) ?_ (fun t g' h => ml_tail rfl h hp2)
    kernel_rfl
  · refine W_mid mlO_ok 1000 (mlChk 18 13 b _) ?_ (fun t g' h => ml_tail rfl h hp2)
    kernel_rfl
  · refine W_mid mlO_ok 1000 (mlChk 18 14 b _) ?_ (fun t g' h => ml_tail rfl h hp2)
    kernel_rfl
  · refine W_mid mlO_ok 1000 (mlChk 18 15 b _) ?_ (fun t g' h => ml_tail rfl h hp2)
    kernel_rfl
  · refine W_mid mlO_ok 1000 (mlChk 18 16 b _) ?_ (fun t g' h => ml_tail rfl h hp2)
    kernel_rfl
  · refine W_mid mlO_ok 1000 (mlChk 18 17 b _) ?_ (fun t g' h => ml_tail rfl h hp2)
    kernel_rfl
end Go.Proofs.Ytkbggcmlmlnepaa
end
section
set_option linter.unusedVariables false
set_option linter.unusedSimpArgs false
set_option maxRecDepth 100000
namespace Go.Proofs.Ytkbggcmlmlnepaa
open Go.Ab
theorem ml_19 (a b : Int) (hk : place a 20 = 19) : pureS funs 270 [.i .i64 a, .i .i64 b] = some (.b true) := by
  refine pure_of (fn := A_xlaw08_MemLast) rfl ?_
  have hp1 := sp_place (F := funs) rfl (v := a) (n := 20) (by omega) (by omega)
  have hp2 := sp_place (F := funs) rfl (v := b) (n := 19) (by omega) (by omega)
  obtain ⟨r0, r1⟩ := place_lt (v := b) (n := 19) (by omega)
  rw [hk] at hp1
  generalize place b 19 = p at hp2 r0 r1
  rw [ml_cut]
  generalize hr : mlT = rest
  simp (disch := omega) only [A_xlaw08_MemLast, sL, sR, wp, Nat.reduceAdd, Nat.reduceMul, Nat.reduceSub, hp1]
  subst hr
  unfold mlT
  rw [W_assoc, W_assoc, W_assoc3]
  have hp : p = 0 ∨ p = 1 ∨ p = 2 ∨ p = 3 ∨ p = 4 ∨ p = 5 ∨ p = 6 ∨ p = 7 ∨ p = 8 ∨ p = 9 ∨ p = 10 ∨ p = 11 ∨ p = 12 ∨ p = 13 ∨ p = 14 ∨ p = 15 ∨ p = 16 ∨ p = 17 ∨ p = 18 := by omega
  rcases hp with rfl | rfl | rfl | rfl | rfl | rfl | rfl | rfl | rfl | rfl | rfl | rfl | rfl | rfl | rfl | rfl | rfl | rfl | rfl
  · refine W_mid mlO_ok 1000 (mlChk 19 0 b _) ?_ (fun t g' h => ml_tail rfl h hp2)
    kernel_rfl
  · refine W_mid mlO_ok 1000 (mlChk 19 1 b _) ?_ (fun t g' h => ml_tail rfl h hp2)
    kernel_rfl
  · refine W_mid mlO_ok 1000 (mlChk 19 2 b _) ?_ (fun t g' h => ml_tail rfl h hp2)
    kernel_rfl
  · refine W_mid mlO_ok 1000 (mlChk 19 3 b _) ?_ (fun t g' h => ml_tail rfl h hp2)
    kernel_rfl
  · refine W_mid mlO_ok 1000 (mlChk 19 4 b _) ?_ (fun t g' h => ml_tail rfl h hp2)
    kernel_rfl
  · refine W_mid mlO_ok 1000 (mlChk 19 5 b _) ?_ (fun t g' h => ml_tail rfl h hp2)
    kernel_rfl
  · refine W_mid mlO_ok 1000 (mlChk 19 6 b _) ?_ (fun t g' h => ml_tail rfl h hp2)
    kernel_rfl
  · refine W_mid mlO_ok 1000 (mlChk 19 7 b _) ?_ (fun t g' h => ml_tail rfl h hp2)
    kernel_rfl
  · refine W_mid mlO_ok 1000 (mlChk 19 8 b _) ?_ (fun t g' h => ml_tail rfl h hp2)
    kernel_rfl
  · refine W_mid mlO_ok 1000 (mlChk 19 9 b _) ?_ (fun t g' h => ml_tail rfl h hp2)
    kernel_rfl
  · refine W_mid mlO_ok 1000 (mlChk 19 10 b _) ?_ (fun t g' h => ml_tail rfl h hp2)
    kernel_rfl
  · refine W_mid mlO_ok 1000 (mlChk 19 11 b _) ?_ (fun t g' h => ml_tail rfl h hp2)
    kernel_rfl
  · refine W_mid mlO_ok 1000 (mlChk 19 12 b _) ?_ (fun t g' h => ml_tail rfl h hp2)
    kernel_rfl
  · refine W_mid mlO_ok 1000 (mlChk 19 13 b _) ?_ (fun t g' h => ml_tail rfl h hp2)
    kernel_rfl
  · refine W_mid mlO_ok 1000 (mlChk 19 14 b _) ?_ (fun t g' h => ml_tail rfl h hp2)
    kernel_rfl
  · refine W_mid mlO_ok 1000 (mlChk 19 15 b _) ?_ (fun t g' h => ml_tail rfl h hp2)
    kernel_rfl
  · refine W_mid mlO_ok 1000 (mlChk 19 16 b _) ?_ (fun t g' h => ml_tail rfl h hp2)
    kernel_rfl
  · refine W_mid mlO_ok 1000 (mlChk 19 17 b _) ?_ (fun t g' h => ml_tail rfl h hp2)
    kernel_rfl
  · refine W_mid mlO_ok 1000 (mlChk 19 18 b _) ?_ (fun t g' h => ml_tail rfl h hp2)
    kernel_rfl
end Go.Proofs.Ytkbggcmlmlnepaa
end
section
namespace Go.Proofs.Ytkbggcmlmlnepaa
open Go.Ab
theorem memLast_law (a b : Int) : pureS funs 270 [.i .i64 a, .i .i64 b] = some (.b true) := by
  obtain ⟨q0, q1⟩ := place_lt (v := a) (n := 20) (by omega)
  generalize hx : place a 20 = x at q0 q1
  have h : x = 0 ∨ x = 1 ∨ x = 2 ∨ x = 3 ∨ x = 4 ∨ x = 5 ∨ x = 6 ∨ x = 7 ∨ x = 8 ∨ x = 9 ∨ x = 10 ∨ x = 11 ∨ x = 12 ∨ x = 13 ∨ x = 14 ∨ x = 15 ∨ x = 16 ∨ x = 17 ∨ x = 18 ∨ x = 19 := by omega
  rcases h with rfl | rfl | rfl | rfl | rfl | rfl | rfl | rfl | rfl | rfl | rfl | rfl | rfl | rfl | rfl | rfl | rfl | rfl | rfl | rfl
  · exact ml_0 a b hx
  · exact ml_1 a b hx
  · exact ml_2 a b hx
  · exact ml_3 a b hx
  · exact ml_4 a b hx
  · exact ml_5 a b hx
  · exact ml_6 a b hx
  · exact ml_7 a b hx
  · exact ml_8 a b hx
  · exact ml_9 a b hx
  · exact ml_10 a b hx
  · exact ml_11 a b hx
  · exact ml_12 a b hx
  · exact ml_13 a b hx
  · exact ml_14 a b hx
  · exact ml_15 a b hx
  · exact ml_16 a b hx
  · exact ml_17 a b hx
  · exact ml_18 a b hx
  · exact ml_19 a b hx
end Go.Proofs.Ytkbggcmlmlnepaa
end
