/- What GraphPo rests on, part 3: lemmas, no claim of its own. -/
import Derived.Test.YtoldeneclhbcbaaPGraphPo2
section
set_option linter.unusedVariables false
namespace Go.Ab
section
variable (F : Funs)
def W (c : ACode) (e : Env) (g : G) (Q : Out → Env → G → Prop) : Prop := ∃ o e' g', codeS F c e g = some (o, e', g') ∧ Q o e' g'
def WR (d : Bool) (b j : Nat) (ops : List AOper) (e : Env) (g : G) (K : Env → G → Prop) : Prop := ∃ e' g', regE (callS F) d b j ops e g = some (e', g') ∧ K e' g'
def thenQ (b : ACode) (Q : Out → Env → G → Prop) : Out → Env → G → Prop
  | .nrm, e, g => W F b e g Q
  | o, e, g => Q o e g
def selW (t f : ACode) (e : Env) (g : G) (Q : Out → Env → G → Prop) : AV → Prop
  | .b true => W F t e g Q
  | .b false => W F f e g Q
  | _ => False
def blkQ (id : Nat) (Q : Out → Env → G → Prop) : Out → Env → G → Prop
  | .ext n, e, g => if n = id then Q .nrm e g else Q (.ext n) e g
  | o, e, g => Q o e g
def nrmQ (Q : Out → Env → G → Prop) (e : Env) (g : G) : Prop := Q .nrm e g
def bindO (d : Bool) (b j : Nat) (dst : Option Nat) (os : List AOper) (e : Env) (K : Env → G → Prop) : Option (AV × G) → Prop
  | some (v, g) => WR F d b j os (put e dst v) g K
  | none => False
def selO (d : Bool) (b j : Nat) (dst : Option Nat) (os : List AOper) (e : Env) (op : AOp) (pre : List Nat) (g : G) (K : Env → G → Prop) (w : Bool) : Prop :=
  if w then bindO F d b (j + 1) dst os e K (opE (callS F) (allow d b pre) b (b + j) op e g) else WR F d b (j + 1) os (put e dst .undef) g K
end
section
variable {F : Funs}
theorem W_skip {e g Q} : W F .skip e g Q = Q .nrm e g := by
  unfold W; rw [codeS_skip]; apply propext
  exact ⟨fun ⟨o, e', g', h, q⟩ => by cases h; exact q, fun q => ⟨_, _, _, rfl, q⟩⟩
theorem W_ext {id e g Q} : W F (.ext id) e g Q = Q (.ext id) e g := by
  unfold W; rw [codeS_ext]; apply propext
  exact ⟨fun ⟨o, e', g', h, q⟩ => by cases h; exact q, fun q => ⟨_, _, _, rfl, q⟩⟩
theorem W_ret {e g Q} : W F .ret e g Q = Q .ret e g := by
  unfold W; rw [codeS_ret]; apply propext
  exact ⟨fun ⟨o, e', g', h, q⟩ => by cases h; exact q, fun q => ⟨_, _, _, rfl, q⟩⟩
theorem W_seq {a b e g Q} : W F (.seq a b) e g Q = W F a e g (thenQ F b Q) := by
  unfold W; rw [cS_seq]; apply propext
  constructor
  · intro ⟨o, e', g', h, q⟩
    cases hc : codeS F a e g with
    | none => rw [hc] at h; cases h
    | some r =>
      obtain ⟨o1, e1, g1⟩ := r
      rw [hc] at h
      refine ⟨o1, e1, g1, rfl, ?_⟩
      cases o1 with
      | nrm => exact ⟨o, e', g', h, q⟩
      | ext n => cases h; exact q
      | ret => cases h; exact q
  · intro ⟨o, e', g', h, q⟩
    rw [h]
    cases o with
    | nrm => exact q
    | ext n => exact ⟨_, _, _, rfl, q⟩
    | ret => exact ⟨_, _, _, rfl, q⟩
theorem thenQ_nrm {b Q e g} : thenQ F b Q .nrm e g = W F b e g Q := rfl
theorem thenQ_ext {b Q n e g} : thenQ F b Q (.ext n) e g = Q (.ext n) e g := rfl
theorem thenQ_ret {b Q e g} : thenQ F b Q .ret e g = Q .ret e g := rfl
theorem W_cond {c t f e g Q} : W F (.cond c t f) e g Q = selW F t f e g Q (c.ev e) := by
  unfold W; rw [cS_cond]; apply propext
  generalize c.ev e = v
  cases v <;> simp only [selS, selW] <;> try (constructor <;> (intro h; first | exact h.elim | (obtain ⟨_, _, _, h, _⟩ := h; cases h)))
  rename_i x
  cases x <;> simp [W]
theorem selW_true {t f e g Q} : selW F t f e g Q (.b true) = W F t e g Q := rfl
theorem selW_false {t f e g Q} : selW F t f e g Q (.b false) = W F f e g Q := rfl
theorem W_scp {c e g Q} : W F (.scp c) e g Q = W F c e g Q := by unfold W; rw [codeS_scp]
theorem W_lab {e g Q} : W F .lab e g Q = Q .nrm e g := by
  unfold W; rw [codeS_lab]; apply propext
  exact ⟨fun ⟨o, e', g', h, q⟩ => by cases h; exact q, fun q => ⟨_, _, _, rfl, q⟩⟩
theorem W_blk {id c e g Q} : W F (.blk id c) e g Q = W F c e g (blkQ id Q) := by
  unfold W; rw [cS_blk]; apply propext
  constructor
  · intro ⟨o, e', g', h, q⟩
    cases hc : codeS F c e g with
    | none => rw [hc] at h; cases h
    | some r =>
      obtain ⟨o1, e1, g1⟩ := r
      rw [hc] at h
      refine ⟨o1, e1, g1, rfl, ?_⟩
      cases o1 with
      | nrm => cases h; exact q
      | ext n =>
        cases h
        show if n = id then _ else _
        split
        · rename_i hn; rw [if_pos hn] at q; exact q
        · rename_i hn; rw [if_neg hn] at q; exact q
      | ret => cases h; exact q
  · intro ⟨o, e', g', h, q⟩
    rw [h]
    cases o with
    | nrm => exact ⟨_, _, _, rfl, q⟩
    | ext n =>
      refine ⟨_, _, _, rfl, ?_⟩
      have q : if n = id then Q .nrm e' g' else Q (.ext n) e' g' := q
      split
      · rename_i hn; rw [if_pos hn] at q; exact q
      · rename_i hn; rw [if_neg hn] at q; exact q
    | ret => exact ⟨_, _, _, rfl, q⟩
theorem blkQ_nrm {id Q e g} : blkQ id Q .nrm e g = Q .nrm e g := rfl
theorem blkQ_ret {id Q e g} : blkQ id Q .ret e g = Q .ret e g := rfl
theorem blkQ_same {id Q e g} : blkQ id Q (.ext id) e g = Q .nrm e g := if_pos rfl
theorem blkQ_ne {id n Q e g} (h : n ≠ id) : blkQ id Q (.ext n) e g = Q (.ext n) e g := if_neg h
theorem W_reg {d ops e g Q} : W F (.reg d ops) e g Q = WR F d g.nx 0 ops e ⟨g.hp, g.nx + ops.length⟩ (nrmQ Q) := by
  unfold W WR; rw [cS_reg]; apply propext
  constructor
  · intro ⟨o, e', g', h, q⟩
    cases hc : regE (callS F) d g.nx 0 ops e ⟨g.hp, g.nx + ops.length⟩ with
    | none => rw [hc] at h; cases h
    | some r =>
      rw [hc] at h
      cases h
      exact ⟨_, _, rfl, q⟩
  · intro ⟨e', g', h, q⟩
    rw [h]
    exact ⟨.nrm, e', g', rfl, q⟩
theorem nrmQ_is {Q e g} : nrmQ Q e g = Q .nrm e g := rfl
theorem WR_nil {d b j e g K} : WR F d b j [] e g K = K e g := by
  unfold WR; apply propext
  simp only [regE_nil]
  exact ⟨fun ⟨e', g', h, q⟩ => by cases h; exact q, fun q => ⟨_, _, rfl, q⟩⟩
theorem WR_cons {d b j dst op grd pre os e g K} : WR F d b j ({ dst, op, grd, pre } :: os) e g K = selO F d b j dst os e op pre g K (wanted e grd) := by
  unfold WR; rw [regE_cons]
  generalize wanted e grd = w
  cases w
  · rfl
  · rw [selR_true]
    show _ = bindO _ _ _ _ _ _ _ _ _
    cases opE (callS F) (allow d b pre) b (b + j) op e g with
    | none =>
      apply propext
      constructor
      · intro ⟨_, _, h, _⟩; cases h
      · intro h; exact False.elim h
    | some r => rfl
theorem selO_true {d b j dst os e op pre g K} : selO F d b j dst os e op pre g K true = bindO F d b (j + 1) dst os e K (opE (callS F) (allow d b pre) b (b + j) op e g) := rfl
theorem selO_false {d b j dst os e op pre g K} : selO F d b j dst os e op pre g K false = WR F d b (j + 1) os (put e dst .undef) g K := rfl
theorem bindO_some {d b j dst os e K v g} : bindO F d b j dst os e K (some (v, g)) = WR F d b j os (put e dst v) g K := rfl
theorem W_mono {c e g} {Q Q' : Out → Env → G → Prop} (h : W F c e g Q) (hq : ∀ o e g, Q o e g → Q' o e g) : W F c e g Q' := by
  obtain ⟨o, e', g', h1, h2⟩ := h; exact ⟨o, e', g', h1, hq _ _ _ h2⟩
def loopQ (I : Nat → Env → G → Prop) (m : Nat) (Q : Out → Env → G → Prop) : Out → Env → G → Prop
  | .nrm, e, g => ∃ m', m' < m ∧ I m' e g
  | o, e, g => Q o e g
theorem loopQ_nrm {I m Q e g} : loopQ I m Q .nrm e g = ∃ m', m' < m ∧ I m' e g := rfl
theorem loopQ_ext {I m Q n e g} : loopQ I m Q (.ext n) e g = Q (.ext n) e g := rfl
theorem loopQ_ret {I m Q e g} : loopQ I m Q .ret e g = Q .ret e g := rfl
theorem W_loop {c e g Q} (I : Nat → Env → G → Prop) (n : Nat) (h0 : I n e g) (h : ∀ m e g, I m e g → W F c e g (loopQ I m Q)) : W F (.loop c) e g Q := by
  have key : ∀ m e g, I m e g → W F (.loop c) e g Q := by
    intro m
    induction m using Nat.strongRecOn with
    | _ m ih =>
      intro e g hI
      obtain ⟨o, e1, g1, h1, h2⟩ := h m e g hI
      unfold W
      rw [cS_loop, h1]
      cases o with
      | nrm =>
        obtain ⟨m', hm, hI'⟩ := h2
        exact ih m' hm e1 g1 hI'
      | ext n => exact ⟨_, _, _, rfl, h2⟩
      | ret => exact ⟨_, _, _, rfl, h2⟩
  exact key n e g h0
noncomputable def pureS (F : Funs) (f : Nat) (asx : List AV) : Option AV := match callS F f asx g0 with
  | some (v, g) => frz g.hp depth v
  | none => none
noncomputable def vPure (F : Funs) (al : Nat → Bool) (f : AV) (args : List AV) (g : G) : Option (AV × G) := vCall (callS F) al 0 .pure f args g
theorem o_pure {al lo id e g} (f : Opd) (asx : List Opd) : opE (callS F) al lo id (.call .pure f asx) e g = vPure F al (f.ev e) (asx.map (·.ev e)) g := rfl
theorem vPure_ok {al : Nat → Bool} {fid : Nat} {fst caps args bs : List AV} {g : G} {v : AV} (h1 : frzL (rd g al) depth (fst ++ args ++ caps) = some bs) (h2 : pureS F fid bs = some v) (h3 : (flat v || ((fst ++ args ++ caps).flatMap (vis (rd g al) depth)).isEmpty) = true) :
    vPure F al (.fn fid fst caps) args g = some (v, g) := by
  unfold pureS at h2
  split at h2
  · rename_i v0 g' hc
    have hc' : callS F fid bs ⟨fun _ => none, 0⟩ = some (v0, g') := hc
    unfold vPure vCall
    simp only [h1, hc', h2, h3, if_true]
  · cases h2
def retQ (rs : List ARes) (v : AV) : Out → Env → G → Prop
  | .ext _, _, _ => False
  | _, e, g => (match resE rs e g with | some v0 => frz g.hp depth v0 | none => none) = some v
theorem retQ_nrm {rs v e g} : retQ rs v .nrm e g = ((match resE rs e g with | some v0 => frz g.hp depth v0 | none => none) = some v) := rfl
theorem retQ_ret {rs v e g} : retQ rs v .ret e g = ((match resE rs e g with | some v0 => frz g.hp depth v0 | none => none) = some v) := rfl
theorem pure_of {f : Nat} {fn : AFun} {asx : List AV} {v : AV} (hF : F f = some fn) (h : W F fn.body (argEnv asx) g0 (retQ fn.res v)) : pureS F f asx = some v := by
  obtain ⟨o, e, g, h1, h2⟩ := h
  unfold pureS
  rw [callS_eq, hF]
  simp only [h1]
  cases o with
  | ext n => exact h2.elim
  | nrm =>
    have h2 : (match resE fn.res e g with | some v0 => frz g.hp depth v0 | none => none) = some v := h2
    cases hr : resE fn.res e g with
    | none => rw [hr] at h2; cases h2
    | some v0 => rw [hr] at h2; simp only [hr, Option.map_some]; exact h2
  | ret =>
    have h2 : (match resE fn.res e g with | some v0 => frz g.hp depth v0 | none => none) = some v := h2
    cases hr : resE fn.res e g with
    | none => rw [hr] at h2; cases h2
    | some v0 => rw [hr] at h2; simp only [hr, Option.map_some]; exact h2
end
theorem argEnv_0 (a l) : argEnv (a :: l) 0 = a := rfl
theorem argEnv_1 (a b l) : argEnv (a :: b :: l) 1 = b := rfl
theorem argEnv_2 (a b c l) : argEnv (a :: b :: c :: l) 2 = c := rfl
theorem argEnv_3 (a b c d l) : argEnv (a :: b :: c :: d :: l) 3 = d := rfl
theorem argEnv_4 (a b c d e l) : argEnv (a :: b :: c :: d :: e :: l) 4 = e := rfl
theorem argEnv_5 (a b c d e f l) : argEnv (a :: b :: c :: d :: e :: f :: l) 5 = f := rfl
theorem res_1 (n e g) : resE [.t n] e g = some (e n) := rfl
theorem res_2 (n m e g) : resE [.t n, .t m] e g = some (.tup [e n, e m]) := rfl
theorem frz_flat {hp} {d : Nat} {v : AV} (h : flat v = true) : frz hp (d + 1) v = some v := by cases v <;> first | (cases h; done) | simp only [frz]
theorem frzL_flat {hp} {d : Nat} : ∀ {cs : List AV}, cs.all flat = true → frzL hp (d + 1) cs = some cs
  | [], _ => by simp only [frzL]
  | c :: cs, h => by
    simp only [List.all_cons, Bool.and_eq_true] at h
    simp only [frzL, frz_flat h.1, frzL_flat h.2]
theorem frzL_nil (hp d) : frzL hp d [] = some [] := by simp only [frzL]
def consO (c : Option AV) (cs : Option (List AV)) : Option (List AV) := match c, cs with
  | some c, some cs => some (c :: cs)
  | _, _ => none
theorem consO_ok (c cs) : consO (some c) (some cs) = some (c :: cs) := rfl
theorem frzL_cons (hp d c cs) : frzL hp d (c :: cs) = consO (frz hp d c) (frzL hp d cs) := by
  simp only [frzL]
  cases frz hp d c <;> cases frzL hp d cs <;> rfl
theorem frz_d_i (hp k n) : frz hp depth (.i k n) = some (.i k n) := by show frz hp (8 + 1) _ = _; simp only [frz]
theorem frz_d_b (hp x) : frz hp depth (.b x) = some (.b x) := by show frz hp (8 + 1) _ = _; simp only [frz]
theorem frz_d_s (hp x) : frz hp depth (.s x) = some (.s x) := by show frz hp (8 + 1) _ = _; simp only [frz]
theorem frz_d_nilp (hp) : frz hp depth .nilp = some .nilp := by show frz hp (8 + 1) _ = _; simp only [frz]
theorem frz_d_ptr (hp cs) : frz hp depth (.ptr cs) = some (.ptr cs) := by show frz hp (8 + 1) _ = _; simp only [frz]
theorem frz_d_sl (hp cs n t) : frz hp depth (.sl cs n t) = some (.sl cs n .non) := by show frz hp (8 + 1) _ = _; simp only [frz]
theorem frz_d_fn0 (hp f) : frz hp depth (.fn f [] []) = some (.fn f [] []) := by show frz hp (8 + 1) _ = _; simp only [frz, frzL]
noncomputable def frzB (hp : Nat → Option Blk) (off : Nat) (cs : List AV) (x : Bool) : Option (List AV) := if x then some (cs.drop off) else frzL hp 8 (cs.drop off)
noncomputable def frzP (hp : Nat → Option Blk) (off : Nat) (f : List AV → AV) : Option Blk → Option AV
  | some (.cells cs _) => (frzB hp off cs (cs.all flat)).map f
  | _ => none
theorem frzB_eq (hp : Nat → Option Blk) (off : Nat) (cs : List AV) : frzB hp off cs (cs.all flat) = frzL hp 8 (cs.drop off) := by
  unfold frzB
  split
  · rename_i hf
    refine (frzL_flat ?_).symm
    rw [List.all_eq_true] at hf ⊢
    exact fun x hx => hf x (List.mem_of_mem_drop hx)
  · rfl
theorem frz_P (hp : Nat → Option Blk) (id off : Nat) : frz hp depth (.mp id off) = frzP hp off .ptr (hp id) := by
  show frz hp (8 + 1) _ = _
  simp only [frz]
  unfold frzP
  simp only [frzB_eq]
  cases hp id with
  | none => rfl
  | some b => cases b <;> rfl
theorem frz_Q (hp : Nat → Option Blk) (id off n : Nat) : frz hp depth (.ms id off n) = frzP hp off (fun cs => .sl cs n .non) (hp id) := by
  show frz hp (8 + 1) _ = _
  simp only [frz]
  unfold frzP
  simp only [frzB_eq]
  cases hp id with
  | none => rfl
  | some b => cases b <;> rfl
theorem frzP_cells (hp off f cs ro) : frzP hp off f (some (.cells cs ro)) = (frzB hp off cs (cs.all flat)).map f := rfl
theorem frzB_true (hp off cs) : frzB hp off cs true = some (cs.drop off) := rfl
theorem map_some' (f : List AV → AV) (cs : List AV) : (some cs).map f = some (f cs) := rfl
noncomputable def purD (g : G) (vs : List Nat) : Option AV → Option (AV × G)
  | some v => if flat v || vs.isEmpty then some (v, g) else none
  | none => none
def purE (g : G) (v : AV) (x : Bool) : Option (AV × G) := if x then some (v, g) else none
theorem purD_some (g vs v) : purD g vs (some v) = purE g v (flat v || vs.isEmpty) := rfl
theorem purE_true (g v) : purE g v true = some (v, g) := rfl
noncomputable def purS (F : Funs) (f : Nat) (g : G) (vs : List Nat) : Option (List AV) → Option (AV × G)
  | some bs => purD g vs (pureS F f bs)
  | none => none
theorem purS_some (F f g vs bs) : purS F f g vs (some bs) = purD g vs (pureS F f bs) := rfl
theorem vPure_S (F : Funs) (al : Nat → Bool) (fid : Nat) (fst args caps : List AV) (g : G) :
    vPure F al (.fn fid fst caps) args g = purS F fid g ((fst ++ args ++ caps).flatMap (vis (rd g al) depth)) (frzL (rd g al) depth (fst ++ args ++ caps)) := by
  unfold vPure vCall
  simp only
  cases frzL (rd g al) depth (fst ++ args ++ caps) with
  | none => rfl
  | some bs =>
    rw [purS_some]
    unfold pureS g0
    simp only
    cases callS F fid bs ⟨fun _ => none, 0⟩ with
    | none => rfl
    | some r =>
      obtain ⟨v, g'⟩ := r
      simp only
      cases frz g'.hp depth v with
      | none => rfl
      | some v' => rfl
theorem flat_i (k n) : flat (.i k n) = true := rfl
theorem flat_b (x) : flat (.b x) = true := rfl
theorem flat_s (x) : flat (.s x) = true := rfl
theorem flat_nilp : flat .nilp = true := rfl
theorem flat_ptr (x) : flat (.ptr x) = false := rfl
theorem flat_sl (a b c) : flat (.sl a b c) = false := rfl
theorem flat_agg (a) : flat (.agg a) = false := rfl
theorem flat_tup (a) : flat (.tup a) = false := rfl
theorem vis_i (hp k n) : vis hp depth (.i k n) = [] := by show vis hp (8 + 1) _ = _; simp only [vis]
theorem vis_b (hp x) : vis hp depth (.b x) = [] := by show vis hp (8 + 1) _ = _; simp only [vis]
theorem vis_s (hp x) : vis hp depth (.s x) = [] := by show vis hp (8 + 1) _ = _; simp only [vis]
theorem vis_nilp (hp) : vis hp depth .nilp = [] := by show vis hp (8 + 1) _ = _; simp only [vis]
theorem vis_ptr (hp x) : vis hp depth (.ptr x) = [] := by show vis hp (8 + 1) _ = _; simp only [vis]
theorem vis_sl (hp a b c) : vis hp depth (.sl a b c) = [] := by show vis hp (8 + 1) _ = _; simp only [vis]
theorem vis_fn0 (hp f) : vis hp depth (.fn f [] []) = [] := by show vis hp (8 + 1) _ = _; simp only [vis, List.flatMap_nil, List.append_nil]
theorem isEmpty_nil : ([] : List Nat).isEmpty = true := rfl
def midQ (M : Env → G → Prop) : Out → Env → G → Prop
  | .nrm, e, g => M e g
  | _, _, _ => False
theorem midQ_nrm {M e g} : midQ M .nrm e g = M e g := rfl
theorem midQ_then {F : Funs} {rest Q} {M : Env → G → Prop} (h2 : ∀ e g, M e g → W F rest e g Q) (o e g) (h : midQ M o e g) : thenQ F rest Q o e g := by
  cases o with
  | nrm => exact h2 e g h
  | ext n => exact h.elim
  | ret => exact h.elim
theorem W_cut {F : Funs} {c rest e g Q} (M : Env → G → Prop) (h1 : W F c e g (midQ M)) (h2 : ∀ e g, M e g → W F rest e g Q) : W F c e g (thenQ F rest Q) := W_mono h1 (midQ_then h2)
theorem frz_b_inv {hp : Nat → Option Blk} {k : Nat} {v : AV} {b : Bool} (h : frz hp (k + 1) v = some (.b b)) : v = .b b := by
  cases v with
  | b x => simp only [frz] at h; cases h; rfl
  | agg cs => simp only [frz] at h; cases hf : frzL hp k cs <;> rw [hf] at h <;> cases h
  | tup cs => simp only [frz] at h; cases hf : frzL hp k cs <;> rw [hf] at h <;> cases h
  | mp id off =>
    simp only [frz] at h
    split at h
    · cases hf : frzL hp k (List.drop off _) <;> rw [hf] at h <;> cases h
    · cases h
  | ms id off n =>
    simp only [frz] at h
    split at h
    · cases hf : frzL hp k (List.drop off _) <;> rw [hf] at h <;> cases h
    · cases h
  | fn f asx bs => simp only [frz] at h; split at h <;> cases h
  | ifc t w => simp only [frz] at h; cases hf : frz hp k w <;> rw [hf] at h <;> cases h
  | _ => simp only [frz] at h; cases h
theorem pureS_bool {F : Funs} {f : Nat} {asx : List AV} {b : Bool} (h : pureS F f asx = some (.b b)) : ∃ k g', callE F k f asx g0 = some (.b b, g') := by
  unfold pureS at h
  split at h
  · rename_i v g hc
    have := frz_b_inv (k := 8) h
    subst this
    obtain ⟨k, hk⟩ := (callS_some F).1 hc
    exact ⟨k, g, hk⟩
  · cases h
def retB (rs : List ARes) (P : Bool → Prop) : Out → Env → G → Prop
  | .ext _, _, _ => False
  | _, e, g => ∃ b, resE rs e g = some (.b b) ∧ P b
theorem retB_nrm {rs P e g} : retB rs P .nrm e g = (∃ b, resE rs e g = some (.b b) ∧ P b) := rfl
theorem retB_ret {rs P e g} : retB rs P .ret e g = (∃ b, resE rs e g = some (.b b) ∧ P b) := rfl
theorem blk_cut {F : Funs} {c rest : ACode} {id : Nat} {e : Env} {g : G} {Q : Out → Env → G → Prop} (M : Env → G → Prop) (h1 : W F c e g (blkQ id (midQ M))) (h2 : ∀ e g, M e g → W F rest e g Q) : W F c e g (blkQ id (thenQ F rest Q)) := by
  refine W_mono h1 fun o e g h => ?_
  cases o with
  | nrm => exact h2 e g h
  | ret => exact h.elim
  | ext n =>
    have h : if n = id then midQ M .nrm e g else midQ M (.ext n) e g := h
    show if n = id then thenQ F rest Q .nrm e g else thenQ F rest Q (.ext n) e g
    by_cases hn : n = id
    · rw [if_pos hn] at h ⊢; exact h2 e g h
    · rw [if_neg hn] at h; exact h.elim
def midR (Q : Out → Env → G → Prop) (M : Env → G → Prop) : Out → Env → G → Prop
  | .nrm, e, g => M e g
  | .ret, e, g => Q .ret e g
  | .ext _, _, _ => False
theorem midR_nrm {Q M e g} : midR Q M .nrm e g = M e g := rfl
theorem midR_ret {Q M e g} : midR Q M .ret e g = Q .ret e g := rfl
theorem blk_cutR {F : Funs} {c rest : ACode} {id : Nat} {e : Env} {g : G} {Q : Out → Env → G → Prop} (M : Env → G → Prop) (h1 : W F c e g (blkQ id (midR Q M))) (h2 : ∀ e g, M e g → W F rest e g Q) : W F c e g (blkQ id (thenQ F rest Q)) := by
  refine W_mono h1 fun o e g h => ?_
  cases o with
  | nrm => exact h2 e g h
  | ret => exact h
  | ext n =>
    have h : if n = id then midR Q M .nrm e g else midR Q M (.ext n) e g := h
    show if n = id then thenQ F rest Q .nrm e g else thenQ F rest Q (.ext n) e g
    by_cases hn : n = id
    · rw [if_pos hn] at h ⊢; exact h2 e g h
    · rw [if_neg hn] at h; exact h.elim
set_option maxRecDepth 10000 in
theorem wp : type_of% (And.intro (And.intro (And.intro (And.intro (And.intro (And.intro (And.intro @W_skip (And.intro @W_ext @W_ret)) (And.intro (And.intro @W_seq @thenQ_nrm) (And.intro @thenQ_ext @thenQ_ret))) (And.intro (And.intro (And.intro @W_cond @selW_true) (And.intro @selW_false @W_blk)) (And.intro (And.intro @blkQ_nrm @blkQ_ret) (And.intro @blkQ_same @blkQ_ne)))) (And.intro (And.intro (And.intro @W_reg (And.intro @nrmQ_is @WR_nil)) (And.intro (And.intro @WR_cons @selO_true) (And.intro @selO_false @bindO_some))) (And.intro (And.intro (And.intro @loopQ_nrm @loopQ_ext) (And.intro @loopQ_ret @wanted_none)) (And.intro (And.intro @wanted_some @wantV_1) (And.intro @wantV_0 @wantV_undef))))) (And.intro (And.intro (And.intro (And.intro @ev_t (And.intro @ev_c @put_some)) (And.intro (And.intro @put_none @upd_same) (And.intro @upd_ne @List.length_cons.{0}))) (And.intro (And.intro (And.intro @List.length_nil.{0} @List.map_cons.{0, 0}) (And.intro @List.map_nil.{0, 0} @allow_no)) (And.intro (And.intro @allow_lt @argEnv_0) (And.intro @argEnv_1 @argEnv_2)))) (And.intro (And.intro (And.intro (And.intro @argEnv_3 @argEnv_4) (And.intro @argEnv_5 @res_1)) (And.intro (And.intro @res_2 @retQ_nrm) (And.intro @retQ_ret @o_mv))) (And.intro (And.intro (And.intro @o_pick @vPick_t) (And.intro @vPick_f @o_new)) (And.intro (And.intro @o_box @vBox_S) (And.intro @boxD_ok @vMap_some)))))) (And.intro (And.intro (And.intro (And.intro (And.intro @vMapL_some (And.intro @o_build @o_ld)) (And.intro (And.intro @vLd_ptr @vLd_S) (And.intro @ldS_ok @selB_true))) (And.intro (And.intro (And.intro @o_st @vSt_S) (And.intro @stS_ok @stD_ok)) (And.intro (And.intro @o_nilck @vNil_ptr) (And.intro @vNil_mp @vNil_fn)))) (And.intro (And.intro (And.intro (And.intro @o_bin @o_un) (And.intro @o_mkfn @o_fa)) (And.intro (And.intro @vFa_mp @vFa_S) (And.intro @faD_ok @o_fld))) (And.intro (And.intro (And.intro @vFld_agg @o_ia) (And.intro @vIa_sl @vIa_ms)) (And.intro (And.intro @o_iaa @vIaa_ptr) (And.intro @vIaa_mp @o_len))))) (And.intro (And.intro (And.intro (And.intro @vLen_sl (And.intro @vLen_ms @o_mx)) (And.intro (And.intro @o_mn @vMx_i) (And.intro @vMn_i @o_ext))) (And.intro (And.intro (And.intro @vExt_tup @b_add) (And.intro @b_sub @b_mul)) (And.intro (And.intro @b_lss @b_leq) (And.intro @b_gtr @b_geq)))) (And.intro (And.intro (And.intro (And.intro @b_eql @b_neq) (And.intro @o_pure @List.nil_append.{0})) (And.intro (And.intro @List.append_nil.{0} @List.cons_append.{0}) (And.intro @frz_d_i @frz_d_b))) (And.intro (And.intro (And.intro @frz_d_s @frz_d_nilp) (And.intro @frz_d_ptr @frz_d_sl)) (And.intro (And.intro @frz_d_fn0 @Bool.not_true) (And.intro @Bool.not_false @Bool.true_and))))))) (And.intro (And.intro (And.intro (And.intro (And.intro (And.intro @Bool.and_true (And.intro @Bool.false_and @Bool.and_false)) (And.intro (And.intro @decide_true @decide_false) (And.intro @beq_self_eq_true.{0} @Bool.true_eq_false))) (And.intro (And.intro (And.intro @Bool.false_eq_true @Nat.zero_add) (And.intro @Nat.add_zero @Int.toNat_natCast)) (And.intro (And.intro @ge_iff_le.{0} @gt_iff_lt.{0}) (And.intro @fill_S @fillD_ok)))) (And.intro (And.intro (And.intro (And.intro @fill_nil @cellsOf_agg) (And.intro @cellsOf_i @cellsOf_b)) (And.intro (And.intro @cellsOf_s @cellsOf_ptr) (And.intro @cellsOf_nilp @cellsOf_sl))) (And.intro (And.intro (And.intro @cellsOf_mp @cellsOf_fn) (And.intro @one_i @one_b)) (And.intro (And.intro @one_s @one_ptr) (And.intro @one_nilp @one_sl))))) (And.intro (And.intro (And.intro (And.intro @one_mp (And.intro @one_fn @List.all_cons.{0})) (And.intro (And.intro @List.all_nil.{0} @splice_1) (And.intro @splice_2 @splice_3))) (And.intro (And.intro (And.intro @part_0 @part_1) (And.intro @part_2 @drop_0)) (And.intro (And.intro @g0_nx @g0_hp) (And.intro @List.set_cons_zero.{0} @List.set_cons_succ.{0})))) (And.intro (And.intro (And.intro (And.intro @List.length_append.{0} @List.length_replicate.{0}) (And.intro @eq_self.{1} @true_and)) (And.intro (And.intro @and_true @vPure_S) (And.intro @purS_some @purD_some))) (And.intro (And.intro (And.intro @purE_true @frzL_cons) (And.intro @frzL_nil @consO_ok)) (And.intro (And.intro @flat_i @flat_b) (And.intro @flat_s @flat_nilp)))))) (And.intro (And.intro (And.intro (And.intro (And.intro @flat_ptr (And.intro @flat_sl @flat_agg)) (And.intro (And.intro @flat_tup @vis_i) (And.intro @vis_b @vis_s))) (And.intro (And.intro (And.intro @vis_nilp @vis_ptr) (And.intro @vis_sl @vis_fn0)) (And.intro (And.intro @List.flatMap_cons.{0, 0} @List.flatMap_nil.{0, 0}) (And.intro @isEmpty_nil @Bool.true_or)))) (And.intro (And.intro (And.intro (And.intro @Bool.false_or @Bool.or_true) (And.intro @Bool.or_false @frz_P)) (And.intro (And.intro @frz_Q @frzP_cells) (And.intro @frzB_true @map_some'))) (And.intro (And.intro (And.intro @rd_S @o_bsl) (And.intro @vBsl_t @vBsl_f)) (And.intro (And.intro @o_app @appD_ok) (And.intro @vApp_rig @vApp_rig0))))) (And.intro (And.intro (And.intro (And.intro @appK_ok (And.intro @vApp_own @o_eqn)) (And.intro (And.intro @o_eqb @o_eqa) (And.intro @aeqn_pn @aeqn_np))) (And.intro (And.intro (And.intro @aeqn_mn @aeqn_nn) (And.intro @aeqb_bb @negb_t)) (And.intro (And.intro @negb_f @aun_not) (And.intro @midQ_nrm @part_3)))) (And.intro (And.intro (And.intro (And.intro @part_4 @part_5) (And.intro @cellsOf_ms @one_ms)) (And.intro (And.intro @Int.toNat_zero @Nat.zero_mul) (And.intro @o_stL @andLe_ok))) (And.intro (And.intro (And.intro @allow_hd @allow_h2) (And.intro @retB_nrm @retB_ret)) (And.intro (And.intro @midR_nrm @midR_ret) (And.intro @W_scp @W_lab)))))))) := (And.intro (And.intro (And.intro (And.intro (And.intro (And.intro (And.intro @W_skip (And.intro @W_ext @W_ret)) (And.intro (And.intro @W_seq @thenQ_nrm) (And.intro @thenQ_ext @thenQ_ret))) (And.intro (And.intro (And.intro @W_cond @selW_true) (And.intro @selW_false @W_blk)) (And.intro (And.intro @blkQ_nrm @blkQ_ret) (And.intro @blkQ_same @blkQ_ne)))) (And.intro (And.intro (And.intro @W_reg (And.intro @nrmQ_is @WR_nil)) (And.intro (And.intro @WR_cons @selO_true) (And.intro @selO_false @bindO_some))) (And.intro (And.intro (And.intro @loopQ_nrm @loopQ_ext) (And.intro @loopQ_ret @wanted_none)) (And.intro (And.intro @wanted_some @wantV_1) (And.intro @wantV_0 @wantV_undef))))) (And.intro (And.intro (And.intro (And.intro @ev_t (And.intro @ev_c @put_some)) (And.intro (And.intro @put_none @upd_same) (And.intro @upd_ne @List.length_cons.{0}))) (And.intro (And.intro (And.intro @List.length_nil.{0} @List.map_cons.{0, 0}) (And.intro @List.map_nil.{0, 0} @allow_no)) (And.intro (And.intro @allow_lt @argEnv_0) (And.intro @argEnv_1 @argEnv_2)))) (And.intro (And.intro (And.intro (And.intro @argEnv_3 @argEnv_4) (And.intro @argEnv_5 @res_1)) (And.intro (And.intro @res_2 @retQ_nrm) (And.intro @retQ_ret @o_mv))) (And.intro (And.intro (And.intro @o_pick @vPick_t) (And.intro @vPick_f @o_new)) (And.intro (And.intro @o_box @vBox_S) (And.intro @boxD_ok @vMap_some)))))) (And.intro (And.intro (And.intro (And.intro (And.intro @vMapL_some (And.intro @o_build @o_ld)) (And.intro (And.intro @vLd_ptr @vLd_S) (And.intro @ldS_ok @selB_true))) (And.intro (And.intro (And.intro @o_st @vSt_S) (And.intro @stS_ok @stD_ok)) (And.intro (And.intro @o_nilck @vNil_ptr) (And.intro @vNil_mp @vNil_fn)))) (And.intro (And.intro (And.intro (And.intro @o_bin @o_un) (And.intro @o_mkfn @o_fa)) (And.intro (And.intro @vFa_mp @vFa_S) (And.intro @faD_ok @o_fld))) (And.intro (And.intro (And.intro @vFld_agg @o_ia) (And.intro @vIa_sl @vIa_ms)) (And.intro (And.intro @o_iaa @vIaa_ptr) (And.intro @vIaa_mp @o_len))))) (And.intro (And.intro (And.intro (And.intro @vLen_sl (And.intro @vLen_ms @o_mx)) (And.intro (And.intro @o_mn @vMx_i) (And.intro @vMn_i @o_ext))) (And.intro (And.intro (And.intro @vExt_tup @b_add) (And.intro @b_sub @b_mul)) (And.intro (And.intro @b_lss @b_leq) (And.intro @b_gtr @b_geq)))) (And.intro (And.intro (And.intro (And.intro @b_eql @b_neq) (And.intro @o_pure @List.nil_append.{0})) (And.intro (And.intro @List.append_nil.{0} @List.cons_append.{0}) (And.intro @frz_d_i @frz_d_b))) (And.intro (And.intro (And.intro @frz_d_s @frz_d_nilp) (And.intro @frz_d_ptr @frz_d_sl)) (And.intro (And.intro @frz_d_fn0 @Bool.not_true) (And.intro @Bool.not_false @Bool.true_and))))))) (And.intro (And.intro (And.intro (And.intro (And.intro (And.intro @Bool.and_true (And.intro @Bool.false_and @Bool.and_false)) (And.intro (And.intro @decide_true @decide_false) (And.intro @beq_self_eq_true.{0} @Bool.true_eq_false))) (And.intro (And.intro (And.intro @Bool.false_eq_true @Nat.zero_add) (And.intro @Nat.add_zero @Int.toNat_natCast)) (And.intro (And.intro @ge_iff_le.{0} @gt_iff_lt.{0}) (And.intro @fill_S @fillD_ok)))) (And.intro (And.intro (And.intro (And.intro @fill_nil @cellsOf_agg) (And.intro @cellsOf_i @cellsOf_b)) (And.intro (And.intro @cellsOf_s @cellsOf_ptr) (And.intro @cellsOf_nilp @cellsOf_sl))) (And.intro (And.intro (And.intro @cellsOf_mp @cellsOf_fn) (And.intro @one_i @one_b)) (And.intro (And.intro @one_s @one_ptr) (And.intro @one_nilp @one_sl))))) (And.intro (And.intro (And.intro (And.intro @one_mp (And.intro @one_fn @List.all_cons.{0})) (And.intro (And.intro @List.all_nil.{0} @splice_1) (And.intro @splice_2 @splice_3))) (And.intro (And.intro (And.intro @part_0 @part_1) (And.intro @part_2 @drop_0)) (And.intro (And.intro @g0_nx @g0_hp) (And.intro @List.set_cons_zero.{0} @List.set_cons_succ.{0})))) (And.intro (And.intro (And.intro (And.intro @List.length_append.{0} @List.length_replicate.{0}) (And.intro @eq_self.{1} @true_and)) (And.intro (And.intro @and_true @vPure_S) (And.intro @purS_some @purD_some))) (And.intro (And.intro (And.intro @purE_true @frzL_cons) (And.intro @frzL_nil @consO_ok)) (And.intro (And.intro @flat_i @flat_b) (And.intro @flat_s @flat_nilp)))))) (And.intro (And.intro (And.intro (And.intro (And.intro @flat_ptr (And.intro @flat_sl @flat_agg)) (And.intro (And.intro @flat_tup @vis_i) (And.intro @vis_b @vis_s))) (And.intro (And.intro (And.intro @vis_nilp @vis_ptr) (And.intro @vis_sl @vis_fn0)) (And.intro (And.intro @List.flatMap_cons.{0, 0} @List.flatMap_nil.{0, 0}) (And.intro @isEmpty_nil @Bool.true_or)))) (And.intro (And.intro (And.intro (And.intro @Bool.false_or @Bool.or_true) (And.intro @Bool.or_false @frz_P)) (And.intro (And.intro @frz_Q @frzP_cells) (And.intro @frzB_true @map_some'))) (And.intro (And.intro (And.intro @rd_S @o_bsl) (And.intro @vBsl_t @vBsl_f)) (And.intro (And.intro @o_app @appD_ok) (And.intro @vApp_rig @vApp_rig0))))) (And.intro (And.intro (And.intro (And.intro @appK_ok (And.intro @vApp_own @o_eqn)) (And.intro (And.intro @o_eqb @o_eqa) (And.intro @aeqn_pn @aeqn_np))) (And.intro (And.intro (And.intro @aeqn_mn @aeqn_nn) (And.intro @aeqb_bb @negb_t)) (And.intro (And.intro @negb_f @aun_not) (And.intro @midQ_nrm @part_3)))) (And.intro (And.intro (And.intro (And.intro @part_4 @part_5) (And.intro @cellsOf_ms @one_ms)) (And.intro (And.intro @Int.toNat_zero @Nat.zero_mul) (And.intro @o_stL @andLe_ok))) (And.intro (And.intro (And.intro @allow_hd @allow_h2) (And.intro @retB_nrm @retB_ret)) (And.intro (And.intro @midR_nrm @midR_ret) (And.intro @W_scp @W_lab))))))))
end Go.Ab
end
section
set_option linter.unusedVariables false
set_option linter.unusedSimpArgs false
namespace Go.Ab
open Go.RowKit
def c0 (num : Nat → Nat) (w : World) : Cx := ⟨num, w.heap.size, fun _ => True, w, fun _ => (0, 0), fun _ => none⟩
theorem row_calls {P : Program} {num : Nat → Nat} {F : Funs} (hT : Table P num F) (hm : P.follows .mixedOrders = true) {f : Nat} {asx : List AV} {b : Bool} (h : pureS F f asx = some (.b b)) {w : World} {vargs : List Value} (hr : Reps (c0 num w) true asx vargs) :
    Calls P (num f) vargs.toArray w (fun e w' => e = .returned (.bool b) ∧ Below w.heap.size w w') := by
  obtain ⟨k, g', hk⟩ := pureS_bool h
  have K : Ok (c0 num w) 0 := {
    basele := Nat.le_refl _
    cells := fun _ _ _ h => by cases h
    maps := fun _ _ h => by cases h
    toks := fun _ h => by cases h
    inj := fun _ _ _ h => by obtain ⟨_, h, _⟩ := h; cases h
    fresh := fun _ _ => rfl }
  have := ((callE_ok hT hm k).2 f asx g0 _ _ hk).2 (c0 num w) vargs rfl rfl K hr
  refine Calls.mono this.1 fun e w' ⟨val, c', h1, h2, E, _, _, hrep⟩ => ?_
  cases hrep
  exact ⟨h1, h2 ▸ E.below⟩
def intsC (l : List Int) : List AV := l.map fun v => .i .i64 v
def pairsC (l : List (Int × Int)) : List AV := l.flatMap fun p => [.i .i64 p.1, .i .i64 p.2]
theorem sh_ints {P : Program} {t e : TypeId} {x : AV} (ht : P.underlying t = some (.slice e)) (he : P.underlying e = some (.int .i64)) (h : Sh P 2 t [x]) :
    ∃ l : List Int, x = .sl (intsC l) l.length .non ∧ l.length ≤ maxLen ∧ ∀ n ∈ l, (Lit.int .i64 n).wf = true := by
  simp only [Sh, ht, he] at h
  obtain ⟨cs, n, hx, hn, rows, hl, rfl, hS⟩ := h
  cases hx
  have key : ∀ rows : List (List AV), (∀ r ∈ rows, ∃ n, r = [AV.i .i64 n] ∧ (Lit.int .i64 n).wf = true) → ∃ l : List Int, rows.flatten = intsC l ∧ l.length = rows.length ∧ ∀ n ∈ l, (Lit.int .i64 n).wf = true := by
    intro rows
    induction rows with
    | nil => intro _; exact ⟨[], rfl, rfl, fun _ h => by cases h⟩
    | cons r rows ih =>
      intro h
      obtain ⟨n, rfl, hn⟩ := h r (List.mem_cons_self ..)
      obtain ⟨l, h1, h2, h3⟩ := ih fun r hr => h r (List.mem_cons_of_mem _ hr)
      refine ⟨n :: l, by rw [List.flatten_cons, h1]; rfl, by simp [h2], fun m hm => ?_⟩
      rcases List.mem_cons.1 hm with rfl | hm
      · exact hn
      · exact h3 m hm
  obtain ⟨l, h1, h2, h3⟩ := key rows hS
  exact ⟨l, by rw [h1, ← hl, h2], by omega, h3⟩
end Go.Ab
end
section
set_option linter.unusedVariables false
set_option linter.unusedSimpArgs false
namespace Go.Ab
abbrev Rw := Nat → BitVec 64
def U (x : BitVec 64) : AV := .i .u64 (x.toNat : Int)
def rowsC (R : Rw) : List AV := (List.range 40).map fun a => U (R a)
def relC (n : Nat) (R : Rw) : List AV := .i .i64 n :: rowsC R
theorem rowsC_len (R : Rw) : (rowsC R).length = 40 := by simp [rowsC]
theorem relC_len (n : Nat) (R : Rw) : (relC n R).length = 41 := by simp [relC, rowsC_len]
theorem rowsC_get {R : Rw} {a : Nat} (h : a < 40) : (rowsC R)[a]? = some (U (R a)) := by
  simp [rowsC, h]
theorem relC_n (n : Nat) (R : Rw) : part (relC n R) 0 none = some (.i .i64 n) := rfl
theorem relC_row {n : Nat} {R : Rw} {a : Nat} (h : a < 40) : part (relC n R) (0 + 1 + a * 1) none = some (U (R a)) := by
  rw [show 0 + 1 + a * 1 = a + 1 by omega]
  simp only [part, relC, List.getElem?_cons_succ, rowsC_get h]
theorem relC_drop1 (n : Nat) (R : Rw) : (relC n R).drop 1 = rowsC R := rfl
theorem relC_row' {R : Rw} {a : Nat} (h : a < 40) : part ((rowsC R).drop (a * 1)) 0 none = some (U (R a)) := by
  simp only [part, List.getElem?_drop, Nat.mul_one, Nat.add_zero, rowsC_get h]
theorem relC_set {n : Nat} {R : Rw} {a : Nat} {x : BitVec 64} (h : a < 40) : splice (relC n R) (0 + 1 + a * 1) [U x] = relC n (upd R a x) := by
  rw [show 0 + 1 + a * 1 = a + 1 by omega]
  show (relC n R).set (a + 1) (U x) = _
  simp only [relC, List.set_cons_succ]
  congr 1
  refine List.ext_getElem? fun i => ?_
  rw [List.getElem?_set]
  by_cases hi : i < 40
  · rw [rowsC_get hi]
    by_cases ha : a = i
    · subst ha
      rw [if_pos rfl, if_pos (by rw [rowsC_len]; exact h), rowsC_get hi, upd_same]
    · have : i ≠ a := fun h => ha h.symm
      rw [if_neg ha, rowsC_get hi, upd_ne _ _ this]
  · have h1 : (rowsC R)[i]? = none := by rw [List.getElem?_eq_none]; rw [rowsC_len]; omega
    have h2 : (rowsC (upd R a x))[i]? = none := by rw [List.getElem?_eq_none]; rw [rowsC_len]; omega
    rw [h2, h1]
    have : a ≠ i := by omega
    simp [this]
theorem relC_set' {n : Nat} {R : Rw} {a : Nat} {x : BitVec 64} (h : a < 40) : (relC n R).set (0 + 1 + a * 1) (U x) = relC n (upd R a x) := relC_set h
theorem cellsOf_U (x : BitVec 64) : cellsOf (U x) = [U x] := rfl
theorem one_U (x : BitVec 64) : one (U x) = true := rfl
theorem relC_flat (n : Nat) (R : Rw) : (relC n R).all flat = true := by
  simp [relC, rowsC, U, flat]
theorem relC_one (n : Nat) (R : Rw) : (relC n R).all one = true := by
  simp [relC, rowsC, U, one]
def bit (b : Nat) : BitVec 64 := 1#64 <<< b
theorem u64_wrap {x : Nat} (h : x < 2 ^ 64) : IntKind.u64.wrap (x : Int) = x := by
  simp [IntKind.wrap, IntKind.bits, IntKind.signed, IntKind.min, IntKind.max]
  omega
theorem ofU (x : BitVec 64) : BitVec.ofInt IntKind.u64.bits (x.toNat : Int) = x := by
  show BitVec.ofInt 64 _ = _
  apply BitVec.eq_of_toNat_eq
  simp
theorem u_or (x y : BitVec 64) : abin .or (U x) (U y) = some (U (x ||| y)) := by
  simp only [abin, U, ibin, if_true, ofU]
  show some (AV.i .u64 (IntKind.u64.wrap (((x ||| y : BitVec 64).toNat : Nat) : Int))) = _
  rw [u64_wrap (x ||| y : BitVec 64).isLt]
theorem u_and (x y : BitVec 64) : abin .and (U x) (U y) = some (U (x &&& y)) := by
  simp only [abin, U, ibin, if_true, ofU]
  show some (AV.i .u64 (IntKind.u64.wrap (((x &&& y : BitVec 64).toNat : Nat) : Int))) = _
  rw [u64_wrap (x &&& y : BitVec 64).isLt]
theorem u_andNot (x y : BitVec 64) : abin .andNot (U x) (U y) = some (U (x &&& ~~~ y)) := by
  simp only [abin, U, ibin, if_true, ofU]
  show some (AV.i .u64 (IntKind.u64.wrap (((x &&& ~~~ y : BitVec 64).toNat : Nat) : Int))) = _
  rw [u64_wrap (x &&& ~~~ y : BitVec 64).isLt]
theorem u_shl {b : Int} (h0 : 0 ≤ b) (h : b < 40) : abin .shl (.i .u64 1) (.i .i64 b) = some (U (bit b.toNat)) := by
  obtain ⟨k, rfl⟩ : ∃ k : Nat, b = k := ⟨b.toNat, by omega⟩
  have hk : k < 40 := by omega
  simp only [abin, ishift]
  rw [if_neg (by omega)]
  rw [show min ((k : Int)).toNat IntKind.u64.bits = k by show min k 64 = k; omega]
  have h2 : (2 ^ k : Nat) < 2 ^ 64 := Nat.pow_lt_pow_right (by omega) (by omega)
  have : (1 : Int) * 2 ^ k = ((2 ^ k : Nat) : Int) := by simp
  rw [this, u64_wrap h2]
  simp only [U, bit, Int.toNat_natCast, BitVec.toNat_shiftLeft, Nat.shiftLeft_eq]
  congr 2
  rw [show (1#64).toNat = 1 from rfl, Nat.one_mul, Nat.mod_eq_of_lt h2]
theorem u_test {x : BitVec 64} {b : Int} (h0 : 0 ≤ b) (h : b < 40) : ∃ y : BitVec 64, abin .shr (U x) (.i .i64 b) = some (U y) ∧ abin .and (U y) (.i .u64 1) = some (U (y &&& 1#64)) ∧ abin .neq (U (y &&& 1#64)) (.i .u64 0) = some (.b (x.getLsbD b.toNat)) := by
  obtain ⟨k, rfl⟩ : ∃ k : Nat, b = k := ⟨b.toNat, by omega⟩
  have hk : k < 40 := by omega
  refine ⟨x >>> k, ?_, u_and _ 1#64, ?_⟩
  · simp only [abin, ishift, U]
    rw [if_neg (by omega)]
    rw [show min ((k : Int)).toNat IntKind.u64.bits = k by show min k 64 = k; omega]
    simp only [BitVec.toNat_ushiftRight, Nat.shiftRight_eq_div_pow]
    congr 2
    have : (2 : Int) ^ k = ((2 ^ k : Nat) : Int) := by simp
    rw [this, Int.fdiv_eq_ediv_of_nonneg _ (Int.natCast_nonneg _)]
    norm_cast
  · rw [show (AV.i .u64 0) = U 0#64 from rfl]
    simp only [U, b_neq]
    congr 2
    simp only [Int.toNat_natCast]
    have key : ((x >>> k) &&& 1#64).toNat = if x.getLsbD k then 1 else 0 := by
      rw [BitVec.toNat_and, BitVec.toNat_ushiftRight]
      simp [Nat.and_one_is_mod, BitVec.getLsbD, Nat.testBit, Nat.and_comm]
      split <;> omega
    rw [key]
    split <;> simp_all
theorem splice_rel (n : Nat) (R : Rw) : splice (.i .i64 0 :: List.replicate 40 (.i .u64 0)) 0 (relC n R) = relC n R := by
  have h : ∀ (cs vs : List AV) (a b : AV), vs.length = cs.length → splice (a :: cs) 0 (b :: vs) = b :: vs := by
    intro cs vs a b h
    cases vs with
    | nil => cases cs <;> first | rfl | simp at h
    | cons v vs =>
      show [] ++ (b :: v :: vs) ++ List.drop (0 + (b :: v :: vs).length) (a :: cs) = _
      rw [List.drop_eq_nil_of_le (by simp at h ⊢; omega)]
      simp
  exact h _ _ _ _ (by simp [rowsC_len])
theorem part_rel (n : Nat) (R : Rw) : part (relC n R) 0 (some 41) = some (.agg (relC n R)) := by
  simp [part, relC_len]
  rw [List.take_of_length_le (by rw [relC_len]; omega)]
theorem frz_U (hp x) : frz hp depth (U x) = some (U x) := frz_d_i hp .u64 _
theorem flat_U (x) : flat (U x) = true := rfl
theorem vis_U (hp x) : vis hp depth (U x) = [] := vis_i hp .u64 _
theorem relC_congr {n : Nat} {R S : Rw} (h : ∀ a, a < 40 → R a = S a) : relC n R = relC n S := by
  unfold relC rowsC
  congr 1
  exact List.map_congr_left fun a ha => by rw [h a (List.mem_range.1 ha)]
theorem part_rows (R : Rw) : part (rowsC R) 0 (some 40) = some (.agg (rowsC R)) := by
  simp [part, rowsC_len]
  rw [List.take_of_length_le (by rw [rowsC_len]; omega)]
theorem cellsEq_U : ∀ l : List (BitVec 64), cellsEq (List.replicate l.length 0) (l.map U) (List.replicate l.length (.i .u64 0)) = some (l.all (· == 0#64))
  | [] => rfl
  | x :: l => by
    simp only [List.length_cons, List.replicate_succ, List.map_cons, cellsEq, cellsEq_U l, List.all_cons]
    show (match cellEq 0 (U x) (.i .u64 0), some (l.all (· == 0#64)) with | some a, some b => some (a && b) | _, _ => none) = _
    have : cellEq 0 (U x) (.i .u64 0) = some (x == 0#64) := by
      simp only [U, cellEq, if_true]
      congr 1
      by_cases h : x = 0#64
      · subst h; rfl
      · have : x.toNat ≠ 0 := fun h' => h (BitVec.eq_of_toNat_eq (by simpa using h'))
        rw [Bool.eq_iff_iff]
        simp [h]; omega
    rw [this]
def noneR (R : Rw) : Bool := (List.range 40).all fun a => R a == 0#64
theorem eqa_rows (R : Rw) : aeqa (List.replicate 40 0) (.agg (rowsC R)) (.agg (List.replicate 40 (.i .u64 0))) = some (noneR R) := by
  have := cellsEq_U ((List.range 40).map R)
  simp only [List.length_map, List.length_range, List.map_map] at this
  show cellsEq _ _ _ = _
  unfold rowsC noneR
  rw [show (fun a => U (R a)) = U ∘ R from rfl, this, List.all_map]
  rfl
set_option maxRecDepth 10000 in
theorem rl : type_of% (And.intro (And.intro (And.intro (And.intro @relC_n @relC_row) (And.intro @relC_row' (And.intro @relC_drop1 @relC_len))) (And.intro (And.intro @rowsC_len (And.intro @relC_one @relC_flat)) (And.intro @cellsOf_U (And.intro @one_U @frz_U)))) (And.intro (And.intro (And.intro @flat_U @vis_U) (And.intro @relC_set' (And.intro @u_shl @u_or))) (And.intro (And.intro @u_and (And.intro @u_andNot @part_rel)) (And.intro @splice_rel (And.intro @part_rows @eqa_rows))))) := (And.intro (And.intro (And.intro (And.intro @relC_n @relC_row) (And.intro @relC_row' (And.intro @relC_drop1 @relC_len))) (And.intro (And.intro @rowsC_len (And.intro @relC_one @relC_flat)) (And.intro @cellsOf_U (And.intro @one_U @frz_U)))) (And.intro (And.intro (And.intro @flat_U @vis_U) (And.intro @relC_set' (And.intro @u_shl @u_or))) (And.intro (And.intro @u_and (And.intro @u_andNot @part_rel)) (And.intro @splice_rel (And.intro @part_rows @eqa_rows)))))
end Go.Ab
end
section
set_option linter.unusedVariables false
set_option linter.unusedSimpArgs false
namespace Go.Ab
variable {F : Funs}
def has (n : Nat) (R : Rw) (a b : Int) : Bool := decide (0 ≤ a ∧ a < n ∧ 0 ≤ b ∧ b < n) && (R a.toNat).getLsbD b.toNat
theorem sp_has (pk : Pk_rel F) {n : Nat} (hn : n ≤ 40) (R : Rw) (a b : Int) : pureS F 13 [.ptr (relC n R), .i .i64 a, .i .i64 b] = some (.b (has n R a b)) := by
  refine pure_of pk.rel_Rel_Has ?_
  have hl := relC_len n R
  by_cases h1 : 0 ≤ a
  · by_cases h2 : a < n
    · by_cases h3 : 0 ≤ b
      · by_cases h4 : b < n
        · obtain ⟨y, hy1, hy2, hy3⟩ := u_test (x := R a.toNat) h3 (by omega)
          have h5 : (0 : Int) ≤ a := h1
          simp (disch := omega) only [A_rel_Rel_Has, wp, Nat.reduceAdd, Nat.reduceMul, Nat.reduceSub, h1, h2, h3, h4, hl, drop_0, relC_n, relC_drop1, relC_row', hy1, hy2, hy3]
          simp [has, h1, h2, h3, h4]
        · simp (disch := omega) only [A_rel_Rel_Has, wp, Nat.reduceAdd, Nat.reduceMul, Nat.reduceSub, h1, h2, h3, h4, hl, drop_0, relC_n]
          simp [has, h4]
      · simp (disch := omega) only [A_rel_Rel_Has, wp, Nat.reduceAdd, Nat.reduceMul, Nat.reduceSub, h1, h2, h3, hl, drop_0, relC_n]
        simp [has, h3]
    · simp (disch := omega) only [A_rel_Rel_Has, wp, Nat.reduceAdd, Nat.reduceMul, Nat.reduceSub, h1, h2, hl, drop_0, relC_n]
      simp [has, h2]
  · simp (disch := omega) only [A_rel_Rel_Has, wp, Nat.reduceAdd, Nat.reduceMul, Nat.reduceSub, h1, hl, drop_0, relC_n]
    simp [has, h1]
end Go.Ab
end
section
set_option linter.unusedVariables false
set_option linter.unusedSimpArgs false
namespace Go.Ab
variable {F : Funs}
theorem pairsC_len (l : List (Int × Int)) : (pairsC l).length = l.length * 2 := by
  induction l with
  | nil => rfl
  | cons p l ih => simp only [pairsC, List.flatMap_cons, List.length_append, List.length_cons, List.length_nil] at ih ⊢; omega
theorem pairs_part : ∀ {l : List (Int × Int)} {k : Nat} (h : k < l.length), part ((pairsC l).drop (k * 2)) 0 (some 2) = some (.agg [.i .i64 (l.getD k (0, 0)).1, .i .i64 (l.getD k (0, 0)).2])
  | p :: l, 0, _ => by simp [pairsC, part]
  | p :: l, k + 1, h => by
    have := pairs_part (l := l) (k := k) (by simpa using h)
    simp only [List.getD_cons_succ]
    rw [← this]
    simp [pairsC, Nat.succ_mul]
def inR (n : Nat) (p : Int × Int) : Bool := decide (0 ≤ p.1 ∧ p.1 < n ∧ 0 ≤ p.2 ∧ p.2 < n)
def addR (n : Nat) (R : Rw) (p : Int × Int) : Rw := if inR n p then upd R p.1.toNat (R p.1.toNat ||| bit p.2.toNat) else R
def newR (n : Nat) (l : List (Int × Int)) : Rw := l.foldl (addR n) (fun _ => 0)
def clamp (n : Int) : Nat := (max 0 (min n 40)).toNat
theorem clamp_le (n : Int) : clamp n ≤ 40 := by unfold clamp; omega
theorem newR_take {n : Nat} {l : List (Int × Int)} {k : Nat} (h : k < l.length) : newR n (l.take (k + 1)) = addR n (newR n (l.take k)) (l.getD k (0, 0)) := by
  unfold newR
  rw [List.take_add_one, List.foldl_append, List.getElem?_eq_getElem h, List.getD_eq_getElem?_getD, List.getElem?_eq_getElem h]
  rfl
theorem i64_wrap {x : Int} (h : -9223372036854775808 ≤ x) (h2 : x ≤ 9223372036854775807) : IntKind.i64.wrap x = x := by
  simp [IntKind.wrap, IntKind.bits, IntKind.signed, IntKind.min, IntKind.max]
  omega
set_option maxHeartbeats 1000000 in
theorem sp_new (pk : Pk_rel F) (n : Int) (l : List (Int × Int)) (t : Tok) (hlen : l.length < 9000000000000000000) : pureS F 11 [.i .i64 n, .sl (pairsC l) l.length t] = some (.ptr (relC (clamp n) (newR (clamp n) l))) := by
  refine pure_of pk.rel_New ?_
  have hc : (if (40 : Int) < n then (40 : Int) else n) = min n 40 := by split <;> omega
  have hc0 : (if (0 : Int) < min n 40 then min n 40 else 0) = clamp n := by unfold clamp; split <;> omega
  have hz : AV.i .i64 (clamp n) :: List.replicate 40 (.i .u64 0) = relC (clamp n) (fun _ => 0) := rfl
  simp (disch := omega) only [A_rel_New, wp, Nat.reduceAdd, Nat.reduceMul, Nat.reduceSub, hc, hc0, hz, relC_one, List.all_append, List.all_replicate]
  refine W_loop (fun m e g => ∃ k, m = l.length - k ∧ k ≤ l.length ∧ e 13 = .sl (pairsC l) l.length t ∧ e 14 = .i .i64 l.length ∧ e 15 = .i .i64 k ∧ e 5 = .mp 5 0 ∧ g.hp 5 = some (.cells (relC (clamp n) (newR (clamp n) (l.take k))) false) ∧ 5 < g.nx) l.length ?_ ?_
  · refine ⟨0, rfl, Nat.zero_le _, ?_⟩
    simp (disch := omega) only [wp, Nat.reduceAdd, Nat.reduceMul, Nat.reduceSub]
    exact ⟨rfl, rfl, by omega⟩
  · rintro m e g ⟨k, rfl, hk, h13, h14, h15, h5, hg, hn⟩
    have hcl := clamp_le n
    by_cases hk' : k < l.length
    · have hk1 : (k : Int) < l.length := by omega
      have hp := pairs_part hk'
      have hw : IntKind.i64.wrap ((k : Int) + 1) = ((k + 1 : Nat) : Int) := by rw [i64_wrap (by omega) (by omega)]; omega
      have ht := newR_take (n := clamp n) hk'
      have n1 : 5 ≠ g.nx + 1 + 2 := by omega
      have n2 : g.nx + 1 + 2 ≠ 5 := by omega
      generalize l.getD k (0, 0) = p at hp ht
      obtain ⟨a, b⟩ := p
      by_cases h1 : 0 ≤ a
      · by_cases h2 : a < clamp n
        · by_cases h3 : 0 ≤ b
          · by_cases h4 : b < clamp n
            · simp (disch := omega) only [wp, Nat.reduceAdd, Nat.reduceMul, Nat.reduceSub, h13, h14, h15, h5, hk1, hp, hg, h1, h2, h3, h4, hw, relC_n, relC_row, u_shl, u_or, relC_len, cellsOf_U, one_U, relC_set']
              refine ⟨_, ?_, k + 1, rfl, by omega, rfl, ?_, by show 5 < _; omega⟩
              · omega
              · rw [ht]
                simp [addR, inR, h1, h2, h3, h4]
            · simp (disch := omega) only [wp, Nat.reduceAdd, Nat.reduceMul, Nat.reduceSub, h13, h14, h15, h5, hk1, hp, hg, h1, h2, h3, h4, hw, relC_n]
              refine ⟨_, ?_, k + 1, rfl, by omega, rfl, ?_, by show 5 < _; omega⟩
              · omega
              · rw [ht]
                simp [addR, inR, h4]
          · simp (disch := omega) only [wp, Nat.reduceAdd, Nat.reduceMul, Nat.reduceSub, h13, h14, h15, h5, hk1, hp, hg, h1, h2, h3, hw, relC_n]
            refine ⟨_, ?_, k + 1, rfl, by omega, rfl, ?_, by show 5 < _; omega⟩
            · omega
            · rw [ht]
              simp [addR, inR, h3]
        · simp (disch := omega) only [wp, Nat.reduceAdd, Nat.reduceMul, Nat.reduceSub, h13, h14, h15, h5, hk1, hp, hg, h1, h2, hw, relC_n]
          refine ⟨_, ?_, k + 1, rfl, by omega, rfl, ?_, by show 5 < _; omega⟩
          · omega
          · rw [ht]
            simp [addR, inR, h2]
      · simp (disch := omega) only [wp, Nat.reduceAdd, Nat.reduceMul, Nat.reduceSub, h13, h14, h15, h5, hk1, hp, hg, h1, hw, relC_n]
        refine ⟨_, ?_, k + 1, rfl, by omega, rfl, ?_, by show 5 < _; omega⟩
        · omega
        · rw [ht]
          simp [addR, inR, h1]
    · have : k = l.length := by omega
      subst this
      have hk1 : ¬ ((l.length : Int) < l.length) := by omega
      simp (disch := omega) only [wp, Nat.reduceAdd, Nat.reduceMul, Nat.reduceSub, h13, h14, h15, h5, hk1, hg, relC_flat, List.take_length]
end Go.Ab
end
section
set_option linter.unusedVariables false
set_option linter.unusedSimpArgs false
namespace Go.Ab
variable {F : Funs}
theorem succ_wrap {k : Nat} (h : k < 9000000000000000000) : IntKind.i64.wrap ((k : Int) + 1) = ((k + 1 : Nat) : Int) := by rw [i64_wrap (by omega) (by omega)]; omega
def stepP (n b : Nat) (R : Rw) (a : Nat) : Rw := if has n R a b then upd R a (R a ||| R b) else R
def rowP (n b k : Nat) (R : Rw) : Rw := (List.range k).foldl (stepP n b) R
def plusK (n k : Nat) (R : Rw) : Rw := (List.range k).foldl (fun R b => rowP n b n R) R
def plusR (n : Nat) (R : Rw) : Rw := plusK n n R
theorem rowP_succ (n b k R) : rowP n b (k + 1) R = stepP n b (rowP n b k R) k := by simp [rowP, List.range_succ]
theorem plusK_succ (n k R) : plusK n (k + 1) R = rowP n k n (plusK n k R) := by simp [plusK, List.range_succ]
set_option maxHeartbeats 1000000 in
theorem sp_plus (pk : Pk_rel F) {n : Nat} (hn : n ≤ 40) (R : Rw) : pureS F 12 [.ptr (relC n R)] = some (.ptr (relC n (plusR n R))) := by
  refine pure_of pk.rel_Rel_Plus ?_
  simp (disch := omega) only [A_rel_Rel_Plus, wp, Nat.reduceAdd, Nat.reduceMul, Nat.reduceSub, rl]
  refine W_loop (fun m e g => ∃ k, m = n - k ∧ k ≤ n ∧ e 0 = .ptr (relC n R) ∧ e 12 = .i .i64 n ∧ e 13 = .i .i64 k ∧ e 3 = .mp 4 0 ∧ g.hp 4 = some (.cells (relC n (plusK n k R)) false) ∧ 4 < g.nx) n ?_ ?_
  · refine ⟨0, rfl, Nat.zero_le _, ?_⟩
    simp (disch := omega) only [wp, Nat.reduceAdd, Nat.reduceMul, Nat.reduceSub]
    exact ⟨rfl, rfl, by omega⟩
  · rintro m e g ⟨k, rfl, hk, h0, h12, h13, h3, hg, hnx⟩
    by_cases hk' : k < n
    · have hk1 : (k : Int) < n := by omega
      have hw := succ_wrap (k := k) (by omega)
      simp (disch := omega) only [wp, Nat.reduceAdd, Nat.reduceMul, Nat.reduceSub, h0, h12, h13, h3, hk1, rl]
      refine W_loop (fun m e g => ∃ j, m = n - j ∧ j ≤ n ∧ e 0 = .ptr (relC n R) ∧ e 12 = .i .i64 n ∧ e 13 = .i .i64 k ∧ e 3 = .mp 4 0 ∧ e 4 = .i .i64 k ∧ e 19 = .i .i64 n ∧ e 20 = .i .i64 j ∧ g.hp 4 = some (.cells (relC n (rowP n k j (plusK n k R))) false) ∧ 4 < g.nx) n ?_ ?_
      · refine ⟨0, rfl, Nat.zero_le _, ?_⟩
        simp (disch := omega) only [wp, Nat.reduceAdd, Nat.reduceMul, Nat.reduceSub, h0, h12, h13, h3, hg]
        exact ⟨rfl, rfl, by omega⟩
      · rintro m e g ⟨j, rfl, hj, h0, h12, h13, h3, h4, h19, h20, hg, hnx⟩
        by_cases hj' : j < n
        · have hj1 : (j : Int) < n := by omega
          have hwj := succ_wrap (k := j) (by omega)
          by_cases hh : has n (rowP n k j (plusK n k R)) j k = true
          · simp (disch := omega) only [wp, Nat.reduceAdd, Nat.reduceMul, Nat.reduceSub, h0, h12, h13, h3, h4, h19, h20, hj1, hg, rl, sp_has pk hn, hh, hwj]
            refine ⟨_, ?_, j + 1, rfl, by omega, rfl, ?_, by show 4 < _; omega⟩
            · omega
            · rw [rowP_succ, stepP, if_pos hh]
          · simp (disch := omega) only [wp, Nat.reduceAdd, Nat.reduceMul, Nat.reduceSub, h0, h12, h13, h3, h4, h19, h20, hj1, hg, rl, sp_has pk hn, hh, hwj]
            refine ⟨_, ?_, j + 1, rfl, by omega, rfl, ?_, by show 4 < _; omega⟩
            · omega
            · rw [rowP_succ, stepP, if_neg hh]
        · obtain rfl : j = n := by omega
          have hj1 : ¬ ((j : Int) < j) := by omega
          simp (disch := omega) only [wp, Nat.reduceAdd, Nat.reduceMul, Nat.reduceSub, h0, h12, h13, h3, h4, h19, h20, hj1, hg, hw]
          refine ⟨_, ?_, k + 1, rfl, by omega, rfl, ?_, by show 4 < _; omega⟩
          · omega
          · rw [plusK_succ]
    · obtain rfl : k = n := by omega
      have hk1 : ¬ ((k : Int) < k) := by omega
      simp (disch := omega) only [wp, Nat.reduceAdd, Nat.reduceMul, Nat.reduceSub, h0, h12, h13, h3, hk1, hg, rl]
      rfl
end Go.Ab
end
section
set_option linter.unusedVariables false
set_option linter.unusedSimpArgs false
namespace Go.Ab
variable {F : Funs}
def loopsR (n : Nat) (R : Rw) : Bool := (List.range n).any fun a => has n (plusR n R) a a
set_option maxHeartbeats 1000000 in
theorem sp_loops (pk : Pk_rel F) {n : Nat} (hn : n ≤ 40) (R : Rw) : pureS F 14 [.ptr (relC n R)] = some (.b (loopsR n R)) := by
  refine pure_of pk.rel_Rel_Loops ?_
  simp (disch := omega) only [A_rel_Rel_Loops, wp, Nat.reduceAdd, Nat.reduceMul, Nat.reduceSub, rl, sp_plus pk hn]
  refine W_loop (fun m e g => ∃ k, m = n - k ∧ k ≤ n ∧ e 10 = .i .i64 n ∧ e 11 = .i .i64 k ∧ e 3 = .ptr (relC n (plusR n R)) ∧ ∀ a, a < k → has n (plusR n R) a a = false) n ?_ ?_
  · refine ⟨0, rfl, Nat.zero_le _, ?_⟩
    simp (disch := omega) only [wp, Nat.reduceAdd, Nat.reduceMul, Nat.reduceSub]
    exact ⟨rfl, fun a ha => absurd ha (Nat.not_lt_zero _)⟩
  · rintro m e g ⟨k, rfl, hk, h10, h11, h3, hall⟩
    by_cases hk' : k < n
    · have hk1 : (k : Int) < n := by omega
      have hw := succ_wrap (k := k) (by omega)
      by_cases hh : has n (plusR n R) k k = true
      · simp (disch := omega) only [wp, Nat.reduceAdd, Nat.reduceMul, Nat.reduceSub, h10, h11, h3, hk1, rl, hw, sp_has pk hn, hh]
        have : loopsR n R = true := List.any_eq_true.2 ⟨k, List.mem_range.2 hk', hh⟩
        rw [this]
      · simp (disch := omega) only [wp, Nat.reduceAdd, Nat.reduceMul, Nat.reduceSub, h10, h11, h3, hk1, rl, hw, sp_has pk hn, hh]
        refine ⟨_, ?_, k + 1, rfl, by omega, rfl, fun a ha => ?_⟩
        · omega
        · by_cases hak : a = k
          · subst hak; simpa using hh
          · exact hall a (by omega)
    · obtain rfl : k = n := by omega
      have hk1 : ¬ ((k : Int) < k) := by omega
      simp (disch := omega) only [wp, Nat.reduceAdd, Nat.reduceMul, Nat.reduceSub, h10, h11, h3, hk1, rl]
      have : loopsR k R = false := List.any_eq_false.2 fun a ha => by rw [hall a (List.mem_range.1 ha)]; simp
      rw [this]
def rowPr (n : Nat) (R : Rw) (a j : Nat) : List (Int × Int) := ((List.range j).filter fun (b : Nat) => has n R a b).map fun (b : Nat) => ((a : Int), (b : Int))
def pairsK (n k : Nat) (R : Rw) : List (Int × Int) := (List.range k).flatMap fun a => rowPr n R a n
def pairsR (n : Nat) (R : Rw) : List (Int × Int) := pairsK n n R
theorem pairsK_succ (n k R) : pairsK n (k + 1) R = pairsK n k R ++ rowPr n R k n := by simp [pairsK, List.range_succ]
theorem rowPr_succ (n R a j) : rowPr n R a (j + 1) = if has n R a j then rowPr n R a j ++ [((a : Int), (j : Int))] else rowPr n R a j := by
  unfold rowPr
  rw [List.range_succ, List.filter_append, List.filter_cons]
  split <;> simp
def partL (n k j : Nat) (R : Rw) : List (Int × Int) := pairsK n k R ++ rowPr n R k j
theorem partL_0 (n k R) : partL n k 0 R = pairsK n k R := by simp [partL, rowPr]
theorem partL_n (n k R) : partL n k n R = pairsK n (k + 1) R := (pairsK_succ n k R).symm
theorem partL_succ (n k j R) : partL n k (j + 1) R = if has n R k j then partL n k j R ++ [((k : Int), (j : Int))] else partL n k j R := by
  unfold partL
  rw [rowPr_succ]; split <;> simp
theorem pairsC_app (l m : List (Int × Int)) : pairsC (l ++ m) = pairsC l ++ pairsC m := by simp [pairsC]
theorem pairsC_one (a b : Int) : pairsC [(a, b)] = [.i .i64 a, .i .i64 b] := rfl
def Live (g : G) (esz : Nat) (t : Tok) : Prop := t = .rig ∨ ∃ τ, t = .own τ esz ∧ g.hp τ = some (.tok true) ∧ τ < g.nx
set_option maxHeartbeats 1000000 in
theorem sp_pairs (pk : Pk_rel F) {n : Nat} (hn : n ≤ 40) (R : Rw) : pureS F 15 [.ptr (relC n R)] = some (.sl (pairsC (pairsR n R)) (pairsR n R).length .non) := by
  refine pure_of pk.rel_Rel_Pairs ?_
  simp (disch := omega) only [A_rel_Rel_Pairs, wp, Nat.reduceAdd, Nat.reduceMul, Nat.reduceSub, rl]
  refine W_loop (fun m e g => ∃ k t, m = n - k ∧ k ≤ n ∧ e 0 = .ptr (relC n R) ∧ e 9 = .i .i64 n ∧ e 10 = .i .i64 k ∧ e 3 = .sl (pairsC (pairsK n k R)) (pairsK n k R).length t ∧ Live g 2 t ∧ (pairsK n k R).length ≤ 40 * k) n ?_ ?_
  · refine ⟨0, .rig, rfl, Nat.zero_le _, ?_⟩
    simp (disch := omega) only [wp, Nat.reduceAdd, Nat.reduceMul, Nat.reduceSub]
    exact ⟨rfl, rfl, .inl rfl, Nat.zero_le _⟩
  · rintro m e g ⟨k, t, rfl, hk, h0, h9, h10, h3, ht, hl⟩
    by_cases hk' : k < n
    · have hk1 : (k : Int) < n := by omega
      have hw := succ_wrap (k := k) (by omega)
      simp (disch := omega) only [wp, Nat.reduceAdd, Nat.reduceMul, Nat.reduceSub, h0, h9, h10, h3, hk1, rl]
      refine W_loop (fun m e g => ∃ j t, m = n - j ∧ j ≤ n ∧ e 0 = .ptr (relC n R) ∧ e 9 = .i .i64 n ∧ e 10 = .i .i64 k ∧ e 4 = .i .i64 k ∧ e 16 = .i .i64 n ∧ e 17 = .i .i64 j ∧ e 3 = .sl (pairsC (partL n k j R)) (partL n k j R).length t ∧ Live g 2 t ∧ (partL n k j R).length ≤ 40 * k + j) n ?_ ?_
      · refine ⟨0, t, rfl, Nat.zero_le _, ?_⟩
        simp (disch := omega) only [wp, Nat.reduceAdd, Nat.reduceMul, Nat.reduceSub, h0, h9, h10, h3]
        rw [partL_0]
        refine ⟨rfl, rfl, ?_, by omega⟩
        rcases ht with rfl | ⟨τ, rfl, hτ, hlt⟩
        · exact .inl rfl
        · exact .inr ⟨τ, rfl, hτ, Nat.lt_of_lt_of_le hlt (by dsimp only; omega)⟩
      · rintro m e g ⟨j, t, rfl, hj, h0, h9, h10, h4, h16, h17, h3, ht, hl⟩
        have hLn := partL_succ n k j R
        by_cases hj' : j < n
        · have hj1 : (j : Int) < n := by omega
          have hwj := succ_wrap (k := j) (by omega)
          by_cases hh : has n R k j = true
          · rw [if_pos hh] at hLn
            rcases ht with rfl | ⟨τ, rfl, hτ, hlt⟩
            · simp (disch := omega) only [wp, Nat.reduceAdd, Nat.reduceMul, Nat.reduceSub, h0, h9, h10, h4, h16, h17, h3, hj1, rl, sp_has pk hn, hh, hwj, pairsC_len]
              refine ⟨n - (j + 1), ?_, j + 1, ?_⟩
              · omega
              · rw [hLn, pairsC_app, pairsC_one, List.length_append]
                exact ⟨_, rfl, by omega, rfl, rfl, .inr ⟨_, rfl, upd_same _ _ _, by dsimp only; omega⟩, by simp; omega⟩
            · simp (disch := omega) only [wp, Nat.reduceAdd, Nat.reduceMul, Nat.reduceSub, h0, h9, h10, h4, h16, h17, h3, hj1, rl, sp_has pk hn, hh, hwj, pairsC_len, hτ]
              refine ⟨n - (j + 1), ?_, j + 1, ?_⟩
              · omega
              · rw [hLn, pairsC_app, pairsC_one, List.length_append]
                exact ⟨_, rfl, by omega, rfl, rfl, .inr ⟨_, rfl, upd_same _ _ _, by dsimp only; omega⟩, by simp; omega⟩
          · rw [if_neg hh] at hLn
            simp (disch := omega) only [wp, Nat.reduceAdd, Nat.reduceMul, Nat.reduceSub, h0, h9, h10, h4, h16, h17, h3, hj1, rl, sp_has pk hn, hh, hwj]
            refine ⟨_, ?_, j + 1, t, rfl, by omega, rfl, ?_⟩
            · omega
            · rw [hLn]
              refine ⟨rfl, ?_, by omega⟩
              rcases ht with rfl | ⟨τ, rfl, hτ, hlt⟩
              · exact .inl rfl
              · exact .inr ⟨τ, rfl, hτ, Nat.lt_of_lt_of_le hlt (by dsimp only; omega)⟩
        · obtain rfl : j = n := by omega
          have hj1 : ¬ ((j : Int) < j) := by omega
          simp (disch := omega) only [wp, Nat.reduceAdd, Nat.reduceMul, Nat.reduceSub, h0, h9, h10, h4, h16, h17, h3, hj1, hw]
          refine ⟨_, ?_, k + 1, t, rfl, by omega, rfl, ?_⟩
          · omega
          · rw [← partL_n]
            refine ⟨rfl, ?_, by omega⟩
            rcases ht with rfl | ⟨τ, rfl, hτ, hlt⟩
            · exact .inl rfl
            · exact .inr ⟨τ, rfl, hτ, Nat.lt_of_lt_of_le hlt (by dsimp only; omega)⟩
    · obtain rfl : k = n := by omega
      have hk1 : ¬ ((k : Int) < k) := by omega
      simp (disch := omega) only [wp, Nat.reduceAdd, Nat.reduceMul, Nat.reduceSub, h0, h9, h10, h3, hk1, rl]
      rfl
end Go.Ab
end
section
set_option linter.unusedVariables false
set_option linter.unusedSimpArgs false
namespace Go.Ab
variable {F : Funs}
def byK (φ : BitVec 64 → BitVec 64 → BitVec 64) (R S : Rw) (k : Nat) : Rw := fun a => if a < k then φ (R a) (S a) else 0
theorem byK_succ (φ R S k) : upd (byK φ R S k) k (φ (R k) (S k)) = byK φ R S (k + 1) := by
  funext a
  unfold upd byK
  by_cases h : a = k
  · subst h; simp
  · rw [if_neg h]
    by_cases h2 : a < k
    · rw [if_pos h2, if_pos (by omega)]
    · rw [if_neg h2, if_neg (by omega)]
theorem maxI (n m : Nat) : (if (n : Int) < m then (m : Int) else n) = ((max n m : Nat) : Int) := by split <;> omega
set_option maxHeartbeats 1000000 in
theorem sp_by (pk : Pk_rel F) {n m : Nat} (hn : n ≤ 40) (hm : m ≤ 40) (R S : Rw) {fid : Nat} {φ : BitVec 64 → BitVec 64 → BitVec 64} (hφ : ∀ x y, pureS F fid [U x, U y] = some (U (φ x y))) :
    pureS F 51 [.ptr (relC n R), .ptr (relC m S), .fn fid [] []] = some (.ptr (relC (max n m) fun a => φ (R a) (S a))) := by
  refine pure_of pk.rel_Rel_by ?_
  have hz : AV.i .i64 (max n m : Nat) :: List.replicate 40 (.i .u64 0) = relC (max n m) (byK φ R S 0) := rfl
  simp (disch := omega) only [A_rel_Rel_by, wp, Nat.reduceAdd, Nat.reduceMul, Nat.reduceSub, rl, maxI, hz, List.all_append, List.all_replicate]
  refine W_loop (fun q e g => ∃ k, q = 40 - k ∧ k ≤ 40 ∧ e 0 = .ptr (relC n R) ∧ e 1 = .ptr (relC m S) ∧ e 2 = .fn fid [] [] ∧ e 20 = .i .i64 k ∧ e 7 = .mp 11 0 ∧ g.hp 11 = some (.cells (relC (max n m) (byK φ R S k)) false) ∧ 11 < g.nx) 40 ?_ ?_
  · refine ⟨0, rfl, Nat.zero_le _, ?_⟩
    simp (disch := omega) only [wp, Nat.reduceAdd, Nat.reduceMul, Nat.reduceSub]
    exact ⟨rfl, by omega⟩
  · rintro q e g ⟨k, rfl, hk, h0, h1, h2, h20, h7, hg, hnx⟩
    by_cases hk' : k < 40
    · have hk1 : (k : Int) < 40 := by omega
      have hw := succ_wrap (k := k) (by omega)
      simp (disch := omega) only [wp, Nat.reduceAdd, Nat.reduceMul, Nat.reduceSub, h0, h1, h2, h20, h7, hk1, hg, rl, hw, hφ, byK_succ]
      refine ⟨40 - (k + 1), ?_, k + 1, rfl, by omega, rfl, rfl, by first | omega | (dsimp only; omega)⟩
      omega
    · obtain rfl : k = 40 := by omega
      have hk1 : ¬ (((40 : Nat) : Int) < 40) := by omega
      simp (disch := omega) only [wp, Nat.reduceAdd, Nat.reduceMul, Nat.reduceSub, h0, h1, h2, h20, h7, hg, rl, hk1]
      rw [relC_congr (R := byK φ R S 40) (S := fun a => φ (R a) (S a)) (fun a ha => by simp [byK, ha])]
structure RelLs (F : Funs) : Prop where
  rel_Rel_In : F 22 = some A_rel_Rel_In
  rel_Rel_Less : F 26 = some A_rel_Rel_Less
  rel_Rel_Less_1 : F 54 = some A_rel_Rel_Less_1
theorem sp_less1 (pk : RelLs F) (x y : BitVec 64) : pureS F 54 [U x, U y] = some (U (x &&& ~~~ y)) := by
  refine pure_of pk.rel_Rel_Less_1 ?_
  simp (disch := omega) only [A_rel_Rel_Less_1, wp, Nat.reduceAdd, Nat.reduceMul, Nat.reduceSub, rl]
def lessR (R S : Rw) : Rw := fun a => R a &&& ~~~ S a
theorem sp_less (ls : RelLs F) (pk : Pk_rel F) {n m : Nat} (hn : n ≤ 40) (hm : m ≤ 40) (R S : Rw) : pureS F 26 [.ptr (relC n R), .ptr (relC m S)] = some (.ptr (relC (max n m) (lessR R S))) := by
  refine pure_of ls.rel_Rel_Less ?_
  simp (disch := omega) only [A_rel_Rel_Less, wp, Nat.reduceAdd, Nat.reduceMul, Nat.reduceSub, rl, sp_by pk hn hm R S (sp_less1 ls)]
  rfl
theorem sp_in (ls : RelLs F) (pk : Pk_rel F) {n m : Nat} (hn : n ≤ 40) (hm : m ≤ 40) (R S : Rw) : pureS F 22 [.ptr (relC n R), .ptr (relC m S)] = some (.b (noneR (lessR R S))) := by
  refine pure_of ls.rel_Rel_In ?_
  simp (disch := omega) only [A_rel_Rel_In, wp, Nat.reduceAdd, Nat.reduceMul, Nat.reduceSub, rl, sp_less ls pk hn hm]
end Go.Ab
end
section
set_option linter.unusedVariables false
set_option linter.unusedSimpArgs false
namespace Go.Ab
def hb (R : Rw) (a b : Nat) : Bool := (R a).getLsbD b
def hN (n : Nat) (R : Rw) (a b : Nat) : Bool := decide (a < n) && decide (b < n) && hb R a b
def Wf (n : Nat) (R : Rw) : Prop := ∀ a b, hb R a b = true → a < n ∧ b < n
theorem has_N (n : Nat) (R : Rw) (a b : Nat) : has n R a b = hN n R a b := by
  unfold has hN hb
  have : decide (0 ≤ (a : Int) ∧ (a : Int) < n ∧ 0 ≤ (b : Int) ∧ (b : Int) < n) = (decide (a < n) && decide (b < n)) := by
    rw [Bool.eq_iff_iff]; simp
  rw [this]; rfl
theorem hN_wf {n : Nat} {R : Rw} (h : Wf n R) (a b : Nat) : hN n R a b = hb R a b := by
  unfold hN
  cases hh : hb R a b with
  | false => simp
  | true => obtain ⟨h1, h2⟩ := h a b hh; simp [h1, h2]
theorem bit_get {a b : Nat} (ha : a < 64) : (bit a).getLsbD b = decide (b = a) := by
  unfold bit
  rw [BitVec.getLsbD_shiftLeft]
  by_cases h : b = a
  · subst h; simp [ha]
  · by_cases h2 : b < a
    · simp [h, h2]
    · have : b - a ≠ 0 := by omega
      simp [h, h2]
      intro _
      omega
theorem hb_upd (R : Rw) (x : BitVec 64) (c a b : Nat) : hb (upd R c x) a b = if a = c then x.getLsbD b else hb R a b := by
  unfold hb upd; split <;> rfl
theorem hb_zero (a b : Nat) : hb (fun _ => 0) a b = false := by simp [hb]
theorem hb_add {n : Nat} (hn : n ≤ 40) (R : Rw) (p : Int × Int) (a b : Nat) : hb (addR n R p) a b = (hb R a b || (inR n p && decide (p = ((a : Int), (b : Int))))) := by
  unfold addR
  by_cases h : inR n p = true
  · rw [if_pos h, hb_upd, h]
    obtain ⟨x, y⟩ := p
    simp only [inR, decide_eq_true_eq] at h
    by_cases ha : a = x.toNat
    · subst ha
      rw [if_pos rfl, BitVec.getLsbD_or, bit_get (by omega)]
      congr 1
      simp only [Bool.true_and]
      rw [decide_eq_decide]
      simp only [Prod.mk.injEq]
      omega
    · rw [if_neg ha]
      have : ¬ ((x, y) = ((a : Int), (b : Int))) := by simp only [Prod.mk.injEq]; omega
      simp [this]
  · rw [if_neg h]
    simp only [Bool.not_eq_true] at h
    simp [h]
theorem hb_new {n : Nat} (hn : n ≤ 40) (l : List (Int × Int)) (a b : Nat) : hb (newR n l) a b = (decide (a < n) && decide (b < n) && l.any fun p => decide (p = ((a : Int), (b : Int)))) := by
  have key : ∀ (l : List (Int × Int)) (R : Rw), hb (l.foldl (addR n) R) a b = (hb R a b || (decide (a < n) && decide (b < n) && l.any fun p => decide (p = ((a : Int), (b : Int))))) := by
    intro l
    induction l with
    | nil => intro R; simp
    | cons p l ih =>
      intro R
      rw [List.foldl_cons, ih, hb_add hn, List.any_cons]
      by_cases hp : p = ((a : Int), (b : Int))
      · subst hp
        have : inR n ((a : Int), (b : Int)) = (decide (a < n) && decide (b < n)) := by
          unfold inR; rw [Bool.eq_iff_iff]; simp
        rw [this]
        cases hb R a b <;> cases decide (a < n) <;> cases decide (b < n) <;> simp
      · simp [hp]
  unfold newR
  rw [key l, hb_zero]; rfl
theorem hb_less (R S : Rw) (a b : Nat) : hb (lessR R S) a b = (hb R a b && !hb S a b) := by
  unfold hb lessR
  rw [BitVec.getLsbD_and, BitVec.getLsbD_not]
  by_cases h : b < 64
  · simp [h]
  · simp [BitVec.getLsbD_of_ge (R a) b (by omega)]
theorem wf_less {n : Nat} {R S : Rw} (h : Wf n R) : Wf n (lessR R S) := fun a b hh => by
  rw [hb_less, Bool.and_eq_true] at hh; exact h a b hh.1
theorem noneR_iff {n : Nat} {R : Rw} (hn : n ≤ 40) (h : Wf n R) : noneR R = true ↔ ∀ a b, hb R a b = false := by
  unfold noneR
  rw [List.all_eq_true]
  simp only [List.mem_range, beq_iff_eq]
  constructor
  · intro hh a b
    by_cases ha : a < 40
    · unfold hb; rw [hh a ha]; simp
    · cases hc : hb R a b with
      | false => rfl
      | true => obtain ⟨h1, h2⟩ := h a b hc; omega
  · intro hh a _
    refine BitVec.eq_of_getLsbD_eq fun b _ => ?_
    have := hh a b
    unfold hb at this
    rw [this]; simp
theorem in_iff {n : Nat} {R S : Rw} (hn : n ≤ 40) (h : Wf n R) : noneR (lessR R S) = true ↔ ∀ a b, hb R a b = true → hb S a b = true := by
  rw [noneR_iff hn (wf_less h)]
  simp only [hb_less]
  constructor
  · intro hh a b h1
    have := hh a b
    rw [h1] at this
    simpa using this
  · intro hh a b
    cases h1 : hb R a b with
    | false => rfl
    | true => simp [hh a b h1]
inductive Thru (r : Nat → Nat → Prop) (k : Nat) : Nat → Nat → Prop
  | one {a b} : r a b → Thru r k a b
  | join {a c b} : c < k → Thru r k a c → Thru r k c b → Thru r k a b
theorem Thru.mono {r : Nat → Nat → Prop} {k k' : Nat} (h : k ≤ k') {a b : Nat} (t : Thru r k a b) : Thru r k' a b := by
  induction t with
  | one h => exact .one h
  | join hc _ _ ih1 ih2 => exact .join (by omega) ih1 ih2
theorem thru_succ {r : Nat → Nat → Prop} {k a b : Nat} : Thru r (k + 1) a b ↔ Thru r k a b ∨ (Thru r k a k ∧ Thru r k k b) := by
  constructor
  · intro t
    induction t with
    | one h => exact .inl (.one h)
    | @join a c b hc _ _ ih1 ih2 =>
      by_cases h : c < k
      · rcases ih1 with h1 | ⟨h1, h2⟩
        · rcases ih2 with h3 | ⟨h3, h4⟩
          · exact .inl (.join h h1 h3)
          · exact .inr ⟨.join h h1 h3, h4⟩
        · rcases ih2 with h3 | ⟨h3, h4⟩
          · exact .inr ⟨h1, .join h h2 h3⟩
          · exact .inr ⟨h1, h4⟩
      · obtain rfl : c = k := by omega
        refine .inr ⟨?_, ?_⟩
        · rcases ih1 with h1 | ⟨h1, _⟩ <;> exact h1
        · rcases ih2 with h1 | ⟨_, h1⟩ <;> exact h1
  · rintro (h | ⟨h1, h2⟩)
    · exact h.mono (Nat.le_succ k)
    · exact .join (Nat.lt_succ_self k) (h1.mono (Nat.le_succ k)) (h2.mono (Nat.le_succ k))
theorem thru_zero {r : Nat → Nat → Prop} {a b : Nat} : Thru r 0 a b ↔ r a b := by
  constructor
  · intro t; cases t with
    | one h => exact h
    | join h _ _ => exact absurd h (Nat.not_lt_zero _)
  · exact .one
theorem hb_rowP {n b : Nat} (hb' : b < n) (R : Rw) (hR : Wf n R) (k : Nat) (hk : k ≤ n) (x y : Nat) : hb (rowP n b k R) x y = (hb R x y || (decide (x < k) && hb R x b && hb R b y)) := by
  induction k generalizing x y with
  | zero => simp [rowP]
  | succ k ih =>
    have ih := fun x y => ih (by omega) x y
    have hwf : Wf n (rowP n b k R) := fun x y h => by
      rw [ih] at h
      simp at h
      rcases h with h | ⟨⟨_, h1⟩, h2⟩
      · exact hR x y h
      · exact ⟨(hR x b h1).1, (hR b y h2).2⟩
    have hrow : rowP n b k R b = R b := by
      refine BitVec.eq_of_getLsbD_eq fun y _ => ?_
      have := ih b y
      unfold hb at this
      rw [this]
      cases (R b).getLsbD y <;> cases (R b).getLsbD b <;> simp
    rw [rowP_succ, stepP, has_N, hN_wf hwf, ih k b]
    have hkb : (hb R k b || (decide (k < k) && hb R k b && hb R b b)) = hb R k b := by simp
    rw [hkb]
    by_cases hh : hb R k b = true
    · rw [if_pos hh, hb_upd]
      by_cases hx : x = k
      · subst hx
        rw [if_pos rfl, BitVec.getLsbD_or, hrow]
        have := ih x y
        unfold hb at this hh ⊢
        rw [this]
        simp [hh]
      · rw [if_neg hx, ih]
        have : decide (x < k) = decide (x < k + 1) := by rw [decide_eq_decide]; omega
        rw [this]
    · rw [if_neg hh, ih]
      by_cases hx : x = k
      · subst hx; simp [hh]
      · have : decide (x < k) = decide (x < k + 1) := by rw [decide_eq_decide]; omega
        rw [this]
theorem wf_plusK {n : Nat} {R : Rw} (hR : Wf n R) : ∀ k, k ≤ n → Wf n (plusK n k R)
  | 0, _ => hR
  | k + 1, h => fun x y hh => by
    have ih := wf_plusK hR k (by omega)
    rw [plusK_succ, hb_rowP (by omega) _ ih n (Nat.le_refl _)] at hh
    simp at hh
    rcases hh with hh | ⟨⟨h0, h1⟩, h2⟩
    · exact ih x y hh
    · exact ⟨h0, (ih k y h2).2⟩
theorem hb_plusK {n : Nat} {R : Rw} (hR : Wf n R) : ∀ k, k ≤ n → ∀ x y, hb (plusK n k R) x y = true ↔ Thru (fun a b => hb R a b = true) k x y
  | 0, _, x, y => by
    show hb R x y = true ↔ _
    exact (thru_zero (r := fun a b => hb R a b = true)).symm
  | k + 1, h, x, y => by
    have ih := hb_plusK hR k (by omega)
    have hw := wf_plusK hR k (by omega)
    rw [plusK_succ, hb_rowP (by omega) _ hw n (Nat.le_refl _), thru_succ, ← ih, ← ih, ← ih]
    simp only [Bool.or_eq_true, Bool.and_eq_true, decide_eq_true_eq]
    constructor
    · rintro (h1 | ⟨⟨_, h1⟩, h2⟩)
      · exact .inl h1
      · exact .inr ⟨h1, h2⟩
    · rintro (h1 | ⟨h1, h2⟩)
      · exact .inl h1
      · exact .inr ⟨⟨(hw x k h1).1, h1⟩, h2⟩
theorem wf_plus {n : Nat} {R : Rw} (hR : Wf n R) : Wf n (plusR n R) := wf_plusK hR n (Nat.le_refl _)
inductive Steps' (r : Nat → Nat → Prop) : Nat → Nat → Prop
  | one {a b} : r a b → Steps' r a b
  | join {a c b} : Steps' r a c → Steps' r c b → Steps' r a b
theorem hb_plus {n : Nat} {R : Rw} (hR : Wf n R) (x y : Nat) : hb (plusR n R) x y = true ↔ Steps' (fun a b => hb R a b = true) x y := by
  show hb (plusK n n R) x y = true ↔ _
  rw [hb_plusK hR n (Nat.le_refl _)]
  constructor
  · intro t
    induction t with
    | one h => exact .one h
    | join _ _ _ ih1 ih2 => exact .join ih1 ih2
  · intro t
    have hlt : ∀ {a b}, Steps' (fun a b => hb R a b = true) a b → a < n ∧ b < n := by
      intro a b t
      induction t with
      | one h => exact hR _ _ h
      | join _ _ ih1 ih2 => exact ⟨ih1.1, ih2.2⟩
    induction t with
    | one h => exact .one h
    | join t1 _ ih1 ih2 => exact .join (hlt t1).2 ih1 ih2
theorem loops_iff {n : Nat} {R : Rw} (hR : Wf n R) : loopsR n R = true ↔ ∃ a, Steps' (fun a b => hb R a b = true) a a := by
  unfold loopsR
  rw [List.any_eq_true]
  simp only [List.mem_range]
  constructor
  · rintro ⟨a, ha, hh⟩
    rw [has_N, hN_wf (wf_plus hR), hb_plus hR] at hh
    exact ⟨a, hh⟩
  · rintro ⟨a, hh⟩
    have h1 := (hb_plus hR a a).2 hh
    refine ⟨a, (wf_plus hR a a h1).1, ?_⟩
    rw [has_N, hN_wf (wf_plus hR)]; exact h1
end Go.Ab
end
section
set_option linter.unusedVariables false
set_option linter.unusedSimpArgs false
namespace Go.Ab
variable {F : Funs}
theorem t1_neg (u n : Int) (e1 : u % n + n * (u / n) = u) : -u = (n - u % n) + n * (-(u / n) - 1) := by
  have e2 : n * (-(u / n) - 1) = -(n * (u / n)) - n := by rw [Int.mul_sub, Int.mul_neg, Int.mul_one]
  rw [e2]
  generalize n * (u / n) = c at *
  generalize u % n = b at *
  omega
theorem tmod_cases {v n : Int} (hn : 0 < n) : (if v.tmod n < 0 then v.tmod n + n else v.tmod n) = v % n := by
  have h2 := Int.emod_nonneg v (by omega : n ≠ 0)
  have h3 := Int.emod_lt_of_pos v hn
  by_cases hv : 0 ≤ v
  · rw [Int.tmod_eq_emod_of_nonneg hv, if_neg (by omega)]
  · obtain ⟨u, rfl⟩ : ∃ u, v = -u := ⟨-v, by omega⟩
    rw [Int.neg_tmod, Int.tmod_eq_emod_of_nonneg (by omega : 0 ≤ u)]
    have h4 := Int.emod_nonneg u (by omega : n ≠ 0)
    have h5 := Int.emod_lt_of_pos u hn
    have e1 := Int.emod_add_mul_ediv u n
    by_cases h6 : u % n = 0
    · rw [h6, Int.neg_zero, if_neg (by omega)]
      exact (Int.emod_eq_zero_of_dvd (Int.dvd_neg.2 (Int.dvd_of_emod_eq_zero h6))).symm
    · rw [if_pos (by omega)]
      have e3 : (-u) % n = n - u % n := by
        rw [t1_neg u n e1, Int.add_mul_emod_self_left, Int.emod_eq_of_lt (by omega) (by omega)]
      rw [e3]
      omega
theorem tmod_bound {v n : Int} (hn : 0 < n) : -n ≤ v.tmod n ∧ v.tmod n < n := by
  refine ⟨?_, Int.tmod_lt_of_pos v hn⟩
  have h1 := tmod_cases (v := v) hn
  have h2 := Int.emod_nonneg v (by omega : n ≠ 0)
  split at h1 <;> omega
def place (v n : Int) : Int := v % n
theorem place_lt {v n : Int} (hn : 0 < n) : 0 ≤ place v n ∧ place v n < n := ⟨Int.emod_nonneg v (by omega), Int.emod_lt_of_pos v hn⟩
theorem sp_place (h10 : F 10 = some A_xlaw00_Place) {v n : Int} (hn : 0 < n) (hb : n ≤ 4611686018427387904) : pureS F 10 [.i .i64 v, .i .i64 n] = some (.i .i64 (place v n)) := by
  refine pure_of h10 ?_
  have h1 := tmod_cases (v := v) hn
  obtain ⟨h2, h3⟩ := tmod_bound (v := v) hn
  unfold place
  by_cases h : v.tmod n < 0
  · have hw : IntKind.i64.wrap (v.tmod n + n) = v.tmod n + n := i64_wrap (by omega) (by omega)
    rw [if_pos h] at h1
    simp (disch := omega) only [A_xlaw00_Place, wp, Nat.reduceAdd, Nat.reduceMul, Nat.reduceSub, b_rem, h, hw]
    rw [h1]
  · rw [if_neg h] at h1
    simp (disch := omega) only [A_xlaw00_Place, wp, Nat.reduceAdd, Nat.reduceMul, Nat.reduceSub, b_rem, h]
    rw [h1]
end Go.Ab
end
section
set_option linter.unusedVariables false
set_option linter.unusedSimpArgs false
namespace Go.Ab
variable {F : Funs}
theorem ints_part {l : List Int} {k : Nat} (h : k < l.length) : part ((intsC l).drop (k * 1)) 0 none = some (.i .i64 (l.getD k 0)) := by
  simp only [part, intsC, List.getElem?_drop, Nat.mul_one, Nat.add_zero, List.getElem?_map, List.getElem?_eq_getElem h, Option.map_some, List.getD_eq_getElem?_getD, Option.getD_some]
theorem Steps'.mono {r s : Nat → Nat → Prop} (h : ∀ a b, r a b → s a b) {a b : Nat} (t : Steps' r a b) : Steps' s a b := by
  induction t with
  | one h' => exact .one (h _ _ h')
  | join _ _ i1 i2 => exact .join i1 i2
theorem Steps'.first {r : Nat → Nat → Prop} {a b : Nat} (t : Steps' r a b) : r a b ∨ ∃ c, r a c ∧ Steps' r c b := by
  induction t with
  | one h => exact .inl h
  | @join a c b t1 t2 i1 i2 =>
    rcases i1 with h | ⟨d, h1, h2⟩
    · exact .inr ⟨c, h, t2⟩
    · exact .inr ⟨d, h1, .join h2 t2⟩
end Go.Ab
end
section
set_option linter.unusedVariables false
set_option linter.unusedSimpArgs false
namespace Go.Ab
noncomputable def vRaw (F : Funs) (al : Nat → Bool) (id : Nat) (f : AV) (args : List AV) (g : G) : Option (AV × G) := vCall (callS F) al id .raw f args g
theorem o_raw {F : Funs} {al lo id e g} (f : Opd) (asx : List Opd) : opE (callS F) al lo id (.call .raw f asx) e g = vRaw F al id (f.ev e) (asx.map (·.ev e)) g := rfl
theorem vRaw_fn {F : Funs} {al id fid fst caps args g} : vRaw F al id (.fn fid fst caps) args g = callS F fid (fst ++ args ++ caps) g := rfl
def retP (rs : List ARes) (P : AV → G → Prop) : Out → Env → G → Prop
  | .ext _, _, _ => False
  | _, e, g => ∃ v, resE rs e g = some v ∧ P v g
theorem retP_nrm {rs P e g} : retP rs P .nrm e g = (∃ v, resE rs e g = some v ∧ P v g) := rfl
theorem retP_ret {rs P e g} : retP rs P .ret e g = (∃ v, resE rs e g = some v ∧ P v g) := rfl
theorem res_0 (e g) : resE [] e g = some (.tup []) := rfl
def mgS (k : ByteArray) (g : G) : Option Blk → Option (AV × G)
  | some (.map es) => vMap g (mlook es k)
  | _ => none
theorem o_mget {c : CS} {al : Nat → Bool} {lo id : Nat} {e : Env} {g : G} (m k) : opE c al lo id (.mget m k) e g = vMget al (m.ev e) (k.ev e) g := rfl
theorem vMget_S {al : Nat → Bool} {g : G} (b k) : vMget al (.mm b) (.s k) g = mgS k g (selB (al b) (g.hp b)) := by
  simp only [vMget, rd_S]
  cases selB (al b) (g.hp b) with
  | none => rfl
  | some bl => cases bl <;> rfl
theorem mgS_map (k g es) : mgS k g (some (.map es)) = vMap g (mlook es k) := rfl
theorem o_mkmap {c : CS} {al : Nat → Bool} {lo id : Nat} {e : Env} {g : G} : opE c al lo id .mkmap e g = some (.mm id, ⟨upd g.hp id (some (.map [])), g.nx⟩) := rfl
theorem o_mput {c : CS} {al : Nat → Bool} {lo id : Nat} {e : Env} {g : G} (m k v) : opE c al lo id (.mput m k v) e g = vMput al (m.ev e) (k.ev e) (v.ev e) g := rfl
def mpO (b : Nat) (k : ByteArray) (v : AV) (es : List (AV × AV)) (g : G) (x : Bool) : Option AV → Option (AV × G)
  | none => if x then some (.undef, ⟨upd g.hp b (some (.map (es ++ [(.s k, v)]))), g.nx⟩) else none
  | some _ => none
def mpS (b : Nat) (k : ByteArray) (v : AV) (g : G) (x : Bool) : Option Blk → Option (AV × G)
  | some (.map es) => mpO b k v es g x (mlook es k)
  | _ => none
theorem vMput_S {al : Nat → Bool} {g : G} (b k v) : vMput al (.mm b) (.s k) v g = mpS b k v g (one v) (selB (al b) (g.hp b)) := by
  simp only [vMput, rd_S]
  cases selB (al b) (g.hp b) with
  | none => rfl
  | some bl =>
    cases bl with
    | map es => simp only [mpS]; cases mlook es k <;> rfl
    | cells _ _ => rfl
    | tok _ => rfl
theorem mpS_map (b k v g x es) : mpS b k v g x (some (.map es)) = mpO b k v es g x (mlook es k) := rfl
theorem mpO_none (b k v es g) : mpO b k v es g true none = some (.undef, ⟨upd g.hp b (some (.map (es ++ [(.s k, v)]))), g.nx⟩) := rfl
theorem frz_d_agg {hp cs ds} (h : frzL hp 8 cs = some ds) : frz hp depth (.agg cs) = some (.agg ds) := by
  show frz hp (8 + 1) _ = _
  simp only [frz, h, Option.map_some]
end Go.Ab
end
section
set_option linter.unusedVariables false
set_option linter.unusedSimpArgs false
namespace Go.Ab
structure Ev where
  th : Int
  kd : Int
  md : Int
  lc : Int
  vl : Int
  ex : Bool
structure Gr where
  locs : Int
  evs : List Ev
  rf : List Int
  co : List (List Int)
  rmw : List (Int × Int)
  data : List (Int × Int)
  ctrl : List (Int × Int)
  ctrli : List (Int × Int)
def ev0 : Ev := ⟨0, 0, 0, 0, 0, false⟩
def evC (e : Ev) : List AV := [.i .i64 e.th, .i .i64 e.kd, .i .i64 e.md, .i .i64 e.lc, .i .i64 e.vl, .b e.ex]
def evsC (l : List Ev) : List AV := l.flatMap evC
def coC (l : List (List Int)) : List AV := l.map fun c => .sl (intsC c) c.length .non
def grC (g : Gr) : List AV := [.i .i64 g.locs, .sl (evsC g.evs) g.evs.length .non, .sl (intsC g.rf) g.rf.length .non, .sl (coC g.co) g.co.length .non,
  .sl (pairsC g.rmw) g.rmw.length .non, .sl (pairsC g.data) g.data.length .non, .sl (pairsC g.ctrl) g.ctrl.length .non, .sl (pairsC g.ctrli) g.ctrli.length .non]
theorem evsC_len (l : List Ev) : (evsC l).length = l.length * 6 := by
  induction l with
  | nil => rfl
  | cons p l ih => simp only [evsC, List.flatMap_cons, List.length_append, List.length_cons, evC, List.length_nil] at ih ⊢; omega
theorem ev_part : ∀ {l : List Ev} {k : Nat} (h : k < l.length), part ((evsC l).drop (k * 6)) 0 (some 6) = some (.agg (evC (l.getD k ev0)))
  | p :: l, 0, _ => by simp [evsC, part, evC]
  | p :: l, k + 1, h => by
    have := ev_part (l := l) (k := k) (by simpa using h)
    simp only [List.getD_cons_succ]
    rw [← this]
    simp [evsC, Nat.succ_mul, evC]
theorem coC_len (l : List (List Int)) : (coC l).length = l.length := by simp [coC]
theorem co_part {l : List (List Int)} {k : Nat} (h : k < l.length) : part ((coC l).drop (k * 1)) 0 none = some (.sl (intsC (l.getD k [])) (l.getD k []).length .non) := by
  simp only [part, coC, List.getElem?_drop, Nat.mul_one, Nat.add_zero, List.getElem?_map, List.getElem?_eq_getElem h, Option.map_some, List.getD_eq_getElem?_getD, Option.getD_some]
theorem splice_ev (e : Ev) : splice (List.replicate 5 (AV.i .i64 0) ++ [.b false]) 0 (evC e) = evC e := rfl
theorem part_22 (a b : AV) : part [a, b] 0 (some 2) = some (.agg [a, b]) := rfl
theorem evC_len (e : Ev) : (evC e).length = 6 := rfl
theorem evC_one (e : Ev) : (evC e).all one = true := rfl
theorem evC_flat (e : Ev) : (evC e).all flat = true := rfl
theorem evC_all (e : Ev) : part (evC e) 0 (some 6) = some (.agg (evC e)) := rfl
theorem ev_th (e : Ev) : part (evC e) 0 none = some (.i .i64 e.th) := rfl
theorem ev_kd (e : Ev) : part (evC e) 1 none = some (.i .i64 e.kd) := rfl
theorem ev_md (e : Ev) : part (evC e) 2 none = some (.i .i64 e.md) := rfl
theorem ev_lc (e : Ev) : part (evC e) 3 none = some (.i .i64 e.lc) := rfl
theorem ev_vl (e : Ev) : part (evC e) 4 none = some (.i .i64 e.vl) := rfl
theorem ev_ex (e : Ev) : part (evC e) 5 none = some (.b e.ex) := rfl
theorem grC_len (g : Gr) : (grC g).length = 8 := rfl
theorem grC_one (g : Gr) : (grC g).all one = true := rfl
theorem grC_all (g : Gr) : part (grC g) 0 (some 8) = some (.agg (grC g)) := rfl
theorem gr_locs (g : Gr) : part (grC g) 0 none = some (.i .i64 g.locs) := rfl
theorem gr_evs (g : Gr) : part (grC g) 1 none = some (.sl (evsC g.evs) g.evs.length .non) := rfl
theorem gr_rf (g : Gr) : part (grC g) 2 none = some (.sl (intsC g.rf) g.rf.length .non) := rfl
theorem gr_co (g : Gr) : part (grC g) 3 none = some (.sl (coC g.co) g.co.length .non) := rfl
theorem gr_rmw (g : Gr) : part (grC g) 4 none = some (.sl (pairsC g.rmw) g.rmw.length .non) := rfl
theorem gr_data (g : Gr) : part (grC g) 5 none = some (.sl (pairsC g.data) g.data.length .non) := rfl
theorem gr_ctrl (g : Gr) : part (grC g) 6 none = some (.sl (pairsC g.ctrl) g.ctrl.length .non) := rfl
theorem gr_ctrli (g : Gr) : part (grC g) 7 none = some (.sl (pairsC g.ctrli) g.ctrli.length .non) := rfl
theorem frz_gr (hp) (g : Gr) : frz hp depth (.agg (grC g)) = some (.agg (grC g)) := by
  refine frz_d_agg ?_
  show frzL hp (7 + 1) _ = _
  simp only [grC, frzL, frz]
theorem frz_ev (hp) (e : Ev) : frz hp depth (.agg (evC e)) = some (.agg (evC e)) := frz_d_agg (frzL_flat (d := 7) (evC_flat e))
theorem vis_gr (hp) (g : Gr) : vis hp depth (.agg (grC g)) = [] := by
  show vis hp (8 + 1) _ = _
  simp only [vis, grC, List.flatMap_cons, List.flatMap_nil, List.nil_append, List.append_nil]
theorem vis_ev (hp) (e : Ev) : vis hp depth (.agg (evC e)) = [] := by
  show vis hp (8 + 1) _ = _
  simp only [vis, evC, List.flatMap_cons, List.flatMap_nil, List.nil_append, List.append_nil]
set_option maxRecDepth 10000 in
theorem gl : type_of% (And.intro (And.intro (And.intro (And.intro (And.intro @evC_len @evC_one) (And.intro @evC_flat (And.intro @evC_all @ev_th))) (And.intro (And.intro @ev_kd @ev_md) (And.intro @ev_lc (And.intro @ev_vl @ev_ex)))) (And.intro (And.intro (And.intro @grC_len @grC_one) (And.intro @grC_all (And.intro @gr_locs @gr_evs))) (And.intro (And.intro @gr_rf (And.intro @gr_co @gr_rmw)) (And.intro @gr_data (And.intro @gr_ctrl @gr_ctrli))))) (And.intro (And.intro (And.intro (And.intro @frz_gr @frz_ev) (And.intro @vis_gr (And.intro @vis_ev @splice_ev))) (And.intro (And.intro @evsC_len @coC_len) (And.intro @o_raw (And.intro @vRaw_fn @res_0)))) (And.intro (And.intro (And.intro @retP_nrm @retP_ret) (And.intro @o_mget (And.intro @vMget_S @mgS_map))) (And.intro (And.intro @o_mkmap (And.intro @o_mput @vMput_S)) (And.intro @mpS_map (And.intro @mpO_none @part_22)))))) := (And.intro (And.intro (And.intro (And.intro (And.intro @evC_len @evC_one) (And.intro @evC_flat (And.intro @evC_all @ev_th))) (And.intro (And.intro @ev_kd @ev_md) (And.intro @ev_lc (And.intro @ev_vl @ev_ex)))) (And.intro (And.intro (And.intro @grC_len @grC_one) (And.intro @grC_all (And.intro @gr_locs @gr_evs))) (And.intro (And.intro @gr_rf (And.intro @gr_co @gr_rmw)) (And.intro @gr_data (And.intro @gr_ctrl @gr_ctrli))))) (And.intro (And.intro (And.intro (And.intro @frz_gr @frz_ev) (And.intro @vis_gr (And.intro @vis_ev @splice_ev))) (And.intro (And.intro @evsC_len @coC_len) (And.intro @o_raw (And.intro @vRaw_fn @res_0)))) (And.intro (And.intro (And.intro @retP_nrm @retP_ret) (And.intro @o_mget (And.intro @vMget_S @mgS_map))) (And.intro (And.intro @o_mkmap (And.intro @o_mput @vMput_S)) (And.intro @mpS_map (And.intro @mpO_none @part_22))))))
end Go.Ab
end
section
set_option linter.unusedVariables false
set_option linter.unusedSimpArgs false
namespace Go.Ab
variable {F : Funs}
set_option maxRecDepth 100000 in
theorem sp_of (h81 : F 81 = some A_graph_Of) (pr : Pk_rel F) (G : Gr) (l : List (Int × Int)) (t : Tok) (hl : l.length < 9000000000000000000) : pureS F 81 [.agg (grC G), .sl (pairsC l) l.length t] = some (.ptr (relC (clamp G.evs.length) (newR (clamp G.evs.length) l))) := by
  refine pure_of h81 ?_
  simp (disch := omega) only [A_graph_Of, wp, Nat.reduceAdd, Nat.reduceMul, Nat.reduceSub, gl, sp_new pr _ l _ hl]
structure EcoSt (X : Gr) (l : List (Int × Int)) (g : G) : Prop where
  gr : g.hp 0 = some (.cells (grC X) false)
  put : ∃ t, g.hp 2 = some (.cells [.sl (pairsC l) l.length t] false) ∧ Live g 2 t
  f4 : g.hp 4 = some (.cells [.fn 92 [] [.mp 2 0]] false)
  f7 : g.hp 7 = some (.cells [.fn 93 [] [.mp 0 0, .mp 4 0]] false)
  m9 : g.hp 9 = some (.map [(.s ⟨#[114, 102]⟩, .fn 94 [] [.mp 4 0]), (.s ⟨#[99, 111]⟩, .fn 95 [] [.mp 7 0]), (.s ⟨#[102, 114]⟩, .fn 96 [] [.mp 7 0])])
  nx : 9 < g.nx
def Kept (g g' : G) : Prop := g.nx ≤ g'.nx ∧ ∀ i, 9 < i → i < g.nx → CM (g.hp i) → g'.hp i = g.hp i
theorem Kept.refl (g : G) : Kept g g := ⟨Nat.le_refl _, fun _ _ _ _ => rfl⟩
theorem Kept.trans {g g1 g2 : G} (h : Kept g g1) (k : Kept g1 g2) : Kept g g2 := ⟨Nat.le_trans h.1 k.1, fun i h1 h2 h3 => by
  have e := h.2 i h1 h2 h3
  rw [← e]
  exact k.2 i h1 (Nat.lt_of_lt_of_le h2 h.1) (by rw [e]; exact h3)⟩
theorem EcoSt.same {X : Gr} {l : List (Int × Int)} {g g' : G} (h : EcoSt X l g) (k : Kept g g') (h9 : ∀ i, i ≤ 9 → g'.hp i = g.hp i) (ht : ∀ i b, g.hp i = some (.tok b) → g'.hp i = g.hp i) : EcoSt X l g' := by
  obtain ⟨t, h1, h2⟩ := h.put
  refine ⟨by rw [h9 0 (by omega)]; exact h.gr, ⟨t, by rw [h9 2 (by omega)]; exact h1, ?_⟩, by rw [h9 4 (by omega)]; exact h.f4, by rw [h9 7 (by omega)]; exact h.f7, by rw [h9 9 (by omega)]; exact h.m9, Nat.lt_of_lt_of_le h.nx k.1⟩
  rcases h2 with rfl | ⟨τ, rfl, hτ, hlt⟩
  · exact .inl rfl
  · exact .inr ⟨τ, rfl, by rw [ht τ _ hτ]; exact hτ, Nat.lt_of_lt_of_le hlt k.1⟩
end Go.Ab
end
section
set_option linter.unusedVariables false
set_option linter.unusedSimpArgs false
namespace Go.Ab
variable {F : Funs}
theorem EcoSt.on {X : Gr} {l : List (Int × Int)} {g : G} (h : EcoSt X l g) {n : Nat} (hn : g.nx ≤ n) : EcoSt X l ⟨g.hp, n⟩ :=
  h.same ⟨hn, fun _ _ _ _ => rfl⟩ (fun _ _ => rfl) (fun _ _ _ => rfl)
theorem Kept.on {g g' : G} (h : Kept g g') {n : Nat} (hn : g'.nx ≤ n) : Kept g ⟨g'.hp, n⟩ := ⟨Nat.le_trans h.1 hn, h.2⟩
theorem Kept.from {g g' : G} {n : Nat} (hn : g.nx ≤ n) (h : Kept ⟨g.hp, n⟩ g') : Kept g g' := ⟨Nat.le_trans hn h.1, fun i h1 h2 h3 => h.2 i h1 (Nat.lt_of_lt_of_le h2 hn) h3⟩
end Go.Ab
end
section
set_option linter.unusedVariables false
set_option linter.unusedSimpArgs false
namespace Go.Ab
variable {F : Funs}
theorem EcoSt.grow {X : Gr} {l : List (Int × Int)} {g g' : G} (h : EcoSt X l g) (hn : g.nx ≤ g'.nx) (ho : ∀ i, i < g.nx → g'.hp i = g.hp i) : EcoSt X l g' ∧ Kept g g' := by
  have h9 := h.nx
  obtain ⟨t, h1, h2⟩ := h.put
  refine ⟨⟨by rw [ho 0 (by omega)]; exact h.gr, ⟨t, by rw [ho 2 (by omega)]; exact h1, ?_⟩, by rw [ho 4 (by omega)]; exact h.f4, by rw [ho 7 (by omega)]; exact h.f7, by rw [ho 9 (by omega)]; exact h.m9, by omega⟩, hn, fun i _ hi _ => ho i hi⟩
  rcases h2 with rfl | ⟨τ, rfl, hτ, hlt⟩
  · exact .inl rfl
  · exact .inr ⟨τ, rfl, by rw [ho τ hlt]; exact hτ, by omega⟩
end Go.Ab
end
section
set_option linter.unusedVariables false
set_option linter.unusedSimpArgs false
namespace Go.Ab
variable {F : Funs}
def nOf (X : Gr) : Nat := clamp X.evs.length
end Go.Ab
end
section
set_option linter.unusedVariables false
set_option linter.unusedSimpArgs false
namespace Go.Ab
variable {F : Funs}
def poB (a b : Nat) (x y : Ev) : Bool := ((x.th == 0) && (y.th != 0)) || ((x.th == y.th) && ((x.th != 0) && decide (a < b)))
def poReg : ACode := match A_graph_Po.body with
  | .seq _ (.seq _ (.seq (.seq _ (.blk _ (.loop (.seq _ (.seq _ (.seq (.blk _ (.seq _ (.seq _ (.blk _ (.loop (.seq _ (.seq _ (.seq (.blk _ (.seq _ (.seq r _))) _)))))))) _)))))) _)) => r
  | _ => .skip
set_option maxRecDepth 100000 in
set_option maxHeartbeats 4000000 in
theorem po_reg {e : Env} {g : G} {a b i j : Nat} {x y : Ev} (h5 : e 5 = .mp i 0) (h7 : e 7 = .mp j 0) (h4 : e 4 = .i .i64 a) (h6 : e 6 = .i .i64 b) (hi : g.hp i = some (.cells (evC x) false)) (hj : g.hp j = some (.cells (evC y) false)) :
    W F poReg e g (midQ fun e' g' => e' 48 = .b (poB a b x y) ∧ (∀ t, t < 24 → e' t = e t) ∧ g' = ⟨g.hp, g.nx + 25⟩) := by
  have fin : ∀ {e' : Env}, (∀ t, t < 24 → e' t = e t) → True := fun _ => trivial
  unfold poB
  cases c1 : (x.th == 0) <;> cases c2 : (y.th != 0) <;> cases c3 : (x.th == y.th) <;> cases c4 : (x.th != 0) <;> cases c5 : decide ((a : Int) < b) <;>
    (have c5' : decide (a < b) = decide ((a : Int) < b) := by rw [decide_eq_decide]; omega) <;>
    rw [c5] at c5' <;>
    simp (disch := omega) only [poReg, A_graph_Po, wp, Nat.reduceAdd, Nat.reduceMul, Nat.reduceSub, gl, h5, h7, h4, h6, hi, hj, c1, c2, c3, c4, c5, c5'] <;>
    (intro t ht; simp (disch := omega) only [upd_ne])
def A_graph_Po' : AFun := { res := [.t 2], body := (.seq (.reg false [{ dst := some 1, op := .box (.t 0) },
  { dst := some 2, op := .mv (.c (.nilp)) }])
 (.seq (.reg false [{ dst := some 3, op := .mv (.c (.sl [] 0 .rig)) }])
 (.seq (.seq (.reg false [{ dst := some 8, op := .fa 1 (.t 1) },
  { dst := some 9, op := .ld none (.t 8) },
  { dst := some 10, op := .len (.t 9) },
  { dst := some 11, op := .mv (.c (.i .i64 0)) }])
 (.blk 0 (.loop (.seq (.reg false [{ dst := some 12, op := .bin .lss (.t 11) (.t 10) }])
 (.seq (.cond (.t 12) .skip
 (.ext 0))
 (.seq (.blk 1 (.seq (.reg false [{ dst := some 13, op := .mv (.t 11) },
  { dst := some 14, op := .ia 6 (.t 9) (.t 11) },
  { dst := some 15, op := .ld (some 6) (.t 14) },
  { dst := some 5, op := .new (List.replicate 5 (.i .i64 0) ++ [.b false]) },
  { dst := some 4, op := .mv (.t 13) },
  { dst := none, op := .st 6 (.t 5) (.t 15) }])
 (.seq (.reg false [{ dst := some 16, op := .fa 1 (.t 1) },
  { dst := some 17, op := .ld none (.t 16) },
  { dst := some 18, op := .len (.t 17) },
  { dst := some 19, op := .mv (.c (.i .i64 0)) }])
 (.blk 2 (.loop (.seq (.reg false [{ dst := some 20, op := .bin .lss (.t 19) (.t 18) }])
 (.seq (.cond (.t 20) .skip
 (.ext 2))
 (.seq (.blk 3 (.seq (.reg false [{ dst := some 21, op := .mv (.t 19) },
  { dst := some 22, op := .ia 6 (.t 17) (.t 19) },
  { dst := some 23, op := .ld (some 6) (.t 22) },
  { dst := some 7, op := .new (List.replicate 5 (.i .i64 0) ++ [.b false]) },
  { dst := some 6, op := .mv (.t 21) },
  { dst := none, op := .st 6 (.t 7) (.t 23) }])
 (.seq poReg
 (.cond (.t 48) (.reg false [{ dst := some 49, op := .mv (.t 3) },
  { dst := some 50, op := .mv (.t 4) },
  { dst := some 51, op := .mv (.t 6) },
  { dst := some 52, op := .build ([.i .i64 0, .i .i64 0]) [(0, 1, .t 50), (1, 1, .t 51)] },
  { dst := some 53, op := .bsl true 1 ([.i .i64 0, .i .i64 0]) [(0, 2, .t 52)] },
  { dst := some 54, op := .app 2 16 (.t 49) (.t 53) },
  { dst := some 3, op := .mv (.t 54) }])
 .skip))))
 (.reg false [{ dst := some 55, op := .bin .add (.t 19) (.c (.i .i64 1)) },
  { dst := some 19, op := .mv (.t 55) }])))))))))
 (.reg false [{ dst := some 56, op := .bin .add (.t 11) (.c (.i .i64 1)) },
  { dst := some 11, op := .mv (.t 56) }])))))))
 (.seq (.reg false [{ dst := some 57, op := .ld (some 8) (.t 1) },
  { dst := some 58, op := .mv (.t 3) },
  { dst := some 59, op := .call .pure (.c (.fn 81 [] [])) [.t 57, .t 58] },
  { dst := some 2, op := .mv (.t 59) }])
 .ret)))) }
theorem po_eq : A_graph_Po = A_graph_Po' := rfl
def poRow (X : Gr) (k j : Nat) : List (Int × Int) := ((List.range j).filter fun (b : Nat) => poB k b (X.evs.getD k ev0) (X.evs.getD b ev0)).map fun (b : Nat) => ((k : Int), (b : Int))
def poK (X : Gr) (k : Nat) : List (Int × Int) := (List.range k).flatMap fun a => poRow X a X.evs.length
def poL (X : Gr) (k j : Nat) : List (Int × Int) := poK X k ++ poRow X k j
theorem poK_succ (X k) : poK X (k + 1) = poL X k X.evs.length := by simp [poK, poL, List.range_succ]
theorem poL_0 (X k) : poL X k 0 = poK X k := by simp [poL, poRow]
theorem poL_succ (X k j) : poL X k (j + 1) = if poB k j (X.evs.getD k ev0) (X.evs.getD j ev0) then poL X k j ++ [((k : Int), (j : Int))] else poL X k j := by
  unfold poL poRow
  rw [List.range_succ, List.filter_append, List.filter_cons]
  split <;> simp
set_option maxRecDepth 100000 in
set_option maxHeartbeats 4000000 in
theorem sp_Po (h60 : F 60 = some A_graph_Po) (h81 : F 81 = some A_graph_Of) (pr : Pk_rel F) {X : Gr} (hX : X.evs.length ≤ 1000) : pureS F 60 [.agg (grC X)] = some (.ptr (relC (nOf X) (newR (nOf X) (poK X X.evs.length)))) := by
  rw [po_eq] at h60
  refine pure_of h60 ?_
  simp (disch := omega) only [A_graph_Po', wp, Nat.reduceAdd, Nat.reduceMul, Nat.reduceSub, gl]
  refine W_loop (fun q e g => ∃ k t, q = X.evs.length - k ∧ k ≤ X.evs.length ∧ e 1 = .mp 0 0 ∧ e 9 = .sl (evsC X.evs) X.evs.length .non ∧ e 10 = .i .i64 X.evs.length ∧ e 11 = .i .i64 k ∧ e 3 = .sl (pairsC (poK X k)) (poK X k).length t ∧ Live g 2 t ∧ (poK X k).length ≤ 1000 * k ∧ g.hp 0 = some (.cells (grC X) false) ∧ 0 < g.nx) X.evs.length ?_ ?_
  · refine ⟨0, .rig, rfl, Nat.zero_le _, ?_⟩
    simp (disch := omega) only [wp, Nat.reduceAdd, Nat.reduceMul, Nat.reduceSub]
    exact ⟨rfl, rfl, .inl rfl, Nat.zero_le _, by first | omega | (dsimp only; omega)⟩
  · rintro q e g ⟨k, t, rfl, hk, e1, e9, e10, e11, e3, ht, hl, h0, hnx⟩
    by_cases hk' : k < X.evs.length
    · have hk1 : (k : Int) < X.evs.length := by omega
      have hwk := succ_wrap (k := k) (by omega)
      have hpk := ev_part hk'
      have n1 : 0 ≠ g.nx + 1 + 3 := by omega
      simp (disch := omega) only [wp, Nat.reduceAdd, Nat.reduceMul, Nat.reduceSub, gl, e1, e9, e10, e11, e3, h0, hk1, hpk]
      refine W_loop (fun q e g2 => ∃ j t, q = X.evs.length - j ∧ j ≤ X.evs.length ∧ e 1 = .mp 0 0 ∧ e 9 = .sl (evsC X.evs) X.evs.length .non ∧ e 10 = .i .i64 X.evs.length ∧ e 11 = .i .i64 k ∧ e 4 = .i .i64 k ∧ e 5 = .mp (g.nx + 1 + 3) 0 ∧ e 17 = .sl (evsC X.evs) X.evs.length .non ∧ e 18 = .i .i64 X.evs.length ∧ e 19 = .i .i64 j ∧ e 3 = .sl (pairsC (poL X k j)) (poL X k j).length t ∧ Live g2 2 t ∧ (poL X k j).length ≤ 1000 * k + j ∧ g2.hp 0 = some (.cells (grC X) false) ∧ g2.hp (g.nx + 1 + 3) = some (.cells (evC (X.evs.getD k ev0)) false) ∧ g.nx + 1 + 3 < g2.nx) X.evs.length ?_ ?_
      · refine ⟨0, t, rfl, Nat.zero_le _, ?_⟩
        simp (disch := omega) only [wp, Nat.reduceAdd, Nat.reduceMul, Nat.reduceSub, e1, e9, e10, e11, e3, h0, poL_0]
        refine ⟨rfl, ?_, by first | omega | (dsimp only; omega), by first | omega | (dsimp only; omega)⟩
        rcases ht with rfl | ⟨τ, rfl, hτ, hlt⟩
        · exact .inl rfl
        · exact .inr ⟨τ, rfl, by simp (disch := omega) only [upd_ne]; exact hτ, by first | omega | (dsimp only; omega)⟩
      · rintro q e g2 ⟨j, t, rfl, hj, e1, e9, e10, e11, e4, e5, e17, e18, e19, e3, ht, hl, h0, hc, hn2⟩
        by_cases hj' : j < X.evs.length
        · have hj1 : (j : Int) < X.evs.length := by omega
          have hwj := succ_wrap (k := j) (by omega)
          have hpj := ev_part hj'
          have hLs := poL_succ X k j
          simp (disch := omega) only [wp, Nat.reduceAdd, Nat.reduceMul, Nat.reduceSub, gl, e1, e9, e10, e11, e4, e5, e17, e18, e19, e3, hj1, hpj]
          have m1 : g.nx + 1 + 3 ≠ g2.nx + 1 + 3 := by omega
          refine W_mono (po_reg (a := k) (b := j) (i := g.nx + 1 + 3) (j := g2.nx + 1 + 3) (x := X.evs.getD k ev0) (y := X.evs.getD j ev0) (by simp (disch := omega) only [upd_ne, e5]) (by simp (disch := omega) only [upd_ne, upd_same]) (by simp (disch := omega) only [upd_ne, e4]) (by simp (disch := omega) only [upd_ne, upd_same]) (by simp (disch := omega) only [upd_ne]; exact hc) (by simp (disch := omega) only [upd_same])) ?_
          intro o e' g' hm
          cases o with
          | ext n => exact hm.elim
          | ret => exact hm.elim
          | nrm =>
            obtain ⟨f48, hfr, rfl⟩ := hm
            have f1 := hfr 1 (by omega)
            have f3 := hfr 3 (by omega)
            have f4 := hfr 4 (by omega)
            have f5 := hfr 5 (by omega)
            have f6 := hfr 6 (by omega)
            have f9 := hfr 9 (by omega)
            have f10 := hfr 10 (by omega)
            have f11 := hfr 11 (by omega)
            have f17 := hfr 17 (by omega)
            have f18 := hfr 18 (by omega)
            have f19 := hfr 19 (by omega)
            simp (disch := omega) only [upd_ne, upd_same, e1, e3, e4, e5, e9, e10, e11, e17, e18, e19] at f1 f3 f4 f5 f6 f9 f10 f11 f17 f18 f19
            clear hfr
            cases hB : poB k j (X.evs.getD k ev0) (X.evs.getD j ev0) with
            | true =>
              rw [hB] at f48 hLs
              rw [if_pos rfl] at hLs
              rcases ht with rfl | ⟨τ, rfl, hτ, hlt⟩
              · simp (disch := omega) only [wp, Nat.reduceAdd, Nat.reduceMul, Nat.reduceSub, gl, f1, f3, f4, f5, f6, f9, f10, f11, f17, f18, f19, f48, pairsC_len, hwj]
                refine ⟨X.evs.length - (j + 1), by omega, j + 1, ?_⟩
                rw [hLs, pairsC_app, pairsC_one, List.length_append]
                exact ⟨_, rfl, by omega, rfl, rfl, .inr ⟨_, rfl, upd_same _ _ _, by first | omega | (dsimp only; omega)⟩, by simp; omega, h0, hc, by first | omega | (dsimp only; omega)⟩
              · have n0 : τ ≠ 0 := fun h => by rw [h, h0] at hτ; cases hτ
                have nc : τ ≠ g.nx + 1 + 3 := fun h => by rw [h, hc] at hτ; cases hτ
                simp (disch := omega) only [wp, Nat.reduceAdd, Nat.reduceMul, Nat.reduceSub, gl, f1, f3, f4, f5, f6, f9, f10, f11, f17, f18, f19, f48, pairsC_len, hwj, hτ]
                refine ⟨X.evs.length - (j + 1), by omega, j + 1, ?_⟩
                rw [hLs, pairsC_app, pairsC_one, List.length_append]
                exact ⟨_, rfl, by omega, rfl, rfl, .inr ⟨_, rfl, upd_same _ _ _, by first | omega | (dsimp only; omega)⟩, by simp; omega, h0, hc, by first | omega | (dsimp only; omega)⟩
            | false =>
              rw [hB] at f48 hLs
              rw [if_neg (by simp)] at hLs
              simp (disch := omega) only [wp, Nat.reduceAdd, Nat.reduceMul, Nat.reduceSub, gl, f1, f3, f4, f5, f6, f9, f10, f11, f17, f18, f19, f48, hwj]
              refine ⟨X.evs.length - (j + 1), by omega, j + 1, t, rfl, by omega, rfl, ?_⟩
              rw [hLs]
              refine ⟨rfl, ?_, by omega, by first | exact h0 | (simp (disch := omega) only [upd_ne]; exact h0), by first | exact hc | (simp (disch := omega) only [upd_ne]; exact hc), by first | omega | (dsimp only; omega)⟩
              rcases ht with rfl | ⟨τ, rfl, hτ, hlt⟩
              · exact .inl rfl
              · exact .inr ⟨τ, rfl, by simp (disch := omega) only [upd_ne]; exact hτ, by first | omega | (dsimp only; omega)⟩
        · obtain rfl : j = X.evs.length := by omega
          have hj1 : ¬ ((X.evs.length : Int) < X.evs.length) := by omega
          rw [← poK_succ] at e3 hl
          simp (disch := omega) only [wp, Nat.reduceAdd, Nat.reduceMul, Nat.reduceSub, gl, e1, e9, e10, e11, e4, e5, e17, e18, e19, e3, hj1, hwk]
          refine ⟨X.evs.length - (k + 1), by omega, k + 1, t, rfl, by omega, rfl, rfl, ?_, by omega, h0, by first | omega | (dsimp only; omega)⟩
          rcases ht with rfl | ⟨τ, rfl, hτ, hlt⟩
          · exact .inl rfl
          · exact .inr ⟨τ, rfl, hτ, by first | omega | (dsimp only; omega)⟩
    · obtain rfl : k = X.evs.length := by omega
      have hk1 : ¬ ((X.evs.length : Int) < X.evs.length) := by omega
      have hof := sp_of h81 pr X (poK X X.evs.length) .non (by omega)
      simp (disch := omega) only [wp, Nat.reduceAdd, Nat.reduceMul, Nat.reduceSub, gl, e1, e9, e10, e11, e3, h0, hk1, hof]
      rfl
theorem poRow_mem {X : Gr} {k j : Nat} {p : Int × Int} : p ∈ poRow X k j ↔ ∃ b : Nat, b < j ∧ poB k b (X.evs.getD k ev0) (X.evs.getD b ev0) = true ∧ p = ((k : Int), (b : Int)) := by
  unfold poRow
  simp only [List.mem_map, List.mem_filter, List.mem_range]
  constructor
  · rintro ⟨b, ⟨h1, h2⟩, rfl⟩; exact ⟨b, h1, h2, rfl⟩
  · rintro ⟨b, h1, h2, rfl⟩; exact ⟨b, ⟨h1, h2⟩, rfl⟩
def poR (X : Gr) : Rw := newR (nOf X) (poK X X.evs.length)
end Go.Ab
end
section
set_option linter.unusedVariables false
set_option linter.unusedSimpArgs false
namespace Go.Ab
variable {F : Funs}
theorem evs_drop : ∀ {l : List Ev} {k : Nat} (h : k < l.length), (evsC l).drop (k * 6) = evC (l.getD k ev0) ++ evsC (l.drop (k + 1))
  | p :: l, 0, _ => by simp [evsC]
  | p :: l, k + 1, h => by
    have := evs_drop (l := l) (k := k) (by simpa using h)
    simp only [List.getD_cons_succ, List.drop_succ_cons]
    rw [← this]
    simp [evsC, Nat.succ_mul, evC]
theorem ev_kd_at {l : List Ev} {k : Nat} (h : k < l.length) : part (((evsC l).drop (k * 6)).drop 1) 0 none = some (.i .i64 (l.getD k ev0).kd) := by
  rw [evs_drop h]; rfl
theorem ev_lc_at {l : List Ev} {k : Nat} (h : k < l.length) : part (((evsC l).drop (k * 6)).drop 3) 0 none = some (.i .i64 (l.getD k ev0).lc) := by
  rw [evs_drop h]; rfl
theorem ev_vl_at {l : List Ev} {k : Nat} (h : k < l.length) : part (((evsC l).drop (k * 6)).drop 4) 0 none = some (.i .i64 (l.getD k ev0).vl) := by
  rw [evs_drop h]; rfl
structure FewG (X : Gr) : Prop where
  evs : X.evs.length ≤ 50
  rf : X.rf.length ≤ 60
  co : X.co.length ≤ 6
  cos : ∀ c ∈ X.co, c.length ≤ 50
  rmw : X.rmw.length ≤ 50
  data : X.data.length ≤ 300
  ctrl : X.ctrl.length ≤ 300
  ctrli : X.ctrli.length ≤ 300
end Go.Ab
end
section
set_option linter.unusedVariables false
set_option linter.unusedSimpArgs false
namespace Go.Ab
variable {F : Funs}
def allN (n : Nat) (p : Nat → Bool) : Bool := (List.range n).all p
theorem allN_iff {n : Nat} {p : Nat → Bool} : allN n p = true ↔ ∀ i, i < n → p i = true := by
  unfold allN
  rw [List.all_eq_true]
  exact ⟨fun h i hi => h i (List.mem_range.2 hi), fun h i hi => h i (List.mem_range.1 hi)⟩
theorem allN_t {n : Nat} {p : Nat → Bool} (h : ∀ i, i < n → p i = true) : allN n p = true := allN_iff.2 h
theorem allN_f {n : Nat} {p : Nat → Bool} {k : Nat} (hk : k < n) (h : p k = false) : allN n p = false := by
  cases c : allN n p with
  | false => rfl
  | true => rw [allN_iff.1 c k hk] at h; cases h
def cmpI (a b : Int) : Int := if a < b then -1 else if b < a then 1 else 0
def ordP (p q : Int × Int) : Int := if cmpI p.1 q.1 != 0 then cmpI p.1 q.1 else cmpI p.2 q.2
def gEv (locs : Int) (e : Ev) : Bool :=
  if e.kd == 1 then (decide (0 ≤ e.lc) && decide (e.lc < locs)) && (e.md == 0 || e.md == 1)
  else if e.kd == 2 then (decide (0 ≤ e.lc) && decide (e.lc < locs)) && (e.md == 0 || e.md == 2)
  else e.kd == 3 && decide (1 ≤ e.md) && decide (e.md ≤ 4) && e.lc == 0 && e.vl == 0 && !e.ex
def gWr (X : Gr) (i loc : Int) : Bool := decide (0 ≤ i) && decide (i < X.evs.length) && (X.evs.getD i.toNat ev0).kd == 2 && (X.evs.getD i.toNat ev0).lc == loc
def mayD (a b : Ev) : Bool := a.kd == 1 && a.th == b.th
def mayR (a b : Ev) : Bool := a.kd == 1 && b.kd == 2 && a.lc == b.lc && a.ex && b.ex && a.th == b.th
section
variable (pc : Pk_cmp F)
include pc
set_option maxRecDepth 100000 in
theorem sg_nan (a : Int) : pureS F 266 [.i .i64 a] = some (.b false) := by
  refine pure_of pc.cmp_isNaN_int ?_
  have h : (a != a) = false := by simp
  simp (disch := omega) only [A_cmp_isNaN_int, wp, Nat.reduceAdd, Nat.reduceMul, Nat.reduceSub, h]
set_option maxRecDepth 100000 in
theorem sg_cmp (a b : Int) : pureS F 248 [.i .i64 a, .i .i64 b] = some (.i .i64 (cmpI a b)) := by
  refine pure_of pc.cmp_Compare_int ?_
  unfold cmpI
  by_cases c1 : a < b
  · simp (disch := omega) only [A_cmp_Compare_int, wp, Nat.reduceAdd, Nat.reduceMul, Nat.reduceSub, sg_nan pc, c1, if_true]
  · by_cases c2 : b < a
    · simp (disch := omega) only [A_cmp_Compare_int, wp, Nat.reduceAdd, Nat.reduceMul, Nat.reduceSub, sg_nan pc, c1, c2, if_true, if_false]
    · simp (disch := omega) only [A_cmp_Compare_int, wp, Nat.reduceAdd, Nat.reduceMul, Nat.reduceSub, sg_nan pc, c1, c2, if_false]
set_option maxRecDepth 100000 in
theorem sg_or (a b : Int) : pureS F 249 [.sl [.i .i64 a, .i .i64 b] 2 .non] = some (.i .i64 (if a != 0 then a else b)) := by
  refine pure_of pc.cmp_Or_int ?_
  simp (disch := omega) only [A_cmp_Or_int, wp, Nat.reduceAdd, Nat.reduceMul, Nat.reduceSub]
  have p0 : part (List.drop (0 * 1) [AV.i .i64 a, AV.i .i64 b]) 0 none = some (.i .i64 a) := rfl
  have p1 : part (List.drop (1 * 1) [AV.i .i64 a, AV.i .i64 b]) 0 none = some (.i .i64 b) := rfl
  have w0 := succ_wrap (k := 0) (by omega)
  have w1 := succ_wrap (k := 1) (by omega)
  refine W_loop (fun q e g => ∃ k : Nat, q = 2 - k ∧ k ≤ 2 ∧ e 3 = .i .i64 0 ∧ e 6 = .sl [.i .i64 a, .i .i64 b] 2 .non ∧ e 7 = .i .i64 2 ∧ e 8 = .i .i64 k ∧ (1 ≤ k → a = 0) ∧ (2 ≤ k → b = 0)) 2 ?_ ?_
  · refine ⟨0, rfl, by omega, ?_⟩
    simp (disch := omega) only [wp, Nat.reduceAdd, Nat.reduceMul, Nat.reduceSub]
    exact ⟨rfl, rfl, fun h => by omega, fun h => by omega⟩
  · rintro q e g ⟨k, rfl, hk, e3, e6, e7, e8, ha, hb'⟩
    by_cases hk' : k < 2
    · have hk1 : (k : Int) < 2 := by omega
      have hwk := succ_wrap (k := k) (by omega)
      by_cases k0 : k = 0
      · subst k0
        cases c : (a != 0)
        · simp (disch := omega) only [wp, Nat.reduceAdd, Nat.reduceMul, Nat.reduceSub, e3, e6, e7, e8, hk1, p0, c, hwk]
          exact ⟨1, by omega, 1, rfl, by omega, rfl, fun _ => by simpa using c, fun h => by omega⟩
        · simp (disch := omega) only [wp, Nat.reduceAdd, Nat.reduceMul, Nat.reduceSub, e3, e6, e7, e8, hk1, p0, c]
          rfl
      · obtain rfl : k = 1 := by omega
        have ha := ha (by omega)
        subst ha
        cases c : (b != 0)
        · simp (disch := omega) only [wp, Nat.reduceAdd, Nat.reduceMul, Nat.reduceSub, e3, e6, e7, e8, hk1, p1, c, hwk]
          exact ⟨0, by omega, 2, rfl, by omega, rfl, fun _ => trivial, fun h => by simpa using c⟩
        · simp (disch := omega) only [wp, Nat.reduceAdd, Nat.reduceMul, Nat.reduceSub, e3, e6, e7, e8, hk1, p1, c]
          rfl
    · obtain rfl : k = 2 := by omega
      have hk1 : ¬ (((2 : Nat) : Int) < 2) := by omega
      have ha := ha (by omega)
      have hb' := hb' (by omega)
      subst ha hb'
      simp (disch := omega) only [wp, Nat.reduceAdd, Nat.reduceMul, Nat.reduceSub, e3, e6, e7, e8, hk1]
      rfl
end
set_option maxRecDepth 100000 in
set_option maxHeartbeats 4000000 in
theorem sg_event (h236 : F 236 = some A_graph_event) (e : Ev) (locs : Int) : pureS F 236 [.agg (evC e), .i .i64 locs] = some (.b (gEv locs e)) := by
  refine pure_of h236 ?_
  obtain ⟨th, kd, md, lc, vl, ex⟩ := e
  have d0 : (evC ⟨th, kd, md, lc, vl, ex⟩) = [.i .i64 th, .i .i64 kd, .i .i64 md, .i .i64 lc, .i .i64 vl, .b ex] := rfl
  have fin : gEv locs ⟨th, kd, md, lc, vl, ex⟩ = if kd == 1 then (decide (0 ≤ lc) && decide (lc < locs)) && (md == 0 || md == 1) else if kd == 2 then (decide (0 ≤ lc) && decide (lc < locs)) && (md == 0 || md == 2) else kd == 3 && decide (1 ≤ md) && decide (md ≤ 4) && lc == 0 && vl == 0 && !ex := rfl
  generalize gEv locs ⟨th, kd, md, lc, vl, ex⟩ = R at fin
  simp only [A_graph_event, W_seq]
  refine W_cut (fun e g => e 1 = .i .i64 locs ∧ e 2 = .mp 0 0 ∧ g.hp 0 = some (.cells (evC ⟨th, kd, md, lc, vl, ex⟩) false)) ?_ ?_
  · simp (disch := omega) only [wp, Nat.reduceAdd, Nat.reduceMul, Nat.reduceSub, gl]
  rintro e g ⟨e1, e2, hg⟩
  simp only [W_seq]
  refine W_cut (fun e g => e 2 = .mp 0 0 ∧ e 5 = .b (decide (0 ≤ lc) && decide (lc < locs)) ∧ g.hp 0 = some (.cells (evC ⟨th, kd, md, lc, vl, ex⟩) false)) ?_ ?_
  · by_cases l1 : 0 ≤ lc
    · simp (disch := omega) only [wp, Nat.reduceAdd, Nat.reduceMul, Nat.reduceSub, gl, e1, e2, hg, d0, l1]
    · simp (disch := omega) only [wp, Nat.reduceAdd, Nat.reduceMul, Nat.reduceSub, gl, e1, e2, hg, d0, l1]
  rintro e g ⟨e2, e5, hg⟩
  generalize (decide (0 ≤ lc) && decide (lc < locs)) = at0 at e5 fin
  cases k1 : (kd == 1)
  case true =>
    rw [k1, if_pos rfl] at fin
    cases at0
    · simp (disch := omega) only [wp, Nat.reduceAdd, Nat.reduceMul, Nat.reduceSub, gl, e2, e5, hg, d0, k1, fin]
    · cases m0 : (md == 0)
      · rw [m0] at fin
        simp (disch := omega) only [wp, Nat.reduceAdd, Nat.reduceMul, Nat.reduceSub, gl, e2, e5, hg, d0, k1, m0, fin]
      · rw [m0] at fin
        simp (disch := omega) only [wp, Nat.reduceAdd, Nat.reduceMul, Nat.reduceSub, gl, e2, e5, hg, d0, k1, m0, fin]
  case false =>
    rw [k1, if_neg (by decide)] at fin
    cases k2 : (kd == 2)
    case true =>
      rw [k2, if_pos rfl] at fin
      cases at0
      · simp (disch := omega) only [wp, Nat.reduceAdd, Nat.reduceMul, Nat.reduceSub, gl, e2, e5, hg, d0, k1, k2, fin]
      · cases m0 : (md == 0)
        · rw [m0] at fin
          simp (disch := omega) only [wp, Nat.reduceAdd, Nat.reduceMul, Nat.reduceSub, gl, e2, e5, hg, d0, k1, k2, m0, fin]
        · rw [m0] at fin
          simp (disch := omega) only [wp, Nat.reduceAdd, Nat.reduceMul, Nat.reduceSub, gl, e2, e5, hg, d0, k1, k2, m0, fin]
    case false =>
      rw [k2, if_neg (by decide)] at fin
      cases k3 : (kd == 3)
      · rw [k3] at fin
        simp (disch := omega) only [wp, Nat.reduceAdd, Nat.reduceMul, Nat.reduceSub, gl, e2, e5, hg, d0, k1, k2, k3, fin]
      rw [k3] at fin
      by_cases m1 : 1 ≤ md
      case neg => simp (disch := omega) only [wp, Nat.reduceAdd, Nat.reduceMul, Nat.reduceSub, gl, e2, e5, hg, d0, k1, k2, k3, m1, fin]
      by_cases m4 : md ≤ 4
      case neg => simp (disch := omega) only [wp, Nat.reduceAdd, Nat.reduceMul, Nat.reduceSub, gl, e2, e5, hg, d0, k1, k2, k3, m1, m4, fin]
      cases a3 : (lc == 0)
      · rw [a3] at fin
        simp (disch := omega) only [wp, Nat.reduceAdd, Nat.reduceMul, Nat.reduceSub, gl, e2, e5, hg, d0, k1, k2, k3, m1, m4, a3, fin]
      cases a4 : (vl == 0)
      · rw [a3, a4] at fin
        simp (disch := omega) only [wp, Nat.reduceAdd, Nat.reduceMul, Nat.reduceSub, gl, e2, e5, hg, d0, k1, k2, k3, m1, m4, a3, a4, fin]
      rw [a3, a4] at fin
      simp (disch := omega) only [wp, Nat.reduceAdd, Nat.reduceMul, Nat.reduceSub, gl, e2, e5, hg, d0, k1, k2, k3, m1, m4, a3, a4, fin]
set_option maxRecDepth 100000 in
set_option maxHeartbeats 4000000 in
theorem sg_write (h237 : F 237 = some A_graph_write) (X : Gr) (i loc : Int) : pureS F 237 [.agg (grC X), .i .i64 i, .i .i64 loc] = some (.b (gWr X i loc)) := by
  refine pure_of h237 ?_
  unfold gWr
  by_cases c1 : 0 ≤ i
  case neg => simp (disch := omega) only [A_graph_write, wp, Nat.reduceAdd, Nat.reduceMul, Nat.reduceSub, gl, c1]
  by_cases c2 : i < X.evs.length
  case neg => simp (disch := omega) only [A_graph_write, wp, Nat.reduceAdd, Nat.reduceMul, Nat.reduceSub, gl, c1, c2]
  have ka := ev_kd_at (l := X.evs) (k := i.toNat) (by omega)
  have la := ev_lc_at (l := X.evs) (k := i.toNat) (by omega)
  have da : (List.drop (i.toNat * 6) (evsC X.evs)).length = X.evs.length * 6 - i.toNat * 6 := by rw [List.length_drop, evsC_len]
  cases c3 : ((X.evs.getD i.toNat ev0).kd == 2)
  · simp (disch := omega) only [A_graph_write, wp, Nat.reduceAdd, Nat.reduceMul, Nat.reduceSub, gl, c1, c2, ka, la, da, c3]
  · simp (disch := omega) only [A_graph_write, wp, Nat.reduceAdd, Nat.reduceMul, Nat.reduceSub, gl, c1, c2, ka, la, da, c3]
set_option maxRecDepth 100000 in
theorem sg_mayD (h191 : F 191 = some A_graph_Check_1) (a b : Ev) : pureS F 191 [.agg (evC a), .agg (evC b)] = some (.b (mayD a b)) := by
  refine pure_of h191 ?_
  unfold mayD
  cases c1 : (a.kd == 1)
  · simp (disch := omega) only [A_graph_Check_1, wp, Nat.reduceAdd, Nat.reduceMul, Nat.reduceSub, gl, c1]
  · simp (disch := omega) only [A_graph_Check_1, wp, Nat.reduceAdd, Nat.reduceMul, Nat.reduceSub, gl, c1]
set_option maxRecDepth 100000 in
set_option maxHeartbeats 4000000 in
theorem sg_mayR (h238 : F 238 = some A_graph_rmw_1) (a b : Ev) : pureS F 238 [.agg (evC a), .agg (evC b)] = some (.b (mayR a b)) := by
  refine pure_of h238 ?_
  unfold mayR
  cases c1 : (a.kd == 1)
  · simp (disch := omega) only [A_graph_rmw_1, wp, Nat.reduceAdd, Nat.reduceMul, Nat.reduceSub, gl, c1]
  cases c2 : (b.kd == 2)
  · simp (disch := omega) only [A_graph_rmw_1, wp, Nat.reduceAdd, Nat.reduceMul, Nat.reduceSub, gl, c1, c2]
  cases c3 : (a.lc == b.lc)
  · simp (disch := omega) only [A_graph_rmw_1, wp, Nat.reduceAdd, Nat.reduceMul, Nat.reduceSub, gl, c1, c2, c3]
  cases c4 : a.ex
  · simp (disch := omega) only [A_graph_rmw_1, wp, Nat.reduceAdd, Nat.reduceMul, Nat.reduceSub, gl, c1, c2, c3, c4]
  cases c5 : b.ex
  · simp (disch := omega) only [A_graph_rmw_1, wp, Nat.reduceAdd, Nat.reduceMul, Nat.reduceSub, gl, c1, c2, c3, c4, c5]
  simp (disch := omega) only [A_graph_rmw_1, wp, Nat.reduceAdd, Nat.reduceMul, Nat.reduceSub, gl, c1, c2, c3, c4, c5]
set_option maxRecDepth 100000 in
theorem sg_order (pc : Pk_cmp F) (h239 : F 239 = some A_graph_order) (p q : Int × Int) : pureS F 239 [.agg [.i .i64 p.1, .i .i64 p.2], .agg [.i .i64 q.1, .i .i64 q.2]] = some (.i .i64 (ordP p q)) := by
  refine pure_of h239 ?_
  simp (disch := omega) only [A_graph_order, wp, Nat.reduceAdd, Nat.reduceMul, Nat.reduceSub, gl, sg_cmp pc, sg_or pc]
  rfl
end Go.Ab
end
section
set_option linter.unusedVariables false
set_option linter.unusedSimpArgs false
namespace Go.Ab
variable {F : Funs}
def evIs (a b : Ev) : Bool := a.th == b.th && (a.kd == b.kd && (a.md == b.md && (a.lc == b.lc && (a.vl == b.vl && (a.ex == b.ex && true)))))
def gFirst (X : Gr) : Bool := allN X.locs.toNat fun i => evIs (X.evs.getD i ev0) ⟨0, 2, 0, i, 0, false⟩
set_option maxRecDepth 100000 in
set_option maxHeartbeats 4000000 in
theorem sg_first (h186 : F 186 = some A_graph_first) {X : Gr} (h0 : 0 ≤ X.locs) (hl : X.locs ≤ X.evs.length) (hn : X.evs.length ≤ 1000) : pureS F 186 [.agg (grC X)] = some (.b (gFirst X)) := by
  refine pure_of h186 ?_
  have finT : (∀ i, i < X.locs.toNat → evIs (X.evs.getD i ev0) ⟨0, 2, 0, i, 0, false⟩ = true) → gFirst X = true := allN_t
  have finF : ∀ k, k < X.locs.toNat → evIs (X.evs.getD k ev0) ⟨0, 2, 0, k, 0, false⟩ = false → gFirst X = false := fun k hk h => allN_f hk h
  generalize gFirst X = R at finT finF
  have r5 : ∀ x : AV, List.replicate 5 x = [x, x, x, x, x] := fun _ => rfl
  simp (disch := omega) only [A_graph_first, wp, Nat.reduceAdd, Nat.reduceMul, Nat.reduceSub, gl]
  refine W_loop (fun q e g => ∃ k : Nat, q = X.locs.toNat - k ∧ k ≤ X.locs.toNat ∧ e 1 = .mp 0 0 ∧ e 5 = .i .i64 X.locs ∧ e 6 = .i .i64 k ∧ g.hp 0 = some (.cells (grC X) false) ∧ 0 < g.nx ∧ ∀ i, i < k → evIs (X.evs.getD i ev0) ⟨0, 2, 0, i, 0, false⟩ = true) X.locs.toNat ?_ ?_
  · refine ⟨0, rfl, Nat.zero_le _, ?_⟩
    simp (disch := omega) only [wp, Nat.reduceAdd, Nat.reduceMul, Nat.reduceSub]
    exact ⟨rfl, by first | omega | (dsimp only; omega), fun i hi => by omega⟩
  · rintro q e g ⟨k, rfl, hk, e1, e5, e6, hg, hnx, hall⟩
    by_cases hk' : k < X.locs.toNat
    · have hk1 : (k : Int) < X.locs := by omega
      have hkn : (k : Int) < X.evs.length := by omega
      have hwk := succ_wrap (k := k) (by omega)
      have hev := ev_part (l := X.evs) (k := k) (by omega)
      have he : aeqa [0, 0, 0, 0, 0, 1] (.agg (evC (X.evs.getD k ev0))) (.agg [.i .i64 0, .i .i64 2, .i .i64 0, .i .i64 k, .i .i64 0, .b false]) = some (evIs (X.evs.getD k ev0) ⟨0, 2, 0, k, 0, false⟩) := rfl
      cases c : evIs (X.evs.getD k ev0) ⟨0, 2, 0, k, 0, false⟩
      · obtain rfl := finF k hk' c
        rw [c] at he
        simp (disch := omega) only [wp, Nat.reduceAdd, Nat.reduceMul, Nat.reduceSub, gl, e1, e5, e6, hg, hk1, hkn, hev, r5, he]
      · have hc := c
        rw [c] at he
        simp (disch := omega) only [wp, Nat.reduceAdd, Nat.reduceMul, Nat.reduceSub, gl, e1, e5, e6, hg, hk1, hkn, hev, r5, he, hwk]
        refine ⟨X.locs.toNat - (k + 1), by omega, k + 1, rfl, by omega, rfl, by first | omega | (dsimp only; omega), fun i hi => ?_⟩
        by_cases hik : i = k
        · subst hik; exact hc
        · exact hall i (by omega)
    · have hk1 : ¬ ((k : Int) < X.locs) := by omega
      obtain rfl : k = X.locs.toNat := by omega
      obtain rfl := finT hall
      simp (disch := omega) only [wp, Nat.reduceAdd, Nat.reduceMul, Nat.reduceSub, gl, e1, e5, e6, hg, hk1]
theorem o_slice' {call al lo' id e g} (esz : Nat) (x : Opd) (lo hi mx : Option Opd) : opE call al lo' id (.slice esz x lo hi mx) e g = vSlice esz (x.ev e) (evo e lo) (evo e hi) (evo e mx) g := rfl
theorem vSlice_lo {esz : Nat} {cs : List AV} {n : Nat} {lo : Int} {g : G} (h0 : 0 ≤ lo) (h : lo ≤ n) : vSlice esz (.sl cs n .non) (some (.i .i64 lo)) none none g = some (.sl ((cs.drop (lo.toNat * esz)).take ((n - lo.toNat) * esz)) (n - lo.toNat) .non, g) := by
  unfold vSlice
  have e : bnd n none = some (n : Int) := rfl
  have e2 : bnd 0 (some (.i .i64 lo)) = some lo := rfl
  have c : 0 ≤ lo ∧ lo ≤ (n : Int) ∧ (n : Int) ≤ n := ⟨h0, h, by omega⟩
  simp only [e, e2, if_pos c, Int.toNat_natCast]
  rfl
theorem evsC_drop : ∀ (l : List Ev) (k : Nat), (evsC l).drop (k * 6) = evsC (l.drop k)
  | l, 0 => by simp
  | [], k + 1 => by simp [evsC]
  | x :: l, k + 1 => by
    have e : (k + 1) * 6 = (evC x).length + k * 6 := by show _ = 6 + k * 6; omega
    rw [List.drop_succ_cons, ← evsC_drop l k, e]
    show List.drop _ (evC x ++ evsC l) = _
    rw [List.drop_length_add_append]
theorem evs_tail {l : List Ev} {lo : Int} (h0 : 0 ≤ lo) (h : lo ≤ l.length) : ((evsC l).drop (lo.toNat * 6)).take ((l.length - lo.toNat) * 6) = evsC (l.drop lo.toNat) := by
  rw [evsC_drop, List.take_of_length_le]
  rw [evsC_len, List.length_drop]
  exact Nat.le_refl _
def thrWas (D : List Ev) (k : Nat) : Int := if k = 0 then 1 else (D.getD (k - 1) ev0).th
def thrK (locs : Int) (D : List Ev) (k : Nat) : Bool := !decide ((D.getD k ev0).th < thrWas D k) && (!decide (4 < (D.getD k ev0).th) && gEv locs (D.getD k ev0))
def gThr (X : Gr) : Bool := allN (X.evs.length - X.locs.toNat) (thrK X.locs (X.evs.drop X.locs.toNat))
set_option maxRecDepth 100000 in
set_option maxHeartbeats 4000000 in
theorem sg_threads (h187 : F 187 = some A_graph_threads) (h236 : F 236 = some A_graph_event) {X : Gr} (h0 : 0 ≤ X.locs) (hl : X.locs ≤ X.evs.length) (hn : X.evs.length ≤ 1000) : pureS F 187 [.agg (grC X)] = some (.b (gThr X)) := by
  refine pure_of h187 ?_
  have hD : (X.evs.drop X.locs.toNat).length = X.evs.length - X.locs.toNat := List.length_drop ..
  have finT : (∀ i, i < X.evs.length - X.locs.toNat → thrK X.locs (X.evs.drop X.locs.toNat) i = true) → gThr X = true := allN_t
  have finF : ∀ k, k < X.evs.length - X.locs.toNat → thrK X.locs (X.evs.drop X.locs.toNat) k = false → gThr X = false := fun k hk h => allN_f hk h
  generalize gThr X = R at finT finF
  have hs : ∀ g : G, vSlice 6 (.sl (evsC X.evs) X.evs.length .non) (some (.i .i64 X.locs)) none none g = some (.sl (evsC (X.evs.drop X.locs.toNat)) (X.evs.drop X.locs.toNat).length .non, g) := fun g => by
    rw [vSlice_lo h0 hl, evs_tail h0 hl, hD]
  rw [← hD] at finT finF
  simp (disch := omega) only [A_graph_threads, wp, Nat.reduceAdd, Nat.reduceMul, Nat.reduceSub, gl, o_slice', evo, Option.map_some, Option.map_none, hs]
  generalize X.evs.drop X.locs.toNat = D at finT finF hD
  have s6 : ∀ b1 b2 b3 b4 b5 b6 c1 c2 c3 c4 c5 c6 : AV, splice [b1, b2, b3, b4, b5, b6] 0 [c1, c2, c3, c4, c5, c6] = [c1, c2, c3, c4, c5, c6] := fun _ _ _ _ _ _ _ _ _ _ _ _ => rfl
  have r5 : ∀ x : AV, List.replicate 5 x = [x, x, x, x, x] := fun _ => rfl
  refine W_loop (fun q e g => ∃ k : Nat, q = D.length - k ∧ k ≤ D.length ∧ e 1 = .mp 0 0 ∧ e 3 = .i .i64 (thrWas D k) ∧ e 10 = .sl (evsC D) D.length .non ∧ e 11 = .i .i64 D.length ∧ e 12 = .i .i64 k ∧ g.hp 0 = some (.cells (grC X) false) ∧ 0 < g.nx ∧ ∀ i, i < k → thrK X.locs D i = true) D.length ?_ ?_
  · refine ⟨0, rfl, Nat.zero_le _, ?_⟩
    simp (disch := omega) only [wp, Nat.reduceAdd, Nat.reduceMul, Nat.reduceSub]
    exact ⟨rfl, rfl, by first | omega | (dsimp only; omega), fun i hi => by omega⟩
  · rintro q e g ⟨k, rfl, hk, e1, e3, e10, e11, e12, hg, hnx, hall⟩
    by_cases hk' : k < D.length
    · have hk1 : (k : Int) < D.length := by omega
      have hwk := succ_wrap (k := k) (by omega)
      have hev := ev_part hk'
      have hK : thrK X.locs D k = (!decide ((D.getD k ev0).th < thrWas D k) && (!decide (4 < (D.getD k ev0).th) && gEv X.locs (D.getD k ev0))) := rfl
      have hW : thrWas D (k + 1) = (D.getD k ev0).th := rfl
      have hv := sg_event h236 (D.getD k ev0) X.locs
      have hf := finF k hk'
      rw [hK] at hf
      have hall' : thrK X.locs D k = true → ∀ i, i < k + 1 → thrK X.locs D i = true := by
        intro h i hi
        by_cases hik : i = k
        · subst hik; exact h
        · exact hall i (by omega)
      rw [hK] at hall'
      generalize thrWas D k = was at e3 hf hall'
      have t0 := ev_th (D.getD k ev0)
      generalize D.getD k ev0 = ev at hev hW hv hf hall' t0
      have n1 : 0 ≠ g.nx + 1 + 1 := by omega
      by_cases c1 : ev.th < was
      · obtain rfl := hf (by simp [c1])
        simp (disch := omega) only [wp, Nat.reduceAdd, Nat.reduceMul, Nat.reduceSub, gl, e1, e3, e10, e11, e12, hg, hk1, hev, c1]
      by_cases c2 : 4 < ev.th
      · obtain rfl := hf (by simp [c2])
        simp (disch := omega) only [wp, Nat.reduceAdd, Nat.reduceMul, Nat.reduceSub, gl, e1, e3, e10, e11, e12, hg, hk1, hev, c1, c2]
      cases c3 : gEv X.locs ev
      · rw [c3] at hv
        obtain rfl := hf (by simp [c3])
        simp (disch := omega) only [wp, Nat.reduceAdd, Nat.reduceMul, Nat.reduceSub, gl, e1, e3, e10, e11, e12, hg, hk1, hev, c1, c2, hv]
      · rw [c3] at hv
        have hall' := hall' (by simp [c1, c2, c3])
        simp (disch := omega) only [wp, Nat.reduceAdd, Nat.reduceMul, Nat.reduceSub, gl, e1, e3, e10, e11, e12, hg, hk1, hev, c1, c2, hv, hwk]
        exact ⟨D.length - (k + 1), by omega, k + 1, rfl, by omega, by rw [hW], rfl, by first | omega | (dsimp only; omega), hall'⟩
    · have hk1 : ¬ ((k : Int) < D.length) := by omega
      obtain rfl : k = D.length := by omega
      obtain rfl := finT hall
      simp (disch := omega) only [wp, Nat.reduceAdd, Nat.reduceMul, Nat.reduceSub, gl, e1, e3, e10, e11, e12, hg, hk1]
end Go.Ab
end
section
set_option linter.unusedVariables false
set_option linter.unusedSimpArgs false
namespace Go.Ab
variable {F : Funs}
def rfK (X : Gr) (i : Nat) : Bool := !((X.evs.getD i ev0).kd != 1 && X.rf.getD i 0 != -1) && !((X.evs.getD i ev0).kd == 1 && (!gWr X (X.rf.getD i 0) (X.evs.getD i ev0).lc || (X.evs.getD (X.rf.getD i 0).toNat ev0).vl != (X.evs.getD i ev0).vl))
def gRf (X : Gr) : Bool := ((X.rf.length : Int) == X.evs.length) && allN X.evs.length (rfK X)
theorem gWr_in {X : Gr} {i loc : Int} (h : gWr X i loc = true) : 0 ≤ i ∧ i < X.evs.length := by
  unfold gWr at h
  simp only [Bool.and_eq_true, decide_eq_true_eq] at h
  exact ⟨h.1.1.1, h.1.1.2⟩
set_option maxRecDepth 100000 in
set_option maxHeartbeats 4000000 in
theorem sg_rf (h188 : F 188 = some A_graph_rf) (h237 : F 237 = some A_graph_write) {X : Gr} (hn : X.evs.length ≤ 1000) : pureS F 188 [.agg (grC X)] = some (.b (gRf X)) := by
  refine pure_of h188 ?_
  have hR : gRf X = (((X.rf.length : Int) == X.evs.length) && allN X.evs.length (rfK X)) := rfl
  cases c0 : ((X.rf.length : Int) == (X.evs.length : Int))
  · rw [c0] at hR
    have c0' : ((X.rf.length : Int) != (X.evs.length : Int)) = true := by unfold bne; rw [c0]; rfl
    rw [hR]
    simp (disch := omega) only [A_graph_rf, wp, Nat.reduceAdd, Nat.reduceMul, Nat.reduceSub, gl, c0']
  rw [c0, Bool.true_and] at hR
  have c0' : ((X.rf.length : Int) != (X.evs.length : Int)) = false := by unfold bne; rw [c0]; rfl
  have hrl : X.rf.length = X.evs.length := by have := of_decide_eq_true (p := (X.rf.length : Int) = X.evs.length) (by simpa using c0); omega
  have finT : (∀ i, i < X.evs.length → rfK X i = true) → gRf X = true := fun h => by rw [hR]; exact allN_t h
  have finF : ∀ k, k < X.evs.length → rfK X k = false → gRf X = false := fun k hk h => by rw [hR]; exact allN_f hk h
  clear hR
  generalize gRf X = R at finT finF
  have r5 : ∀ x : AV, List.replicate 5 x = [x, x, x, x, x] := fun _ => rfl
  simp (disch := omega) only [A_graph_rf, wp, Nat.reduceAdd, Nat.reduceMul, Nat.reduceSub, gl, c0']
  refine W_loop (fun q e g => ∃ k : Nat, q = X.evs.length - k ∧ k ≤ X.evs.length ∧ e 1 = .mp 0 0 ∧ e 14 = .sl (evsC X.evs) X.evs.length .non ∧ e 15 = .i .i64 X.evs.length ∧ e 16 = .i .i64 k ∧ g.hp 0 = some (.cells (grC X) false) ∧ 0 < g.nx ∧ ∀ i, i < k → rfK X i = true) X.evs.length ?_ ?_
  · refine ⟨0, rfl, Nat.zero_le _, ?_⟩
    simp (disch := omega) only [wp, Nat.reduceAdd, Nat.reduceMul, Nat.reduceSub]
    exact ⟨rfl, by first | omega | (dsimp only; omega), fun i hi => by omega⟩
  · rintro q e g ⟨k, rfl, hk, e1, e14, e15, e16, hg, hnx, hall⟩
    by_cases hk' : k < X.evs.length
    · have hk1 : (k : Int) < X.evs.length := by omega
      have hkr : (k : Int) < X.rf.length := by omega
      have hwk := succ_wrap (k := k) (by omega)
      have hev := ev_part hk'
      have hrf := ints_part (l := X.rf) (k := k) (by omega)
      have hK : rfK X k = (!((X.evs.getD k ev0).kd != 1 && X.rf.getD k 0 != -1) && !((X.evs.getD k ev0).kd == 1 && (!gWr X (X.rf.getD k 0) (X.evs.getD k ev0).lc || (X.evs.getD (X.rf.getD k 0).toNat ev0).vl != (X.evs.getD k ev0).vl))) := rfl
      have hf := finF k hk'
      rw [hK] at hf
      have hall' : rfK X k = true → ∀ i, i < k + 1 → rfK X i = true := by
        intro h i hi
        by_cases hik : i = k
        · subst hik; exact h
        · exact hall i (by omega)
      rw [hK] at hall'
      have hw := sg_write h237 X (X.rf.getD k 0) (X.evs.getD k ev0).lc
      have hin := gWr_in (X := X) (i := X.rf.getD k 0) (loc := (X.evs.getD k ev0).lc)
      generalize X.rf.getD k 0 = w at hrf hf hall' hw hin
      have n1 : 0 ≠ g.nx + 2 + 1 := by omega
      cases c1 : ((X.evs.getD k ev0).kd == 1)
      · have c1' : ((X.evs.getD k ev0).kd != 1) = true := by unfold bne; rw [c1]; rfl
        rw [c1, c1'] at hf hall'
        generalize X.evs.getD k ev0 = ev at hev hw c1 c1'
        cases c2 : (w != -1)
        · rw [c2] at hall'
          have hall' := hall' rfl
          simp (disch := omega) only [wp, Nat.reduceAdd, Nat.reduceMul, Nat.reduceSub, gl, e1, e14, e15, e16, hg, hk1, hkr, hev, hrf, c1, c1', c2, hwk]
          exact ⟨X.evs.length - (k + 1), by omega, k + 1, rfl, by omega, rfl, by first | omega | (dsimp only; omega), hall'⟩
        · rw [c2] at hf
          obtain rfl := hf rfl
          simp (disch := omega) only [wp, Nat.reduceAdd, Nat.reduceMul, Nat.reduceSub, gl, e1, e14, e15, e16, hg, hk1, hkr, hev, hrf, c1, c1', c2]
      · have c1' : ((X.evs.getD k ev0).kd != 1) = false := by unfold bne; rw [c1]; rfl
        rw [c1, c1'] at hf hall'
        generalize X.evs.getD k ev0 = ev at hev hw c1 c1' hf hall' hin
        cases c2 : gWr X w ev.lc
        · rw [c2] at hf hw
          obtain rfl := hf rfl
          simp (disch := omega) only [wp, Nat.reduceAdd, Nat.reduceMul, Nat.reduceSub, gl, e1, e14, e15, e16, hg, hk1, hkr, hev, hrf, c1, c1', hw]
        · rw [c2] at hf hw hall'
          obtain ⟨w0, w1⟩ := hin c2
          have va := ev_vl_at (l := X.evs) (k := w.toNat) (by omega)
          have da : (List.drop (w.toNat * 6) (evsC X.evs)).length = X.evs.length * 6 - w.toNat * 6 := by rw [List.length_drop, evsC_len]
          cases c3 : ((X.evs.getD w.toNat ev0).vl != ev.vl)
          · rw [c3] at hall'
            have hall' := hall' rfl
            simp (disch := omega) only [wp, Nat.reduceAdd, Nat.reduceMul, Nat.reduceSub, gl, e1, e14, e15, e16, hg, hk1, hkr, hev, hrf, c1, c1', hw, w0, w1, va, da, c3, hwk]
            exact ⟨X.evs.length - (k + 1), by omega, k + 1, rfl, by omega, rfl, by first | omega | (dsimp only; omega), hall'⟩
          · rw [c3] at hf
            obtain rfl := hf rfl
            simp (disch := omega) only [wp, Nat.reduceAdd, Nat.reduceMul, Nat.reduceSub, gl, e1, e14, e15, e16, hg, hk1, hkr, hev, hrf, c1, c1', hw, w0, w1, va, da, c3]
    · have hk1 : ¬ ((k : Int) < X.evs.length) := by omega
      obtain rfl : k = X.evs.length := by omega
      obtain rfl := finT hall
      simp (disch := omega) only [wp, Nat.reduceAdd, Nat.reduceMul, Nat.reduceSub, gl, e1, e14, e15, e16, hg, hk1]
end Go.Ab
end
section
set_option linter.unusedVariables false
set_option linter.unusedSimpArgs false
namespace Go.Ab
variable {F : Funs}
def lsK (X : Gr) (may : Ev → Ev → Bool) (l : List (Int × Int)) (i : Nat) : Bool :=
  !decide ((l.getD i (0, 0)).1 < 0) && (!decide ((X.evs.length : Int) ≤ (l.getD i (0, 0)).2) && (!decide ((l.getD i (0, 0)).2 ≤ (l.getD i (0, 0)).1) && (!(decide (0 < i) && decide (0 ≤ ordP (l.getD (i - 1) (0, 0)) (l.getD i (0, 0)))) && may (X.evs.getD (l.getD i (0, 0)).1.toNat ev0) (X.evs.getD (l.getD i (0, 0)).2.toNat ev0))))
def gList (X : Gr) (may : Ev → Ev → Bool) (l : List (Int × Int)) : Bool := allN l.length (lsK X may l)
theorem frz_p2 (hp) (x y : Int) : frz hp depth (.agg [.i .i64 x, .i .i64 y]) = some (.agg [.i .i64 x, .i .i64 y]) := by
  show frz hp (8 + 1) _ = _
  simp only [frz, frzL, Option.map_some]
theorem vis_p2 (hp) (x y : Int) : vis hp depth (.agg [.i .i64 x, .i .i64 y]) = [] := by
  show vis hp (8 + 1) _ = _
  simp only [vis, List.flatMap_cons, List.flatMap_nil, List.append_nil]
set_option maxRecDepth 100000 in
set_option maxHeartbeats 8000000 in
theorem sg_list (h192 : F 192 = some A_graph_list) (h239 : F 239 = some A_graph_order) (pc : Pk_cmp F) {X : Gr} (hn : X.evs.length ≤ 1000) {fid : Nat} {may : Ev → Ev → Bool} (hmay : ∀ a b, pureS F fid [.agg (evC a), .agg (evC b)] = some (.b (may a b))) (l : List (Int × Int)) (hl : l.length ≤ 1000) : pureS F 192 [.agg (grC X), .sl (pairsC l) l.length .non, .fn fid [] []] = some (.b (gList X may l)) := by
  refine pure_of h192 ?_
  have finT : (∀ i, i < l.length → lsK X may l i = true) → gList X may l = true := allN_t
  have finF : ∀ k, k < l.length → lsK X may l k = false → gList X may l = false := fun k hk h => allN_f hk h
  generalize gList X may l = R at finT finF
  simp (disch := omega) only [A_graph_list, wp, Nat.reduceAdd, Nat.reduceMul, Nat.reduceSub, gl]
  refine W_loop (fun q e g => ∃ k : Nat, q = l.length - k ∧ k ≤ l.length ∧ e 1 = .sl (pairsC l) l.length .non ∧ e 2 = .fn fid [] [] ∧ e 3 = .mp 0 0 ∧ e 9 = .sl (pairsC l) l.length .non ∧ e 10 = .i .i64 l.length ∧ e 11 = .i .i64 k ∧ g.hp 0 = some (.cells (grC X) false) ∧ 0 < g.nx ∧ ∀ i, i < k → lsK X may l i = true) l.length ?_ ?_
  · refine ⟨0, rfl, Nat.zero_le _, ?_⟩
    simp (disch := omega) only [wp, Nat.reduceAdd, Nat.reduceMul, Nat.reduceSub]
    exact ⟨rfl, by first | omega | (dsimp only; omega), fun i hi => by omega⟩
  · rintro q e g ⟨k, rfl, hk, e1, e2, e3, e9, e10, e11, hg, hnx, hall⟩
    by_cases hk' : k < l.length
    · have hk1 : (k : Int) < l.length := by omega
      have hwk := succ_wrap (k := k) (by omega)
      have hpp := pairs_part hk'
      have hK : lsK X may l k = (!decide ((l.getD k (0, 0)).1 < 0) && (!decide ((X.evs.length : Int) ≤ (l.getD k (0, 0)).2) && (!decide ((l.getD k (0, 0)).2 ≤ (l.getD k (0, 0)).1) && (!(decide (0 < k) && decide (0 ≤ ordP (l.getD (k - 1) (0, 0)) (l.getD k (0, 0)))) && may (X.evs.getD (l.getD k (0, 0)).1.toNat ev0) (X.evs.getD (l.getD k (0, 0)).2.toNat ev0))))) := rfl
      have hf := finF k hk'
      rw [hK] at hf
      have hall' : lsK X may l k = true → ∀ i, i < k + 1 → lsK X may l i = true := by
        intro h i hi
        by_cases hik : i = k
        · subst hik; exact h
        · exact hall i (by omega)
      rw [hK] at hall'
      have ho := sg_order pc h239 (l.getD (k - 1) (0, 0)) (l.getD k (0, 0))
      have hpq := pairs_part (l := l) (k := k - 1) (by omega)
      have dq : (List.drop ((k - 1) * 2) (pairsC l)).length = l.length * 2 - (k - 1) * 2 := by rw [List.length_drop, pairsC_len]
      generalize l.getD k (0, 0) = p at hpp hf hall' ho
      generalize l.getD (k - 1) (0, 0) = pq at hf hall' ho hpq
      obtain ⟨a, b⟩ := p
      have s2 : ∀ b1 b2 c1 c2 : AV, splice [b1, b2] 0 [c1, c2] = [c1, c2] := fun _ _ _ _ => rfl
      have n1 : 0 ≠ g.nx + 2 + 1 := by omega
      simp only at hpp hf hall' ho
      by_cases c1 : a < 0
      · obtain rfl := hf (by simp [c1])
        simp (disch := omega) only [wp, Nat.reduceAdd, Nat.reduceMul, Nat.reduceSub, gl, s2, frz_p2, vis_p2, e1, e2, e3, e9, e10, e11, hg, hk1, hpp, c1]
      by_cases c2 : (X.evs.length : Int) ≤ b
      · obtain rfl := hf (by simp [c2])
        simp (disch := omega) only [wp, Nat.reduceAdd, Nat.reduceMul, Nat.reduceSub, gl, s2, frz_p2, vis_p2, e1, e2, e3, e9, e10, e11, hg, hk1, hpp, c1, c2]
      by_cases c3 : b ≤ a
      · obtain rfl := hf (by simp [c3])
        simp (disch := omega) only [wp, Nat.reduceAdd, Nat.reduceMul, Nat.reduceSub, gl, s2, frz_p2, vis_p2, e1, e2, e3, e9, e10, e11, hg, hk1, hpp, c1, c2, c3]
      have hm := hmay (X.evs.getD a.toNat ev0) (X.evs.getD b.toNat ev0)
      have pa := ev_part (l := X.evs) (k := a.toNat) (by omega)
      have pb := ev_part (l := X.evs) (k := b.toNat) (by omega)
      generalize X.evs.getD a.toNat ev0 = ea at hm pa hf hall'
      generalize X.evs.getD b.toNat ev0 = eb at hm pb hf hall'
      have a0 : 0 ≤ a := by omega
      have an : a < X.evs.length := by omega
      have b0 : 0 ≤ b := by omega
      have bn : b < X.evs.length := by omega
      by_cases c4 : 0 < k
      · have c4' : (0 : Int) < k := by omega
        have hw1 : IntKind.i64.wrap ((k : Int) - 1) = ((k - 1 : Nat) : Int) := by rw [i64_wrap (by omega) (by omega)]; omega
        have km : ((k - 1 : Nat) : Int) < l.length := by omega
        by_cases c5 : 0 ≤ ordP pq (a, b)
        · obtain rfl := hf (by simp [c4, c5])
          simp (disch := omega) only [wp, Nat.reduceAdd, Nat.reduceMul, Nat.reduceSub, gl, s2, frz_p2, vis_p2, e1, e2, e3, e9, e10, e11, hg, hk1, hpp, c1, c2, c3, c4', hw1, km, hpq, dq, ho, c5]
        · cases c6 : may ea eb
          · rw [c6] at hm
            obtain rfl := hf (by simp [c6])
            simp (disch := omega) only [wp, Nat.reduceAdd, Nat.reduceMul, Nat.reduceSub, gl, s2, frz_p2, vis_p2, e1, e2, e3, e9, e10, e11, hg, hk1, hpp, c1, c2, c3, c4', hw1, km, hpq, dq, ho, c5, pa, pb, a0, an, b0, bn, hm]
          · rw [c6] at hm
            have hall' := hall' (by simp [c1, c2, c3, c5, c6])
            simp (disch := omega) only [wp, Nat.reduceAdd, Nat.reduceMul, Nat.reduceSub, gl, s2, frz_p2, vis_p2, e1, e2, e3, e9, e10, e11, hg, hk1, hpp, c1, c2, c3, c4', hw1, km, hpq, dq, ho, c5, pa, pb, a0, an, b0, bn, hm, hwk]
            exact ⟨l.length - (k + 1), by omega, k + 1, rfl, by omega, rfl, by first | omega | (dsimp only; omega), hall'⟩
      · have c4' : ¬ (0 : Int) < k := by omega
        cases c6 : may ea eb
        · rw [c6] at hm
          obtain rfl := hf (by simp [c6])
          simp (disch := omega) only [wp, Nat.reduceAdd, Nat.reduceMul, Nat.reduceSub, gl, s2, frz_p2, vis_p2, e1, e2, e3, e9, e10, e11, hg, hk1, hpp, c1, c2, c3, c4', pa, pb, a0, an, b0, bn, hm]
        · rw [c6] at hm
          have hall' := hall' (by simp [c1, c2, c3, c4, c6])
          simp (disch := omega) only [wp, Nat.reduceAdd, Nat.reduceMul, Nat.reduceSub, gl, s2, frz_p2, vis_p2, e1, e2, e3, e9, e10, e11, hg, hk1, hpp, c1, c2, c3, c4', pa, pb, a0, an, b0, bn, hm, hwk]
          exact ⟨l.length - (k + 1), by omega, k + 1, rfl, by omega, rfl, by first | omega | (dsimp only; omega), hall'⟩
    · have hk1 : ¬ ((k : Int) < l.length) := by omega
      obtain rfl : k = l.length := by omega
      obtain rfl := finT hall
      simp (disch := omega) only [wp, Nat.reduceAdd, Nat.reduceMul, Nat.reduceSub, gl, e1, e2, e3, e9, e10, e11, hg, hk1]
end Go.Ab
end
section
set_option linter.unusedVariables false
set_option linter.unusedSimpArgs false
namespace Go.Ab
variable {F : Funs}
def nEx (X : Gr) (k : Nat) : Nat := ((X.evs.take k).filter (·.ex)).length
theorem nEx_succ {X : Gr} {k : Nat} (h : k < X.evs.length) : nEx X (k + 1) = if (X.evs.getD k ev0).ex then nEx X k + 1 else nEx X k := by
  unfold nEx
  rw [List.take_add_one, List.filter_append, List.getElem?_eq_getElem h, List.getD_eq_getElem?_getD, List.getElem?_eq_getElem h, List.length_append]
  simp only [Option.toList_some, Option.getD_some, List.filter_cons, List.filter_nil]
  split <;> simp
theorem nEx_le (X : Gr) (k : Nat) : nEx X k ≤ k := by
  unfold nEx
  have h1 := List.length_filter_le (·.ex) (X.evs.take k)
  rw [List.length_take] at h1
  omega
def rmLast (X : Gr) (k : Nat) : Int := if k = 0 then -1 else (X.rmw.getD (k - 1) (0, 0)).2
def rmK (X : Gr) (k : Nat) : Bool := !((X.rmw.getD k (0, 0)).2 != (X.rmw.getD k (0, 0)).1 + 1) && !decide ((X.rmw.getD k (0, 0)).1 ≤ rmLast X k)
def gRmw (X : Gr) : Bool := gList X mayR X.rmw && (allN X.rmw.length (rmK X) && ((nEx X X.evs.length : Int) == 2 * (X.rmw.length : Int)))
theorem gList_at {X : Gr} {may} {l : List (Int × Int)} (h : gList X may l = true) {k : Nat} (hk : k < l.length) : 0 ≤ (l.getD k (0, 0)).1 ∧ (l.getD k (0, 0)).1 < (l.getD k (0, 0)).2 ∧ (l.getD k (0, 0)).2 < X.evs.length := by
  have := allN_iff.1 h k hk
  unfold lsK at this
  simp only [Bool.and_eq_true, Bool.not_eq_true', decide_eq_false_iff_not] at this
  obtain ⟨h1, h2, h3, _⟩ := this
  omega
set_option maxRecDepth 100000 in
set_option maxHeartbeats 8000000 in
theorem sg_rmw (h190 : F 190 = some A_graph_rmw) (h238 : F 238 = some A_graph_rmw_1) (h192 : F 192 = some A_graph_list) (h239 : F 239 = some A_graph_order) (pc : Pk_cmp F) {X : Gr} (hn : X.evs.length ≤ 1000) (hr : X.rmw.length ≤ 1000) : pureS F 190 [.agg (grC X)] = some (.b (gRmw X)) := by
  refine pure_of h190 ?_
  have hR : gRmw X = (gList X mayR X.rmw && (allN X.rmw.length (rmK X) && ((nEx X X.evs.length : Int) == 2 * (X.rmw.length : Int)))) := rfl
  have hl := sg_list h192 h239 pc hn (sg_mayR h238) X.rmw hr
  cases c0 : gList X mayR X.rmw
  · rw [c0] at hR hl
    rw [hR]
    simp (disch := omega) only [A_graph_rmw, wp, Nat.reduceAdd, Nat.reduceMul, Nat.reduceSub, gl, hl]
  rw [c0] at hl
  rw [c0, Bool.true_and] at hR
  have hat := fun {k : Nat} (hk : k < X.rmw.length) => gList_at c0 hk
  have finF : ∀ k, k < X.rmw.length → rmK X k = false → gRmw X = false := fun k hk h => by rw [hR, allN_f hk h]; rfl
  have finT : (∀ i, i < X.rmw.length → rmK X i = true) → gRmw X = ((nEx X X.evs.length : Int) == 2 * (X.rmw.length : Int)) := fun h => by rw [hR, allN_t h, Bool.true_and]
  clear hR
  generalize gRmw X = R at finT finF
  simp (disch := omega) only [A_graph_rmw, wp, Nat.reduceAdd, Nat.reduceMul, Nat.reduceSub, gl, hl]
  refine blk_cut (fun e g => e 1 = .mp 0 0 ∧ e 4 = .i .i64 (nEx X X.evs.length : Nat) ∧ g.hp 0 = some (.cells (grC X) false) ∧ 0 < g.nx) ?_ ?_
  · refine W_loop (fun q e g => ∃ k : Nat, q = X.evs.length - k ∧ k ≤ X.evs.length ∧ e 1 = .mp 0 0 ∧ e 4 = .i .i64 (nEx X k : Nat) ∧ e 17 = .sl (evsC X.evs) X.evs.length .non ∧ e 18 = .i .i64 X.evs.length ∧ e 19 = .i .i64 k ∧ g.hp 0 = some (.cells (grC X) false) ∧ 0 < g.nx) X.evs.length ?_ ?_
    · refine ⟨0, rfl, Nat.zero_le _, ?_⟩
      simp (disch := omega) only [wp, Nat.reduceAdd, Nat.reduceMul, Nat.reduceSub]
      exact ⟨rfl, rfl, by first | omega | (dsimp only; omega)⟩
    · rintro q e g ⟨k, rfl, hk, e1, e4, e17, e18, e19, hg, hnx⟩
      by_cases hk' : k < X.evs.length
      · have hk1 : (k : Int) < X.evs.length := by omega
        have hwk := succ_wrap (k := k) (by omega)
        have hev := ev_part hk'
        have hs := nEx_succ hk'
        have hle := nEx_le X k
        generalize nEx X k = c at e4 hs hle
        have hwc := succ_wrap (k := c) (by omega)
        generalize X.evs.getD k ev0 = ev at hev hs
        have n1 : 0 ≠ g.nx + 1 + 1 := by omega
        cases c1 : ev.ex
        · rw [c1] at hs
          simp (disch := omega) only [wp, Nat.reduceAdd, Nat.reduceMul, Nat.reduceSub, gl, e1, e4, e17, e18, e19, hg, hk1, hev, c1, hwk]
          exact ⟨X.evs.length - (k + 1), by omega, k + 1, rfl, by omega, by rw [hs]; rfl, rfl, by first | omega | (dsimp only; omega)⟩
        · rw [c1] at hs
          simp (disch := omega) only [wp, Nat.reduceAdd, Nat.reduceMul, Nat.reduceSub, gl, e1, e4, e17, e18, e19, hg, hk1, hev, c1, hwk, hwc]
          exact ⟨X.evs.length - (k + 1), by omega, k + 1, rfl, by omega, by rw [hs]; rfl, rfl, by first | omega | (dsimp only; omega)⟩
      · have hk1 : ¬ ((k : Int) < X.evs.length) := by omega
        obtain rfl : k = X.evs.length := by omega
        simp (disch := omega) only [wp, Nat.reduceAdd, Nat.reduceMul, Nat.reduceSub, gl, e1, e4, e17, e18, e19, hg, hk1]
        exact (by first | omega | (dsimp only; omega))
  · rintro e g ⟨e1, e4, hg, hnx⟩
    generalize nEx X X.evs.length = N at e4 finT
    simp (disch := omega) only [wp, Nat.reduceAdd, Nat.reduceMul, Nat.reduceSub, gl, e1, e4, hg]
    refine W_loop (fun q e g => ∃ k : Nat, q = X.rmw.length - k ∧ k ≤ X.rmw.length ∧ e 1 = .mp 0 0 ∧ e 4 = .i .i64 N ∧ e 7 = .i .i64 (rmLast X k) ∧ e 29 = .sl (pairsC X.rmw) X.rmw.length .non ∧ e 30 = .i .i64 X.rmw.length ∧ e 31 = .i .i64 k ∧ g.hp 0 = some (.cells (grC X) false) ∧ 0 < g.nx ∧ ∀ i, i < k → rmK X i = true) X.rmw.length ?_ ?_
    · refine ⟨0, rfl, Nat.zero_le _, ?_⟩
      simp (disch := omega) only [wp, Nat.reduceAdd, Nat.reduceMul, Nat.reduceSub, e1, e4]
      exact ⟨rfl, rfl, hg, by first | omega | (dsimp only; omega), fun i hi => by omega⟩
    · rintro q e g ⟨k, rfl, hk, e1, e4, e7, e29, e30, e31, hg, hnx, hall⟩
      by_cases hk' : k < X.rmw.length
      · have hk1 : (k : Int) < X.rmw.length := by omega
        have hwk := succ_wrap (k := k) (by omega)
        have hpp := pairs_part hk'
        have hb := hat hk'
        have hK : rmK X k = (!((X.rmw.getD k (0, 0)).2 != (X.rmw.getD k (0, 0)).1 + 1) && !decide ((X.rmw.getD k (0, 0)).1 ≤ rmLast X k)) := rfl
        have hL : rmLast X (k + 1) = (X.rmw.getD k (0, 0)).2 := rfl
        have hf := finF k hk'
        rw [hK] at hf
        have hall' : rmK X k = true → ∀ i, i < k + 1 → rmK X i = true := by
          intro h i hi
          by_cases hik : i = k
          · subst hik; exact h
          · exact hall i (by omega)
        rw [hK] at hall'
        generalize rmLast X k = la at e7 hf hall'
        generalize X.rmw.getD k (0, 0) = p at hpp hf hall' hL hb
        obtain ⟨a, b⟩ := p
        simp only at hpp hf hall' hL hb
        have s2 : ∀ b1 b2 c1 c2 : AV, splice [b1, b2] 0 [c1, c2] = [c1, c2] := fun _ _ _ _ => rfl
        have n1 : 0 ≠ g.nx + 1 + 1 := by omega
        have hwa : IntKind.i64.wrap (a + 1) = a + 1 := by rw [i64_wrap (by omega) (by omega)]
        cases c1 : (b != a + 1)
        · by_cases c2 : a ≤ la
          · obtain rfl := hf (by simp [c2])
            simp (disch := omega) only [wp, Nat.reduceAdd, Nat.reduceMul, Nat.reduceSub, gl, s2, e1, e4, e7, e29, e30, e31, hg, hk1, hpp, hwa, c1, c2]
          · rw [c1] at hall'
            have hall' := hall' (by simp [c2])
            simp (disch := omega) only [wp, Nat.reduceAdd, Nat.reduceMul, Nat.reduceSub, gl, s2, e1, e4, e7, e29, e30, e31, hg, hk1, hpp, hwa, c1, c2, hwk]
            exact ⟨X.rmw.length - (k + 1), by omega, k + 1, rfl, by omega, by rw [hL], rfl, by first | omega | (dsimp only; omega), hall'⟩
        · rw [c1] at hf
          obtain rfl := hf rfl
          simp (disch := omega) only [wp, Nat.reduceAdd, Nat.reduceMul, Nat.reduceSub, gl, s2, e1, e4, e7, e29, e30, e31, hg, hk1, hpp, hwa, c1]
      · have hk1 : ¬ ((k : Int) < X.rmw.length) := by omega
        obtain rfl : k = X.rmw.length := by omega
        obtain rfl := finT hall
        have hwm : IntKind.i64.wrap (2 * (X.rmw.length : Int)) = 2 * (X.rmw.length : Int) := by rw [i64_wrap (by omega) (by omega)]
        simp (disch := omega) only [wp, Nat.reduceAdd, Nat.reduceMul, Nat.reduceSub, gl, e1, e4, e7, e29, e30, e31, hg, hk1, hwm]
end Go.Ab
end
section
set_option linter.unusedVariables false
set_option linter.unusedSimpArgs false
namespace Go.Ab
variable {F : Funs}
def seenC (L : List Int) : List AV := (List.range 40).map fun i : Nat => .b (L.contains (i : Int))
theorem seenC_len (L) : (seenC L).length = 40 := by simp [seenC]
theorem seenC_zero : List.replicate 40 (AV.b false) = seenC [] := by rfl
theorem seen_at {L : List Int} {a : Nat} (h : a < 40) : part (seenC L) (a * 1) none = some (.b (L.contains (a : Int))) := by
  simp only [part, seenC, Nat.mul_one, List.getElem?_map, List.getElem?_range h, Option.map_some]
theorem seen_set {L : List Int} {a : Nat} (h : a < 40) : (seenC L).set (a * 1) (.b true) = seenC (L ++ [(a : Int)]) := by
  rw [Nat.mul_one]
  refine List.ext_getElem? fun i => ?_
  rw [List.getElem?_set]
  unfold seenC
  simp only [List.length_map, List.length_range, List.getElem?_map]
  by_cases hi : a = i
  · subst hi
    rw [if_pos rfl, if_pos h, List.getElem?_range h]
    simp
  · rw [if_neg hi]
    by_cases hl : i < 40
    · rw [List.getElem?_range hl]
      simp only [Option.map_some, Option.some.injEq, AV.b.injEq, List.contains_eq_mem, List.mem_append, List.mem_singleton]
      have hne : ¬ ((i : Int) = (a : Int)) := by omega
      simp [hne]
    · rw [List.getElem?_eq_none (by simp; omega)]; rfl
def coS' (X : Gr) (k j : Nat) : List Int := (X.co.take k).flatten ++ (X.co.getD k []).take j
theorem coS'_succ {X : Gr} {k j : Nat} (h : j < (X.co.getD k []).length) : coS' X k (j + 1) = coS' X k j ++ [(X.co.getD k []).getD j 0] := by
  unfold coS'
  rw [List.take_add_one, List.getElem?_eq_getElem h, List.append_assoc, List.getD_eq_getElem?_getD (l := X.co.getD k []), List.getElem?_eq_getElem h]
  rfl
theorem coS'_next {X : Gr} {k : Nat} (h : k < X.co.length) : coS' X k (X.co.getD k []).length = coS' X (k + 1) 0 := by
  unfold coS'
  rw [List.take_length, List.take_zero, List.append_nil, List.take_add_one, List.getElem?_eq_getElem h, List.getD_eq_getElem?_getD, List.getElem?_eq_getElem h, List.flatten_append]
  simp
theorem coS'_end (X : Gr) : coS' X X.co.length 0 = X.co.flatten := by
  unfold coS'
  rw [List.take_length, List.take_zero, List.append_nil]
theorem coS'_le {X : Gr} {k j : Nat} (h : k < X.co.length) : (coS' X k j).length ≤ X.co.flatten.length := by
  have e : X.co = X.co.take k ++ X.co.drop k := (List.take_append_drop k X.co).symm
  have e2 : X.co.drop k = X.co.getD k [] :: X.co.drop (k + 1) := by
    rw [List.drop_eq_getElem_cons h, List.getD_eq_getElem?_getD, List.getElem?_eq_getElem h]; rfl
  have e3 : X.co.flatten = (X.co.take k).flatten ++ (X.co.getD k [] ++ (X.co.drop (k + 1)).flatten) := by
    conv => lhs; rw [e, e2]
    rw [List.flatten_append, List.flatten_cons]
  rw [e3]
  unfold coS'
  simp only [List.length_append, List.length_take]
  omega
def ciK (X : Gr) (k j : Nat) : Bool := gWr X ((X.co.getD k []).getD j 0) k && !(coS' X k j).contains ((X.co.getD k []).getD j 0)
def coK (X : Gr) (k : Nat) : Bool := !(((X.co.getD k []).length : Int) == 0) && (!((X.co.getD k []).getD 0 0 != (k : Int)) && allN (X.co.getD k []).length (ciK X k))
def nWr (X : Gr) (k : Nat) : Nat := ((X.evs.take k).filter (·.kd == 2)).length
theorem nWr_succ {X : Gr} {k : Nat} (h : k < X.evs.length) : nWr X (k + 1) = if (X.evs.getD k ev0).kd == 2 then nWr X k + 1 else nWr X k := by
  unfold nWr
  rw [List.take_add_one, List.filter_append, List.getElem?_eq_getElem h, List.getD_eq_getElem?_getD, List.getElem?_eq_getElem h, List.length_append]
  simp only [Option.toList_some, Option.getD_some, List.filter_cons, List.filter_nil]
  split <;> simp
theorem nWr_le (X : Gr) (k : Nat) : nWr X k ≤ k := by
  unfold nWr
  have h1 := List.length_filter_le (·.kd == 2) (X.evs.take k)
  rw [List.length_take] at h1
  omega
def gCo (X : Gr) : Bool := ((X.co.length : Int) == X.locs) && (allN X.co.length (coK X) && ((X.co.flatten.length : Int) - (nWr X X.evs.length : Int) == 0))
set_option maxRecDepth 100000 in
set_option maxHeartbeats 8000000 in
theorem sg_co (h189 : F 189 = some A_graph_co) (h237 : F 237 = some A_graph_write) {X : Gr} (hn : X.evs.length ≤ 40) (hc : X.co.flatten.length ≤ 1000) (hc6 : X.co.length ≤ 1000) (hcl : ∀ k, (X.co.getD k []).length ≤ 1000) : pureS F 189 [.agg (grC X)] = some (.b (gCo X)) := by
  refine pure_of h189 ?_
  have hR : gCo X = (((X.co.length : Int) == X.locs) && (allN X.co.length (coK X) && ((X.co.flatten.length : Int) - (nWr X X.evs.length : Int) == 0))) := rfl
  cases c0 : ((X.co.length : Int) == X.locs)
  · rw [c0] at hR
    have c0' : ((X.co.length : Int) != X.locs) = true := by unfold bne; rw [c0]; rfl
    rw [hR]
    simp (disch := omega) only [A_graph_co, wp, Nat.reduceAdd, Nat.reduceMul, Nat.reduceSub, gl, c0']
  rw [c0, Bool.true_and] at hR
  have c0' : ((X.co.length : Int) != X.locs) = false := by unfold bne; rw [c0]; rfl
  have finF : ∀ k, k < X.co.length → coK X k = false → gCo X = false := fun k hk h => by rw [hR, allN_f hk h]; rfl
  have finT : (∀ i, i < X.co.length → coK X i = true) → gCo X = ((X.co.flatten.length : Int) - (nWr X X.evs.length : Int) == 0) := fun h => by rw [hR, allN_t h, Bool.true_and]
  clear hR
  generalize gCo X = R at finT finF
  simp (disch := omega) only [A_graph_co, wp, Nat.reduceAdd, Nat.reduceMul, Nat.reduceSub, gl, c0', seenC_zero]
  refine blk_cutR (fun e g => e 1 = .mp 0 0 ∧ e 3 = .i .i64 X.co.flatten.length ∧ g.hp 0 = some (.cells (grC X) false) ∧ 0 < g.nx ∧ ∀ i, i < X.co.length → coK X i = true) ?_ ?_
  · refine W_loop (fun q e g => ∃ k : Nat, q = X.co.length - k ∧ k ≤ X.co.length ∧ e 1 = .mp 0 0 ∧ e 3 = .i .i64 (coS' X k 0).length ∧ e 4 = .mp 9 0 ∧ e 18 = .sl (coC X.co) X.co.length .non ∧ e 19 = .i .i64 X.co.length ∧ e 20 = .i .i64 k ∧ g.hp 0 = some (.cells (grC X) false) ∧ g.hp 9 = some (.cells (seenC (coS' X k 0)) false) ∧ 9 < g.nx ∧ ∀ i, i < k → coK X i = true) X.co.length ?_ ?_
    · refine ⟨0, rfl, Nat.zero_le _, ?_⟩
      simp (disch := omega) only [wp, Nat.reduceAdd, Nat.reduceMul, Nat.reduceSub]
      exact ⟨rfl, rfl, rfl, by first | omega | (dsimp only; omega), fun i hi => by omega⟩
    · rintro q e g ⟨k, rfl, hk, e1, e3, e4, e18, e19, e20, hg, hs, hnx, hall⟩
      by_cases hk' : k < X.co.length
      · have hk1 : (k : Int) < X.co.length := by omega
        have hwk := succ_wrap (k := k) (by omega)
        have hcp := co_part hk'
        have hK : coK X k = (!(((X.co.getD k []).length : Int) == 0) && (!((X.co.getD k []).getD 0 0 != (k : Int)) && allN (X.co.getD k []).length (ciK X k))) := rfl
        have hci : ∀ j, ciK X k j = (gWr X ((X.co.getD k []).getD j 0) k && !(coS' X k j).contains ((X.co.getD k []).getD j 0)) := fun _ => rfl
        have hf := finF k hk'
        rw [hK] at hf
        have hall' : coK X k = true → ∀ i, i < k + 1 → coK X i = true := by
          intro h i hi
          by_cases hik : i = k
          · subst hik; exact h
          · exact hall i (by omega)
        rw [hK] at hall'
        have hll := hcl k
        have hsu := fun {j : Nat} (h : j < (X.co.getD k []).length) => coS'_succ h
        have hnx' := coS'_next hk'
        have hle := fun j => coS'_le (X := X) (k := k) (j := j) hk'
        generalize X.co.getD k [] = l at hcp hf hall' hll hsu hnx' hci
        cases c1 : ((l.length : Int) == 0)
        case true =>
          rw [c1] at hf
          obtain rfl := hf rfl
          simp (disch := omega) only [wp, Nat.reduceAdd, Nat.reduceMul, Nat.reduceSub, gl, e1, e3, e4, e18, e19, e20, hg, hs, hk1, hcp, c1]
        have hl0 : 0 < l.length := by have : ¬ (l.length : Int) = 0 := by simpa using c1
                                      omega
        have hl0' : (0 : Int) < l.length := by omega
        have hip := ints_part hl0
        rw [Nat.zero_mul, List.drop_zero] at hip
        cases c2 : (l.getD 0 0 != (k : Int))
        case true =>
          rw [c2] at hf
          obtain rfl := hf (by simp)
          simp (disch := omega) only [wp, Nat.reduceAdd, Nat.reduceMul, Nat.reduceSub, gl, e1, e3, e4, e18, e19, e20, hg, hs, hk1, hcp, c1, hl0', hip, c2]
        rw [c1, c2] at hf hall'
        have hf : ∀ j, j < l.length → ciK X k j = false → R = false := fun j hj h => hf (by rw [allN_f hj h]; rfl)
        have hall' : (∀ j, j < l.length → ciK X k j = true) → ∀ i, i < k + 1 → coK X i = true := fun h => hall' (by rw [allN_t h]; rfl)
        simp (disch := omega) only [wp, Nat.reduceAdd, Nat.reduceMul, Nat.reduceSub, gl, e1, e3, e4, e18, e19, e20, hg, hs, hk1, hcp, c1, hl0', hip, c2]
        refine W_loop (fun q e g => ∃ j : Nat, q = l.length - j ∧ j ≤ l.length ∧ e 1 = .mp 0 0 ∧ e 3 = .i .i64 (coS' X k j).length ∧ e 4 = .mp 9 0 ∧ e 5 = .i .i64 k ∧ e 18 = .sl (coC X.co) X.co.length .non ∧ e 19 = .i .i64 X.co.length ∧ e 20 = .i .i64 k ∧ e 35 = .sl (intsC l) l.length .non ∧ e 36 = .i .i64 l.length ∧ e 37 = .i .i64 j ∧ g.hp 0 = some (.cells (grC X) false) ∧ g.hp 9 = some (.cells (seenC (coS' X k j)) false) ∧ 9 < g.nx ∧ ∀ i, i < j → ciK X k i = true) l.length ?_ ?_
        · refine ⟨0, rfl, Nat.zero_le _, ?_⟩
          simp (disch := omega) only [wp, Nat.reduceAdd, Nat.reduceMul, Nat.reduceSub, e1, e3, e4, e18, e19, e20]
          exact ⟨rfl, hg, hs, by first | omega | (dsimp only; omega), fun i hi => by omega⟩
        · rintro q e g ⟨j, rfl, hj, e1, e3, e4, e5, e18, e19, e20, e35, e36, e37, hg, hs, hnx, hin⟩
          by_cases hj' : j < l.length
          · have hj1 : (j : Int) < l.length := by omega
            have hwj := succ_wrap (k := j) (by omega)
            have hjp := ints_part hj'
            have hw := sg_write h237 X (l.getD j 0) k
            have hwin := gWr_in (X := X) (i := l.getD j 0) (loc := k)
            have hff := hf j hj'
            have hcj := hci j
            have hsu := hsu hj'
            have hlj := hle j
            rw [hcj] at hff
            have hin' : ciK X k j = true → ∀ i, i < j + 1 → ciK X k i = true := by
              intro h i hi
              by_cases hij : i = j
              · subst hij; exact h
              · exact hin i (by omega)
            rw [hcj] at hin'
            generalize l.getD j 0 = w at hjp hw hwin hff hin' hsu
            generalize coS' X k j = L at e3 hs hff hin' hsu hlj
            have hwc := succ_wrap (k := L.length) (by omega)
            cases c3 : gWr X w k
            · rw [c3] at hw hff
              obtain rfl := hff rfl
              simp (disch := omega) only [wp, Nat.reduceAdd, Nat.reduceMul, Nat.reduceSub, gl, e1, e3, e4, e5, e18, e19, e20, e35, e36, e37, hg, hs, hj1, hjp, hw]
            · obtain ⟨w0, w1⟩ := hwin c3
              rw [c3] at hw hff hin'
              have ra := seen_at (L := L) (a := w.toNat) (by omega)
              have sa := seen_set (L := L) (a := w.toNat) (by omega)
              have ew : ((w.toNat : Nat) : Int) = w := by omega
              rw [ew] at ra sa
              have w40 : w < 40 := by omega
              cases c4 : L.contains w
              · rw [c4] at ra hin'
                have hin' := hin' rfl
                simp (disch := omega) only [wp, Nat.reduceAdd, Nat.reduceMul, Nat.reduceSub, gl, e1, e3, e4, e5, e18, e19, e20, e35, e36, e37, hg, hs, hj1, hjp, hw, w0, w40, ra, sa, seenC_len, hwj, hwc]
                refine ⟨l.length - (j + 1), by omega, j + 1, rfl, by omega, by rw [hsu, List.length_append]; rfl, rfl, by rw [hsu], by first | omega | (dsimp only; omega), hin'⟩
              · rw [c4] at ra hff
                obtain rfl := hff rfl
                simp (disch := omega) only [wp, Nat.reduceAdd, Nat.reduceMul, Nat.reduceSub, gl, e1, e3, e4, e5, e18, e19, e20, e35, e36, e37, hg, hs, hj1, hjp, hw, w0, w40, ra]
          · have hj1 : ¬ ((j : Int) < l.length) := by omega
            obtain rfl : j = l.length := by omega
            rw [hnx'] at e3 hs
            simp (disch := omega) only [wp, Nat.reduceAdd, Nat.reduceMul, Nat.reduceSub, gl, e1, e3, e4, e5, e18, e19, e20, e35, e36, e37, hg, hs, hj1, hwk]
            exact ⟨X.co.length - (k + 1), by omega, k + 1, rfl, by omega, rfl, rfl, by first | rfl | exact hs | omega, by first | omega | (dsimp only; omega), hall' hin⟩
      · have hk1 : ¬ ((k : Int) < X.co.length) := by omega
        obtain rfl : k = X.co.length := by omega
        rw [coS'_end] at e3
        simp (disch := omega) only [wp, Nat.reduceAdd, Nat.reduceMul, Nat.reduceSub, gl, e1, e3, e4, e18, e19, e20, hg, hs, hk1]
        exact ⟨by first | omega | (dsimp only; omega), hall⟩
  · rintro e g ⟨e1, e3, hg, hnx, hall⟩
    obtain rfl := finT hall
    generalize X.co.flatten.length = T at e3 hc
    simp (disch := omega) only [wp, Nat.reduceAdd, Nat.reduceMul, Nat.reduceSub, gl, e1, e3, hg]
    refine W_loop (fun q e g => ∃ k : Nat, q = X.evs.length - k ∧ k ≤ X.evs.length ∧ e 1 = .mp 0 0 ∧ e 3 = .i .i64 ((T : Int) - (nWr X k : Nat)) ∧ e 58 = .sl (evsC X.evs) X.evs.length .non ∧ e 59 = .i .i64 X.evs.length ∧ e 60 = .i .i64 k ∧ g.hp 0 = some (.cells (grC X) false) ∧ 0 < g.nx) X.evs.length ?_ ?_
    · refine ⟨0, rfl, Nat.zero_le _, ?_⟩
      simp (disch := omega) only [wp, Nat.reduceAdd, Nat.reduceMul, Nat.reduceSub, e1, e3]
      exact ⟨by simp [nWr], rfl, hg, by first | omega | (dsimp only; omega)⟩
    · rintro q e g ⟨k, rfl, hk, e1, e3, e58, e59, e60, hg, hnx⟩
      by_cases hk' : k < X.evs.length
      · have hk1 : (k : Int) < X.evs.length := by omega
        have hwk := succ_wrap (k := k) (by omega)
        have hev := ev_part hk'
        have hs := nWr_succ hk'
        have hle := nWr_le X k
        generalize nWr X k = c at e3 hs hle
        have hwc : IntKind.i64.wrap ((T : Int) - (c : Nat) - 1) = (T : Int) - ((c + 1 : Nat) : Int) := by rw [i64_wrap (by omega) (by omega)]; omega
        generalize X.evs.getD k ev0 = ev at hev hs
        have n1 : 0 ≠ g.nx + 1 + 1 := by omega
        cases c1 : (ev.kd == 2)
        · rw [c1] at hs
          simp (disch := omega) only [wp, Nat.reduceAdd, Nat.reduceMul, Nat.reduceSub, gl, e1, e3, e58, e59, e60, hg, hk1, hev, c1, hwk]
          exact ⟨X.evs.length - (k + 1), by omega, k + 1, rfl, by omega, by rw [hs]; rfl, rfl, by first | omega | (dsimp only; omega)⟩
        · rw [c1] at hs
          simp (disch := omega) only [wp, Nat.reduceAdd, Nat.reduceMul, Nat.reduceSub, gl, e1, e3, e58, e59, e60, hg, hk1, hev, c1, hwk, hwc]
          exact ⟨X.evs.length - (k + 1), by omega, k + 1, rfl, by omega, by rw [hs]; rfl, rfl, by first | omega | (dsimp only; omega)⟩
      · have hk1 : ¬ ((k : Int) < X.evs.length) := by omega
        obtain rfl : k = X.evs.length := by omega
        simp (disch := omega) only [wp, Nat.reduceAdd, Nat.reduceMul, Nat.reduceSub, gl, e1, e3, e58, e59, e60, hg, hk1]
end Go.Ab
end
section
set_option linter.unusedVariables false
set_option linter.unusedSimpArgs false
namespace Go.Ab
variable {F : Funs}
def gCheck (X : Gr) : Bool :=
  !decide (X.locs < 1) && (!decide (4 < X.locs) && (!decide (40 < (X.evs.length : Int)) && (!decide ((X.evs.length : Int) < X.locs) && (gFirst X && (gThr X && (gRf X && (gCo X && (gRmw X && (gList X mayD X.data && (gList X mayD X.ctrl && gList X mayD X.ctrli))))))))))
structure GrFs (F : Funs) : Prop where
  chk : F 152 = some A_graph_Check
  fst : F 186 = some A_graph_first
  thr : F 187 = some A_graph_threads
  rf : F 188 = some A_graph_rf
  co : F 189 = some A_graph_co
  rmw : F 190 = some A_graph_rmw
  chk1 : F 191 = some A_graph_Check_1
  list : F 192 = some A_graph_list
  event : F 236 = some A_graph_event
  write : F 237 = some A_graph_write
  rmw1 : F 238 = some A_graph_rmw_1
  order : F 239 = some A_graph_order
  pc : Pk_cmp F
structure LenG (X : Gr) : Prop where
  fl : X.co.flatten.length ≤ 1000
  col : X.co.length ≤ 1000
  cos : ∀ k, (X.co.getD k []).length ≤ 1000
  rmw : X.rmw.length ≤ 1000
  data : X.data.length ≤ 1000
  ctrl : X.ctrl.length ≤ 1000
  ctrli : X.ctrli.length ≤ 1000
theorem flat_le : ∀ {l : List (List Int)} {m : Nat}, (∀ c ∈ l, c.length ≤ m) → l.flatten.length ≤ l.length * m
  | [], _, _ => by simp
  | c :: l, m, h => by
    have h1 := flat_le (l := l) (m := m) fun c hc => h c (List.mem_cons_of_mem _ hc)
    have h2 := h c (List.mem_cons_self ..)
    rw [List.flatten_cons, List.length_append, List.length_cons, Nat.succ_mul]
    omega
theorem FewG.len {X : Gr} (h : FewG X) : LenG X := by
  have h1 := flat_le h.cos
  have h2 := h.co
  have h3 : X.co.length * 50 ≤ 6 * 50 := Nat.mul_le_mul_right _ h2
  refine ⟨by omega, by omega, fun k => ?_, by have := h.rmw; omega, by have := h.data; omega, by have := h.ctrl; omega, by have := h.ctrli; omega⟩
  by_cases hk : k < X.co.length
  · have hm : X.co.getD k [] ∈ X.co := by
      rw [List.getD_eq_getElem?_getD, List.getElem?_eq_getElem hk]; exact List.getElem_mem hk
    have := h.cos _ hm; omega
  · rw [List.getD_eq_getElem?_getD, List.getElem?_eq_none (by omega)]; simp
set_option maxRecDepth 100000 in
set_option maxHeartbeats 8000000 in
theorem sg_check (S : GrFs F) {X : Gr} (hX : LenG X) : pureS F 152 [.agg (grC X)] = some (.b (gCheck X)) := by
  refine pure_of S.chk ?_
  have hR : gCheck X = (!decide (X.locs < 1) && (!decide (4 < X.locs) && (!decide (40 < (X.evs.length : Int)) && (!decide ((X.evs.length : Int) < X.locs) && (gFirst X && (gThr X && (gRf X && (gCo X && (gRmw X && (gList X mayD X.data && (gList X mayD X.ctrl && gList X mayD X.ctrli))))))))))) := rfl
  generalize gCheck X = R at hR
  by_cases c1 : X.locs < 1
  · obtain rfl : R = false := by rw [hR]; simp [c1]
    simp (disch := omega) only [A_graph_Check, wp, Nat.reduceAdd, Nat.reduceMul, Nat.reduceSub, gl, c1]
  by_cases c2 : 4 < X.locs
  · obtain rfl : R = false := by rw [hR]; simp [c2]
    simp (disch := omega) only [A_graph_Check, wp, Nat.reduceAdd, Nat.reduceMul, Nat.reduceSub, gl, c1, c2]
  by_cases c3 : 40 < (X.evs.length : Int)
  · obtain rfl : R = false := by rw [hR]; simp [c3]
    simp (disch := omega) only [A_graph_Check, wp, Nat.reduceAdd, Nat.reduceMul, Nat.reduceSub, gl, c1, c2, c3]
  by_cases c4 : (X.evs.length : Int) < X.locs
  · obtain rfl : R = false := by rw [hR]; simp [c4]
    simp (disch := omega) only [A_graph_Check, wp, Nat.reduceAdd, Nat.reduceMul, Nat.reduceSub, gl, c1, c2, c3, c4]
  have h5 := sg_first S.fst (X := X) (by omega) (by omega) (by omega)
  have h6 := sg_threads S.thr S.event (X := X) (by omega) (by omega) (by omega)
  have h7 := sg_rf S.rf S.write (X := X) (by omega)
  have h8 := sg_co S.co S.write (X := X) (by omega) hX.fl hX.col hX.cos
  have h9 := sg_rmw S.rmw S.rmw1 S.list S.order S.pc (X := X) (by omega) hX.rmw
  have h10 := sg_list S.list S.order S.pc (X := X) (by omega) (sg_mayD S.chk1) X.data hX.data
  have h11 := sg_list S.list S.order S.pc (X := X) (by omega) (sg_mayD S.chk1) X.ctrl hX.ctrl
  have h12 := sg_list S.list S.order S.pc (X := X) (by omega) (sg_mayD S.chk1) X.ctrli hX.ctrli
  have hR : R = (gFirst X && (gThr X && (gRf X && (gCo X && (gRmw X && (gList X mayD X.data && (gList X mayD X.ctrl && gList X mayD X.ctrli))))))) := by rw [hR]; simp [c1, c2, c3, c4]
  generalize gFirst X = b5 at h5 hR
  generalize gThr X = b6 at h6 hR
  generalize gRf X = b7 at h7 hR
  generalize gCo X = b8 at h8 hR
  generalize gRmw X = b9 at h9 hR
  generalize gList X mayD X.data = b10 at h10 hR
  generalize gList X mayD X.ctrl = b11 at h11 hR
  generalize gList X mayD X.ctrli = b12 at h12 hR
  subst hR
  cases b5
  · simp (disch := omega) only [A_graph_Check, wp, Nat.reduceAdd, Nat.reduceMul, Nat.reduceSub, gl, c1, c2, c3, c4, h5]
  cases b6
  · simp (disch := omega) only [A_graph_Check, wp, Nat.reduceAdd, Nat.reduceMul, Nat.reduceSub, gl, c1, c2, c3, c4, h5, h6]
  cases b7
  · simp (disch := omega) only [A_graph_Check, wp, Nat.reduceAdd, Nat.reduceMul, Nat.reduceSub, gl, c1, c2, c3, c4, h5, h6, h7]
  cases b8
  · simp (disch := omega) only [A_graph_Check, wp, Nat.reduceAdd, Nat.reduceMul, Nat.reduceSub, gl, c1, c2, c3, c4, h5, h6, h7, h8]
  cases b9
  · simp (disch := omega) only [A_graph_Check, wp, Nat.reduceAdd, Nat.reduceMul, Nat.reduceSub, gl, c1, c2, c3, c4, h5, h6, h7, h8, h9]
  cases b10
  · simp (disch := omega) only [A_graph_Check, wp, Nat.reduceAdd, Nat.reduceMul, Nat.reduceSub, gl, c1, c2, c3, c4, h5, h6, h7, h8, h9, h10]
  cases b11
  · simp (disch := omega) only [A_graph_Check, wp, Nat.reduceAdd, Nat.reduceMul, Nat.reduceSub, gl, c1, c2, c3, c4, h5, h6, h7, h8, h9, h10, h11]
  simp (disch := omega) only [A_graph_Check, wp, Nat.reduceAdd, Nat.reduceMul, Nat.reduceSub, gl, c1, c2, c3, c4, h5, h6, h7, h8, h9, h10, h11, h12]
end Go.Ab
end
section
set_option linter.unusedVariables false
set_option linter.unusedSimpArgs false
namespace Go.Ab
def wE (i : Nat) : Ev := ⟨0, 2, 0, (i : Int), 0, false⟩
def fE (t : Int) : Ev := ⟨t, 3, 4, 0, 0, false⟩
def poX (L : Nat) (th : List Int) : Gr := ⟨(L : Int), (List.range L).map wE ++ th.map fE, List.replicate (L + th.length) (-1), (List.range L).map (fun (i : Nat) => [(i : Int)]), [], [], [], []⟩
def Srt (th : List Int) : Prop := ∀ i, i < th.length → 1 ≤ th.getD i 0 ∧ th.getD i 0 ≤ 4 ∧ ∀ j, j < i → th.getD j 0 ≤ th.getD i 0
theorem poX_len (L : Nat) (th : List Int) : (poX L th).evs.length = L + th.length := by simp [poX]
theorem poX_w {L : Nat} {th : List Int} {i : Nat} (h : i < L) : (poX L th).evs.getD i ev0 = wE i := by
  simp only [poX, List.getD_eq_getElem?_getD]
  rw [List.getElem?_append_left (by simpa using h)]
  simp [h]
theorem poX_f {L : Nat} {th : List Int} {i : Nat} (h : i < th.length) : (poX L th).evs.getD (L + i) ev0 = fE (th.getD i 0) := by
  simp only [poX, List.getD_eq_getElem?_getD]
  rw [List.getElem?_append_right (by simp)]
  simp [h]
theorem poX_co {L : Nat} {th : List Int} {k : Nat} (h : k < L) : (poX L th).co.getD k [] = [(k : Int)] := by
  simp only [poX, List.getD_eq_getElem?_getD]
  simp [h]
theorem gw_w {L : Nat} {th : List Int} {k : Nat} (h : k < L) : gWr (poX L th) (k : Int) (k : Int) = true := by
  unfold gWr
  rw [poX_len, Int.toNat_natCast, poX_w h]
  simp only [wE, beq_self_eq_true, Bool.and_true, Bool.and_eq_true, decide_eq_true_eq]
  omega
theorem po_check {L : Nat} {th : List Int} (hL : 1 ≤ L) (hL4 : L ≤ 4) (hn : L + th.length ≤ 40) (hs : Srt th) : gCheck (poX L th) = true := by
  have hlen := poX_len L th
  have h1 : gFirst (poX L th) = true := by
    unfold gFirst
    refine allN_t fun i hi => ?_
    have hi' : i < L := by simpa [poX] using hi
    rw [poX_w hi']
    simp [evIs, wE]
  have h2 : gThr (poX L th) = true := by
    unfold gThr
    have hd : (poX L th).evs.drop (poX L th).locs.toNat = th.map fE := by
      simp only [poX, Int.toNat_natCast]
      rw [List.drop_left' (by simp)]
    rw [hd]
    refine allN_t fun k hk => ?_
    have hk' : k < th.length := by
      rw [hlen] at hk
      have : (poX L th).locs.toNat = L := by simp [poX]
      omega
    obtain ⟨s1, s2, s3⟩ := hs k hk'
    have hg : ∀ j, j < th.length → (th.map fE).getD j ev0 = fE (th.getD j 0) := by
      intro j hj
      simp only [List.getD_eq_getElem?_getD]
      simp [hj]
    unfold thrK
    rw [hg k hk']
    have hw : thrWas (th.map fE) k ≤ th.getD k 0 := by
      unfold thrWas
      split
      · exact s1
      · rw [hg (k - 1) (by omega)]
        exact s3 (k - 1) (by omega)
    have e1 : (fE (th.getD k 0)).th = th.getD k 0 := rfl
    have e2 : gEv (poX L th).locs (fE (th.getD k 0)) = true := by simp [gEv, fE]
    rw [e1, e2, decide_eq_false (by omega), decide_eq_false (by omega)]
    rfl
  have hrf : ∀ i, i < L + th.length → (poX L th).rf.getD i 0 = -1 := by
    intro i hi
    simp only [poX, List.getD_eq_getElem?_getD]
    simp [hi]
  have hkd : ∀ i, i < L + th.length → ((poX L th).evs.getD i ev0).kd = 2 ∨ ((poX L th).evs.getD i ev0).kd = 3 := by
    intro i hi
    by_cases h : i < L
    · rw [poX_w h]; exact .inl rfl
    · obtain ⟨j, rfl⟩ : ∃ j, i = L + j := ⟨i - L, by omega⟩
      rw [poX_f (by omega)]; exact .inr rfl
  have h3 : gRf (poX L th) = true := by
    unfold gRf
    rw [Bool.and_eq_true]
    refine ⟨by rw [hlen]; simp [poX], allN_t fun i hi => ?_⟩
    rw [hlen] at hi
    unfold rfK
    rw [hrf i hi]
    rcases hkd i hi with h | h <;> rw [h] <;> rfl
  have h4 : gCo (poX L th) = true := by
    unfold gCo
    rw [Bool.and_eq_true, Bool.and_eq_true]
    refine ⟨by simp [poX], allN_t fun k hk => ?_, ?_⟩
    · have hk' : k < L := by simpa [poX] using hk
      unfold coK
      rw [poX_co hk']
      have hc : ciK (poX L th) k 0 = true := by
        unfold ciK
        rw [poX_co hk']
        show (gWr (poX L th) (k : Int) (k : Int) && !(coS' (poX L th) k 0).contains (k : Int)) = true
        rw [gw_w hk', Bool.true_and]
        have hno : ¬ (k : Int) ∈ coS' (poX L th) k 0 := by
          unfold coS'
          simp only [poX, List.take_zero, List.append_nil]
          rw [← List.map_take, List.take_range, Nat.min_eq_left (by omega)]
          intro h
          rw [List.mem_flatten] at h
          obtain ⟨l, h1, h2⟩ := h
          obtain ⟨i, h3, rfl⟩ := List.mem_map.1 h1
          have := List.mem_range.1 h3
          have h2 : (k : Int) = (i : Int) := by simpa using h2
          omega
        have : (coS' (poX L th) k 0).contains (k : Int) = false := by
          cases hcc : (coS' (poX L th) k 0).contains (k : Int) with
          | false => rfl
          | true => exact absurd (by simpa using hcc) hno
        rw [this]; rfl
      simp [allN, hc]
    · have hf : (poX L th).co.flatten.length = L := by
        simp only [poX, List.length_flatten, List.map_map]
        have : (List.map (List.length ∘ fun (i : Nat) => [(i : Int)]) (List.range L)) = List.replicate L 1 := by
          refine List.ext_getElem? fun j => ?_
          simp [List.getElem?_replicate]
          split <;> simp_all
        rw [this]; simp
      have hw : nWr (poX L th) (poX L th).evs.length = L := by
        unfold nWr
        rw [List.take_length]
        simp only [poX, List.filter_append, List.length_append]
        have a1 : ((List.range L).map wE).filter (fun x => x.kd == 2) = (List.range L).map wE := List.filter_eq_self.2 fun x hx => by
          obtain ⟨i, _, rfl⟩ := List.mem_map.1 hx; rfl
        have a2 : (th.map fE).filter (fun x => x.kd == 2) = [] := List.filter_eq_nil_iff.2 fun x hx => by
          obtain ⟨i, _, rfl⟩ := List.mem_map.1 hx; simp [fE]
        rw [a1, a2]; simp
      rw [hf, hw]; simp
  have h5 : gRmw (poX L th) = true := by
    unfold gRmw
    have he : nEx (poX L th) (poX L th).evs.length = 0 := by
      unfold nEx
      rw [List.take_length, List.length_eq_zero_iff]
      refine List.filter_eq_nil_iff.2 fun x hx => ?_
      simp only [poX, List.mem_append, List.mem_map] at hx
      rcases hx with ⟨i, _, rfl⟩ | ⟨t, _, rfl⟩ <;> simp [wE, fE]
    rw [he]
    rfl
  unfold gCheck
  rw [h1, h2, h3, h4, h5, hlen]
  have hl : (poX L th).locs = (L : Int) := rfl
  rw [hl, decide_eq_false (by omega), decide_eq_false (by omega), decide_eq_false (by omega), decide_eq_false (by omega)]
  rfl
end Go.Ab
end
section
set_option linter.unusedVariables false
set_option linter.unusedSimpArgs false
namespace Go.Ab
def pB (L : Nat) (th : List Int) (a b : Nat) : Bool := poB a b ((poX L th).evs.getD a ev0) ((poX L th).evs.getD b ev0)
theorem pB_ww {L : Nat} {th : List Int} {a b : Nat} (ha : a < L) (hb : b < L) : pB L th a b = false := by
  unfold pB; rw [poX_w ha, poX_w hb]; rfl
theorem pB_wf {L : Nat} {th : List Int} (hs : Srt th) {a j : Nat} (ha : a < L) (hj : j < th.length) : pB L th a (L + j) = true := by
  unfold pB; rw [poX_w ha, poX_f hj]
  have := (hs j hj).1
  simp only [poB, wE, fE, beq_self_eq_true, Bool.true_and, Bool.or_eq_true, bne_iff_ne, ne_eq]
  exact .inl (by omega)
theorem pB_fw {L : Nat} {th : List Int} (hs : Srt th) {i b : Nat} (hi : i < th.length) (hb : b < L) : pB L th (L + i) b = false := by
  unfold pB; rw [poX_w hb, poX_f hi]
  have := (hs i hi).1
  have h0 : (th.getD i 0 == 0) = false := by rw [beq_eq_false_iff_ne]; omega
  simp only [poB, wE, fE, h0, Bool.false_and, Bool.or_false]
theorem pB_ff {L : Nat} {th : List Int} (hs : Srt th) {i j : Nat} (hi : i < th.length) (hj : j < th.length) : pB L th (L + i) (L + j) = ((th.getD i 0 == th.getD j 0) && decide (i < j)) := by
  unfold pB; rw [poX_f hi, poX_f hj]
  have h1 := (hs i hi).1
  have h0 : (th.getD i 0 == 0) = false := by rw [beq_eq_false_iff_ne]; omega
  have h2 : (th.getD i 0 != 0) = true := by rw [bne_iff_ne]; omega
  have h3 : decide (L + i < L + j) = decide (i < j) := by rw [decide_eq_decide]; omega
  simp only [poB, fE, h0, h2, h3, Bool.false_and, Bool.false_or, Bool.true_and]
theorem po_n {L : Nat} {th : List Int} (hn : L + th.length ≤ 40) : nOf (poX L th) = L + th.length := by
  unfold nOf clamp; rw [poX_len]; omega
theorem mem_poK {X : Gr} {a b : Nat} (ha : a < X.evs.length) (hb : b < X.evs.length) : (((a : Int), (b : Int)) ∈ poK X X.evs.length) ↔ poB a b (X.evs.getD a ev0) (X.evs.getD b ev0) = true := by
  unfold poK
  rw [List.mem_flatMap]
  constructor
  · rintro ⟨k, hk, h⟩
    rw [poRow_mem] at h
    obtain ⟨j, hj, h1, h2⟩ := h
    have e1 : (a : Int) = (k : Int) := congrArg Prod.fst h2
    have e2 : (b : Int) = (j : Int) := congrArg Prod.snd h2
    obtain rfl : a = k := by omega
    obtain rfl : b = j := by omega
    exact h1
  · intro h
    exact ⟨a, List.mem_range.2 ha, poRow_mem.2 ⟨b, hb, h, rfl⟩⟩
theorem po_hb {L : Nat} {th : List Int} (hn : L + th.length ≤ 40) (a b : Nat) : hb (poR (poX L th)) a b = (decide (a < L + th.length) && decide (b < L + th.length) && pB L th a b) := by
  unfold poR
  rw [po_n hn, hb_new hn]
  by_cases ha : a < L + th.length
  · by_cases hb' : b < L + th.length
    · rw [decide_eq_true ha, decide_eq_true hb', Bool.true_and, Bool.true_and, Bool.true_and, Bool.eq_iff_iff, List.any_eq_true]
      have hm := mem_poK (X := poX L th) (a := a) (b := b) (by rw [poX_len]; exact ha) (by rw [poX_len]; exact hb')
      constructor
      · rintro ⟨p, hp, hq⟩
        simp only [decide_eq_true_eq] at hq
        subst hq
        exact hm.1 hp
      · intro h
        exact ⟨_, hm.2 h, by simp⟩
    · rw [decide_eq_false hb']; simp
  · rw [decide_eq_false ha]; simp
theorem po_wf {L : Nat} {th : List Int} (hn : L + th.length ≤ 40) : Wf (L + th.length) (poR (poX L th)) := by
  intro a b h
  rw [po_hb hn] at h
  simp only [Bool.and_eq_true, decide_eq_true_eq] at h
  exact h.1
theorem pB_lt {L : Nat} {th : List Int} (hs : Srt th) {a b : Nat} (ha : a < L + th.length) (hb : b < L + th.length) (h : pB L th a b = true) : a < b := by
  by_cases h1 : a < L
  · by_cases h2 : b < L
    · rw [pB_ww h1 h2] at h; cases h
    · omega
  · obtain ⟨i, rfl⟩ : ∃ i, a = L + i := ⟨a - L, by omega⟩
    by_cases h2 : b < L
    · rw [pB_fw hs (by omega) h2] at h; cases h
    · obtain ⟨j, rfl⟩ : ∃ j, b = L + j := ⟨b - L, by omega⟩
      rw [pB_ff hs (by omega) (by omega), Bool.and_eq_true, decide_eq_true_eq] at h
      omega
theorem pB_trans {L : Nat} {th : List Int} (hs : Srt th) {a b c : Nat} (ha : a < L + th.length) (hb : b < L + th.length) (hc : c < L + th.length) (h : pB L th a b = true) (k : pB L th b c = true) : pB L th a c = true := by
  have l1 := pB_lt hs ha hb h
  have l2 := pB_lt hs hb hc k
  by_cases h1 : a < L
  · by_cases h2 : b < L
    · rw [pB_ww h1 h2] at h; cases h
    · obtain ⟨j, rfl⟩ : ∃ j, c = L + j := ⟨c - L, by omega⟩
      exact pB_wf hs h1 (by omega)
  · obtain ⟨i, rfl⟩ : ∃ i, a = L + i := ⟨a - L, by omega⟩
    obtain ⟨j, rfl⟩ : ∃ j, b = L + j := ⟨b - L, by omega⟩
    obtain ⟨m, rfl⟩ : ∃ m, c = L + m := ⟨c - L, by omega⟩
    rw [pB_ff hs (by omega) (by omega), Bool.and_eq_true, beq_iff_eq] at h k ⊢
    exact ⟨h.1.trans k.1, decide_eq_true (by omega)⟩
theorem po_steps {L : Nat} {th : List Int} (hs : Srt th) (hn : L + th.length ≤ 40) {a b : Nat} (h : Steps' (fun a b => hb (poR (poX L th)) a b = true) a b) : hb (poR (poX L th)) a b = true := by
  induction h with
  | one h => exact h
  | join _ _ ih1 ih2 =>
    rw [po_hb hn] at ih1 ih2 ⊢
    simp only [Bool.and_eq_true, decide_eq_true_eq] at ih1 ih2 ⊢
    exact ⟨⟨ih1.1.1, ih2.1.2⟩, pB_trans hs ih1.1.1 ih1.1.2 ih2.1.2 ih1.2 ih2.2⟩
theorem po_loops {L : Nat} {th : List Int} (hs : Srt th) (hn : L + th.length ≤ 40) : loopsR (L + th.length) (poR (poX L th)) = false := by
  cases hl : loopsR (L + th.length) (poR (poX L th)) with
  | false => rfl
  | true =>
    obtain ⟨a, ha⟩ := (loops_iff (po_wf hn)).1 hl
    have := po_steps hs hn ha
    rw [po_hb hn] at this
    simp only [Bool.and_eq_true, decide_eq_true_eq] at this
    have := pB_lt hs this.1.1 this.1.2 this.2
    omega
theorem po_plus {L : Nat} {th : List Int} (hs : Srt th) (hn : L + th.length ≤ 40) : noneR (lessR (plusR (L + th.length) (poR (poX L th))) (poR (poX L th))) = true := by
  rw [in_iff hn (wf_plus (po_wf hn))]
  intro a b h
  exact po_steps hs hn ((hb_plus (po_wf hn) a b).1 h)
def W2 (th : List Int) : Nat := ((List.range th.length).map fun j => (th.take j).count (th.getD j 0)).sum
theorem W2_snoc (th : List Int) (x : Int) : W2 (th ++ [x]) = W2 th + th.count x := by
  unfold W2
  rw [List.length_append, List.length_singleton, List.range_succ, List.map_append, List.sum_append]
  congr 1
  · congr 1
    refine List.map_congr_left fun j hj => ?_
    have hj := List.mem_range.1 hj
    rw [List.take_append_of_le_length (by omega), List.getD_eq_getElem?_getD, List.getElem?_append_left hj, ← List.getD_eq_getElem?_getD]
  · simp
def S2 (p : Nat → Nat → Bool) (n m : Nat) : Nat := ((List.range n).map fun a => ((List.range m).filter (p a)).length).sum
theorem S2_col (p : Nat → Nat → Bool) (m : Nat) : ∀ l : List Nat, (l.map fun a => ((List.range (m + 1)).filter (p a)).length).sum = (l.map fun a => ((List.range m).filter (p a)).length).sum + (l.filter fun a => p a m).length
  | [] => rfl
  | a :: l => by
    have ih := S2_col p m l
    simp only [List.map_cons, List.sum_cons, ih]
    rw [List.range_succ, List.filter_append, List.length_append]
    cases hp : p a m <;> simp [List.filter_cons, hp] <;> omega
theorem S2_succ (p : Nat → Nat → Bool) (n : Nat) : S2 p (n + 1) (n + 1) = S2 p n n + ((List.range n).filter fun a => p a n).length + ((List.range (n + 1)).filter (p n)).length := by
  unfold S2
  rw [List.range_succ (n := n), List.map_append, List.sum_append, ← List.range_succ, S2_col]
  simp
theorem cnt_take {th : List Int} (x : Int) : ∀ i, i ≤ th.length → ((List.range i).filter fun j => th.getD j 0 == x).length = (th.take i).count x
  | 0, _ => by simp
  | i + 1, h => by
    have ih := cnt_take (th := th) x i (by omega)
    have htk : th.take (i + 1) = th.take i ++ [th.getD i 0] := by
      rw [List.take_add_one, List.getD_eq_getElem?_getD, List.getElem?_eq_getElem (by omega)]; rfl
    rw [htk, List.count_append, ← ih, List.range_succ, List.filter_append, List.length_append]
    congr 1
    rw [List.filter_cons, List.filter_nil]
    generalize th.getD i 0 = y
    by_cases hy : y = x
    · subst hy; simp
    · have : (y == x) = false := by rw [beq_eq_false_iff_ne]; exact hy
      rw [this]
      simp [hy]
theorem sum0 : ∀ l : List Nat, (l.map fun _ => 0).sum = 0
  | [] => rfl
  | _ :: l => by rw [List.map_cons, List.sum_cons, sum0 l]
theorem po_S2 {L : Nat} {th : List Int} (hs : Srt th) : ∀ i, i ≤ th.length → S2 (pB L th) (L + i) (L + i) = W2 (th.take i) + L * i
  | 0, _ => by
    have h : ∀ a ∈ List.range L, ((List.range L).filter (pB L th a)).length = 0 := by
      intro a ha
      rw [List.length_eq_zero_iff, List.filter_eq_nil_iff]
      intro b hb
      rw [pB_ww (List.mem_range.1 ha) (List.mem_range.1 hb)]
      simp
    have : S2 (pB L th) (L + 0) (L + 0) = 0 := by
      unfold S2
      rw [Nat.add_zero, List.map_congr_left (g := fun _ => 0) h, sum0]
    rw [this]; simp [W2]
  | i + 1, h => by
    have ih := po_S2 (L := L) hs i (by omega)
    have e : L + (i + 1) = L + i + 1 := by omega
    rw [e, S2_succ, ih]
    have hrow : ((List.range (L + i + 1)).filter (pB L th (L + i))).length = 0 := by
      rw [List.length_eq_zero_iff, List.filter_eq_nil_iff]
      intro b hb hp
      have hb := List.mem_range.1 hb
      have := pB_lt hs (by omega) (by omega) hp
      omega
    have hcol : ((List.range (L + i)).filter fun a => pB L th a (L + i)).length = L + (th.take i).count (th.getD i 0) := by
      have hr : List.range (L + i) = List.range L ++ (List.range i).map (fun j => L + j) := List.range_add ..
      rw [hr, List.filter_append, List.length_append, List.filter_map, List.length_map]
      congr 1
      · have : (List.range L).filter (fun a => pB L th a (L + i)) = List.range L := List.filter_eq_self.2 fun a ha => pB_wf hs (List.mem_range.1 ha) (by omega)
        rw [this, List.length_range]
      · rw [← cnt_take _ i (by omega)]
        congr 1
        refine List.filter_congr fun j hj => ?_
        have hj := List.mem_range.1 hj
        show pB L th (L + j) (L + i) = _
        rw [pB_ff hs (by omega) (by omega), decide_eq_true hj, Bool.and_true]
    have htk : th.take (i + 1) = th.take i ++ [th.getD i 0] := by
      rw [List.take_add_one, List.getD_eq_getElem?_getD, List.getElem?_eq_getElem (by omega)]; rfl
    rw [hrow, hcol, htk, W2_snoc, Nat.mul_succ]
    omega
theorem po_count {L : Nat} {th : List Int} (hs : Srt th) (hn : L + th.length ≤ 40) : (pairsR (L + th.length) (poR (poX L th))).length = W2 th + L * th.length := by
  have h1 := po_S2 (L := L) hs th.length (Nat.le_refl _)
  rw [List.take_length] at h1
  rw [← h1]
  unfold pairsR pairsK S2
  rw [List.length_flatMap]
  congr 1
  refine List.map_congr_left fun a ha => ?_
  have ha := List.mem_range.1 ha
  unfold rowPr
  rw [List.length_map]
  congr 1
  refine List.filter_congr fun b hb' => ?_
  have hb' := List.mem_range.1 hb'
  rw [has_N, hN_wf (po_wf hn), po_hb hn, decide_eq_true ha, decide_eq_true hb', Bool.true_and, Bool.true_and]
theorem W2_rep (th : List Int) (x : Int) (h : th.count x = 0) : ∀ n : Nat, W2 (th ++ List.replicate n x) = W2 th + n * (n - 1) / 2
  | 0 => by simp
  | n + 1 => by
    have ih := W2_rep th x h n
    rw [List.replicate_succ', ← List.append_assoc, W2_snoc, ih, List.count_append, h, List.count_replicate_self]
    have e : (n + 1) * (n + 1 - 1) = n * (n - 1) + n * 2 := by
      cases n with
      | zero => rfl
      | succ n =>
        simp only [Nat.add_sub_cancel]
        rw [Nat.succ_mul, Nat.mul_succ, Nat.mul_succ]; omega
    rw [e, Nat.add_mul_div_right _ _ (by omega)]
    omega
end Go.Ab
end
section
set_option linter.unusedVariables false
set_option linter.unusedSimpArgs false
namespace Go.Ab
variable {F : Funs}
def grT3 (X : Gr) (t1 t2 t3 : Tok) : List AV := [.i .i64 X.locs, .sl (evsC X.evs) X.evs.length t1, .sl (intsC X.rf) X.rf.length t2, .sl (coC X.co) X.co.length t3, .sl [] 0 .rig, .sl [] 0 .rig, .sl [] 0 .rig, .sl [] 0 .rig]
theorem g3_locs (X t1 t2 t3) : part (grT3 X t1 t2 t3) 0 none = some (.i .i64 X.locs) := rfl
theorem g3_all (X t1 t2 t3) : part (grT3 X t1 t2 t3) 0 (some 8) = some (.agg (grT3 X t1 t2 t3)) := rfl
theorem g3_len (X t1 t2 t3) : (grT3 X t1 t2 t3).length = 8 := rfl
def fX (L i : Nat) : Gr := ⟨(L : Int), (List.range i).map wE, List.replicate i (-1), (List.range i).map (fun (k : Nat) => [(k : Int)]), [], [], [], []⟩
theorem fX_full (L : Nat) : fX L L = poX L [] := by simp [fX, poX]
theorem frz_g3 (hp) (L : Nat) (th : List Int) (t1 t2 t3) : frz hp depth (.agg (grT3 (poX L th) t1 t2 t3)) = some (.agg (grC (poX L th))) := by
  refine frz_d_agg ?_
  show frzL hp (7 + 1) _ = _
  simp only [grT3, frzL, frz]
  rfl
theorem vis_g3 (hp) (X t1 t2 t3) : vis hp depth (.agg (grT3 X t1 t2 t3)) = [] := by
  show vis hp (8 + 1) _ = _
  simp only [vis, grT3, List.flatMap_cons, List.flatMap_nil, List.nil_append, List.append_nil]
def Toks3 (g : G) (t1 t2 t3 : Tok) : Prop := ∃ a b c, t1 = .own a 6 ∧ t2 = .own b 1 ∧ t3 = .own c 1 ∧ g.hp a = some (.tok true) ∧ g.hp b = some (.tok true) ∧ g.hp c = some (.tok true) ∧ a < g.nx ∧ b < g.nx ∧ c < g.nx ∧ a ≠ b ∧ a ≠ c ∧ b ≠ c
theorem fX_evs (L i : Nat) : evsC (fX L (i + 1)).evs = evsC (fX L i).evs ++ evC (wE i) := by
  simp [fX, evsC, List.range_succ]
theorem fX_rf (L i : Nat) : intsC (fX L (i + 1)).rf = intsC (fX L i).rf ++ [.i .i64 (-1)] := by
  simp [fX, intsC, List.replicate_succ']
theorem fX_co (L i : Nat) : coC (fX L (i + 1)).co = coC (fX L i).co ++ [.sl [.i .i64 (i : Int)] 1 .non] := by
  simp [fX, coC, List.range_succ, intsC]
theorem g3_next (L i : Nat) (t1 t2 t3 : Tok) : grT3 (fX L (i + 1)) t1 t2 t3 = [.i .i64 (L : Int), .sl (evsC (fX L i).evs ++ evC (wE i)) (i + 1) t1, .sl (intsC (fX L i).rf ++ [.i .i64 (-1)]) (i + 1) t2, .sl (coC (fX L i).co ++ [.sl [.i .i64 (i : Int)] 1 .non]) (i + 1) t3, .sl [] 0 .rig, .sl [] 0 .rig, .sl [] 0 .rig, .sl [] 0 .rig] := by
  unfold grT3
  rw [fX_evs, fX_rf, fX_co]
  simp [fX]
theorem g3_bar (L : Nat) (th : List Int) (t : Int) (t1 t2 t3 : Tok) : grT3 (poX L (th ++ [t])) t1 t2 t3 = [.i .i64 (L : Int), .sl (evsC (poX L th).evs ++ evC (fE t)) (L + th.length + 1) t1, .sl (intsC (poX L th).rf ++ [.i .i64 (-1)]) (L + th.length + 1) t2, .sl (coC (poX L th).co) L t3, .sl [] 0 .rig, .sl [] 0 .rig, .sl [] 0 .rig, .sl [] 0 .rig] := by
  have e1 : evsC (poX L (th ++ [t])).evs = evsC (poX L th).evs ++ evC (fE t) := by simp [poX, evsC]
  have e2 : intsC (poX L (th ++ [t])).rf = intsC (poX L th).rf ++ [.i .i64 (-1)] := by
    simp only [poX, List.length_append, List.length_singleton]
    rw [← Nat.add_assoc, List.replicate_succ']
    simp [intsC]
  unfold grT3
  rw [e1, e2]
  simp [poX, Nat.add_assoc]
theorem g3_lit (L : Nat) (th : List Int) (t1 t2 t3 : Tok) : grT3 (poX L th) t1 t2 t3 = [.i .i64 (L : Int), .sl (evsC (poX L th).evs) (L + th.length) t1, .sl (intsC (poX L th).rf) (L + th.length) t2, .sl (coC (poX L th).co) L t3, .sl [] 0 .rig, .sl [] 0 .rig, .sl [] 0 .rig, .sl [] 0 .rig] := by
  unfold grT3
  simp [poX]
theorem g3_litF (L i : Nat) (t1 t2 t3 : Tok) : grT3 (fX L i) t1 t2 t3 = [.i .i64 (L : Int), .sl (evsC (fX L i).evs) i t1, .sl (intsC (fX L i).rf) i t2, .sl (coC (fX L i).co) i t3, .sl [] 0 .rig, .sl [] 0 .rig, .sl [] 0 .rig, .sl [] 0 .rig] := by
  unfold grT3
  simp [fX]
end Go.Ab
end
section
set_option linter.unusedVariables false
set_option linter.unusedSimpArgs false
namespace Go.Ab
variable {F : Funs}
theorem q_nat {x y : Int} (hx : 0 ≤ x) (hm : x ≤ 9223372036854775807) (hy : 0 < y) : abin .quo (.i .i64 x) (.i .i64 y) = some (.i .i64 (x / y)) := by
  rw [b_quo (by omega), Int.tdiv_eq_ediv_of_nonneg hx]
  have h1 := Int.ediv_nonneg hx (by omega : 0 ≤ y)
  have h2 := Int.ediv_le_self y hx
  rw [i64_wrap (by omega) (by omega)]
end Go.Ab
end
section
set_option linter.unusedVariables false
set_option linter.unusedSimpArgs false
namespace Go.Ab
variable {F : Funs}
theorem srt_rep {th : List Int} {t : Nat} (h : Srt th) (hb : ∀ x ∈ th, x ≤ (t : Int)) (ht : t < 4) (n : Nat) : Srt (th ++ List.replicate n ((t : Int) + 1)) := by
  have hg1 : ∀ i, i < th.length → (th ++ List.replicate n ((t : Int) + 1)).getD i 0 = th.getD i 0 := by
    intro i hi
    simp [List.getD, List.getElem?_append_left hi]
  have hg2 : ∀ i, th.length ≤ i → i < th.length + n → (th ++ List.replicate n ((t : Int) + 1)).getD i 0 = (t : Int) + 1 := by
    intro i hi hi'
    simp only [List.getD, List.getElem?_append_right hi]
    rw [List.getElem?_replicate, if_pos (by omega)]
    rfl
  have hle : ∀ i, i < th.length → th.getD i 0 ≤ (t : Int) := by
    intro i hi
    refine hb _ ?_
    rw [List.getD_eq_getElem?_getD, List.getElem?_eq_getElem hi]
    exact List.getElem_mem hi
  intro i hi
  rw [List.length_append, List.length_replicate] at hi
  by_cases c : i < th.length
  · rw [hg1 i c]
    refine ⟨(h i c).1, (h i c).2.1, fun j hj => ?_⟩
    rw [hg1 j (by omega)]
    exact (h i c).2.2 j hj
  · rw [hg2 i (by omega) hi]
    refine ⟨by omega, by omega, fun j hj => ?_⟩
    by_cases c2 : j < th.length
    · rw [hg1 j c2]; have := hle j c2; omega
    · rw [hg2 j (by omega) (by omega)]; omega
theorem rep_le {th : List Int} {t : Nat} (hb : ∀ x ∈ th, x ≤ (t : Int)) (n : Nat) : ∀ x ∈ th ++ List.replicate n ((t : Int) + 1), x ≤ ((t + 1 : Nat) : Int) := by
  intro x hx
  rcases List.mem_append.1 hx with h | h
  · have := hb x h; omega
  · rw [(List.mem_replicate.1 h).2]; omega
theorem cnt_none {th : List Int} {t : Nat} (hb : ∀ x ∈ th, x ≤ (t : Int)) : th.count ((t : Int) + 1) = 0 := by
  rw [List.count_eq_zero]
  intro h
  have := hb _ h
  omega
theorem tri_le : ∀ n : Nat, n ≤ 8 → n * (n - 1) / 2 ≤ 28 := by decide
theorem tri_int (n : Nat) : ((n * (n - 1) : Nat) : Int) = (n : Int) * ((n : Int) - 1) := by
  cases n with
  | zero => rfl
  | succ n => simp
theorem po_lenG {L : Nat} (th : List Int) (h : L ≤ 4) : LenG (poX L th) := by
  have h1 : ∀ c ∈ (poX L th).co, c.length ≤ 1 := by
    intro c hc
    simp only [poX, List.mem_map] at hc
    obtain ⟨i, _, rfl⟩ := hc
    exact Nat.le_refl 1
  have h2 : (poX L th).co.length = L := by simp [poX]
  refine ⟨?_, by omega, fun k => ?_, ?_, ?_, ?_, ?_⟩
  · have := flat_le h1
    rw [h2] at this
    omega
  · by_cases hk : k < (poX L th).co.length
    · rw [List.getD_eq_getElem?_getD, List.getElem?_eq_getElem hk]
      have := h1 _ (List.getElem_mem hk)
      simp only [Option.getD_some]
      omega
    · rw [List.getD_eq_getElem?_getD, List.getElem?_eq_none (by omega)]
      simp
  all_goals simp [poX]
set_option maxRecDepth 100000 in
set_option maxHeartbeats 8000000 in
theorem sp_graphPo (h139 : F 139 = some A_xlaw06_GraphPo) (aw : pureS F 153 [] = some (.b true)) (h10 : F 10 = some A_xlaw00_Place) (h60 : F 60 = some A_graph_Po) (h81 : F 81 = some A_graph_Of) (pr : Pk_rel F) (ls : RelLs F) (gs : GrFs F) (sizes : List Int) (locs : Int) (tk : Tok) :
    pureS F 139 [.sl (intsC sizes) sizes.length tk, .i .i64 locs] = some (.b true) := by
  refine pure_of h139 ?_
  have hp1 := sp_place h10 (v := locs) (n := 4) (by omega) (by omega)
  obtain ⟨r0, r1⟩ := place_lt (v := locs) (n := 4) (by omega)
  obtain ⟨L0, hL0⟩ := Int.eq_ofNat_of_zero_le r0
  rw [hL0] at hp1
  have hw : IntKind.i64.wrap (1 + ((L0 : Nat) : Int)) = ((1 + L0 : Nat) : Int) := by rw [i64_wrap (by omega) (by omega)]; omega
  generalize hL : 1 + L0 = L at hw
  have hL1 : 1 ≤ L := by omega
  have hL4 : L ≤ 4 := by omega
  have l5 : ∀ x : AV, List.replicate 5 x = [x, x, x, x, x] := fun _ => rfl
  have l7 : ∀ x : AV, List.replicate 7 x = [x, x, x, x, x, x, x] := fun _ => rfl
  have s6 : ∀ b1 b2 b3 b4 b5 b6 c1 c2 c3 c4 c5 c6 : AV, splice [b1, b2, b3, b4, b5, b6] 0 [c1, c2, c3, c4, c5, c6] = [c1, c2, c3, c4, c5, c6] := fun _ _ _ _ _ _ _ _ _ _ _ _ => rfl
  have s8 : ∀ a1 a2 a3 a4 a5 a6 a7 a8 c1 c2 c3 c4 c5 c6 c7 c8 : AV, splice [a1, a2, a3, a4, a5, a6, a7, a8] 0 [c1, c2, c3, c4, c5, c6, c7, c8] = [c1, c2, c3, c4, c5, c6, c7, c8] := fun _ _ _ _ _ _ _ _ _ _ _ _ _ _ _ _ => rfl
  simp (disch := omega) only [A_xlaw06_GraphPo, wp, Nat.reduceAdd, Nat.reduceMul, Nat.reduceSub, gl, l5, l7, s6, s8, hp1, hw, List.length_set]
  refine blk_cut (fun e g => ∃ t1 t2 t3, e 0 = .sl (intsC sizes) sizes.length tk ∧ e 5 = .mp 5 0 ∧ g.hp 5 = some (.cells (grT3 (poX L []) t1 t2 t3) false) ∧ Toks3 g t1 t2 t3 ∧ 5 < g.nx) ?_ ?_
  · refine W_loop (fun q e g => ∃ (i : Nat) (t1 t2 t3 : Tok), q = L - i ∧ i ≤ L ∧ e 0 = .sl (intsC sizes) sizes.length tk ∧ e 5 = .mp 5 0 ∧ e 6 = .i .i64 ((i : Nat) : Int) ∧ g.hp 5 = some (.cells (grT3 (fX L i) t1 t2 t3) false) ∧ ((i = 0 ∧ t1 = .rig ∧ t2 = .rig ∧ t3 = .rig) ∨ Toks3 g t1 t2 t3) ∧ 5 < g.nx) L ?_ ?_
    · refine ⟨0, .rig, .rig, .rig, rfl, Nat.zero_le _, ?_⟩
      simp (disch := omega) only [wp, Nat.reduceAdd, Nat.reduceMul, Nat.reduceSub]
      exact ⟨rfl, rfl, .inl trivial, by first | omega | (dsimp only; omega)⟩
    · rintro q e g ⟨i, t1, t2, t3, rfl, hi, e0, e5, e6, hg, htk, hnx⟩
      by_cases c1 : i < L
      · have c1' : ((i : Nat) : Int) < ((L : Nat) : Int) := by omega
        have hwi := succ_wrap (k := i) (by omega)
        have hel : (evsC (fX L i).evs).length = i * 6 := by rw [evsC_len]; simp [fX]
        have hrl : (intsC (fX L i).rf).length = i := by simp [fX, intsC]
        have hcl : (coC (fX L i).co).length = i := by simp [fX, coC]
        rw [g3_litF] at hg
        have fin : ∀ (e : Env) (g : G) (t1 t2 t3 : Tok), e 0 = .sl (intsC sizes) sizes.length tk → e 5 = .mp 5 0 → e 6 = .i .i64 ((i + 1 : Nat) : Int) → g.hp 5 = some (.cells (grT3 (fX L (i + 1)) t1 t2 t3) false) → Toks3 g t1 t2 t3 → 5 < g.nx → ∃ m', m' < L - i ∧ ∃ (i : Nat) (t1 t2 t3 : Tok), m' = L - i ∧ i ≤ L ∧ e 0 = .sl (intsC sizes) sizes.length tk ∧ e 5 = .mp 5 0 ∧ e 6 = .i .i64 ((i : Nat) : Int) ∧ g.hp 5 = some (.cells (grT3 (fX L i) t1 t2 t3) false) ∧ ((i = 0 ∧ t1 = .rig ∧ t2 = .rig ∧ t3 = .rig) ∨ Toks3 g t1 t2 t3) ∧ 5 < g.nx :=
          fun e g t1 t2 t3 a1 a2 a3 a4 a5 a6 => ⟨L - (i + 1), by omega, i + 1, t1, t2, t3, rfl, by omega, a1, a2, a3, a4, .inr a5, a6⟩
        rcases htk with ⟨rfl, rfl, rfl, rfl⟩ | ⟨a, b, c, rfl, rfl, rfl, ha, hb, hc, la, lb, lc, n1, n2, n3⟩
        · simp (disch := omega) only [wp, Nat.reduceAdd, Nat.reduceMul, Nat.reduceSub, gl, e0, e5, e6, hg, c1', hwi, l5, s6, hel, hrl, hcl, List.length_set]
          exact ⟨L - (0 + 1), by omega, 0 + 1, _, _, _, rfl, by omega, rfl, by rw [g3_next]; rfl, .inr ⟨_, _, _, rfl, rfl, rfl, by simp (disch := omega) only [upd_same, upd_ne], by simp (disch := omega) only [upd_same, upd_ne], by simp (disch := omega) only [upd_same, upd_ne], by first | omega | (dsimp only; omega), by first | omega | (dsimp only; omega), by first | omega | (dsimp only; omega), by omega, by omega, by omega⟩, by first | omega | (dsimp only; omega)⟩
        · have m1 : a ≠ 5 := fun h => by rw [h, hg] at ha; cases ha
          have m2 : b ≠ 5 := fun h => by rw [h, hg] at hb; cases hb
          have m3 : c ≠ 5 := fun h => by rw [h, hg] at hc; cases hc
          simp (disch := omega) only [wp, Nat.reduceAdd, Nat.reduceMul, Nat.reduceSub, gl, e0, e5, e6, hg, ha, hb, hc, c1', hwi, l5, s6, hel, hrl, hcl, List.length_set]
          exact ⟨L - (i + 1), by omega, i + 1, _, _, _, rfl, by omega, rfl, by rw [g3_next]; rfl, .inr ⟨_, _, _, rfl, rfl, rfl, by simp (disch := omega) only [upd_same, upd_ne], by simp (disch := omega) only [upd_same, upd_ne], by simp (disch := omega) only [upd_same, upd_ne], by first | omega | (dsimp only; omega), by first | omega | (dsimp only; omega), by first | omega | (dsimp only; omega), by omega, by omega, by omega⟩, by first | omega | (dsimp only; omega)⟩
      · have c1' : ¬ ((i : Nat) : Int) < ((L : Nat) : Int) := by omega
        obtain rfl : i = L := by omega
        have hg' := hg
        rw [g3_litF] at hg'
        simp (disch := omega) only [wp, Nat.reduceAdd, Nat.reduceMul, Nat.reduceSub, gl, e0, e5, e6, hg', c1']
        rw [fX_full] at hg
        refine ⟨t1, t2, t3, by rw [← hg, hg'], ?_, by first | omega | (dsimp only; omega)⟩
        rcases htk with ⟨h0, _⟩ | ⟨a, b, c, rfl, rfl, rfl, ha, hb, hc, la, lb, lc, n1, n2, n3⟩
        · omega
        · exact ⟨a, b, c, rfl, rfl, rfl, ha, hb, hc, by first | omega | (dsimp only; omega), by first | omega | (dsimp only; omega), by first | omega | (dsimp only; omega), n1, n2, n3⟩
  · rintro e g ⟨t1, t2, t3, e0, e5, hg, htk, hnx⟩
    simp (disch := omega) only [wp, Nat.reduceAdd, Nat.reduceMul, Nat.reduceSub]
    refine blk_cut (fun e g => ∃ th t1 t2 t3, e 5 = .mp 5 0 ∧ e 7 = .i .i64 ((W2 th : Nat) : Int) ∧ e 8 = .i .i64 ((th.length : Nat) : Int) ∧ g.hp 5 = some (.cells (grT3 (poX L th) t1 t2 t3) false) ∧ 5 < g.nx ∧ Srt th ∧ th.length ≤ 32 ∧ W2 th ≤ 112) ?_ ?_
    · refine W_loop (fun q e g => ∃ (t : Nat) (th : List Int) (t1 t2 t3 : Tok), q = 4 - t ∧ t ≤ 4 ∧ t ≤ sizes.length ∧ e 0 = .sl (intsC sizes) sizes.length tk ∧ e 5 = .mp 5 0 ∧ e 7 = .i .i64 ((W2 th : Nat) : Int) ∧ e 8 = .i .i64 ((th.length : Nat) : Int) ∧ e 9 = .i .i64 ((t : Nat) : Int) ∧ g.hp 5 = some (.cells (grT3 (poX L th) t1 t2 t3) false) ∧ Toks3 g t1 t2 t3 ∧ 5 < g.nx ∧ Srt th ∧ (∀ x ∈ th, x ≤ (t : Int)) ∧ th.length ≤ 8 * t ∧ W2 th ≤ 28 * t) 4 ?_ ?_
      · refine ⟨0, [], t1, t2, t3, rfl, Nat.zero_le _, Nat.zero_le _, ?_⟩
        simp (disch := omega) only [wp, Nat.reduceAdd, Nat.reduceMul, Nat.reduceSub, e0, e5]
        obtain ⟨a, b, c, rfl, rfl, rfl, ha, hb, hc, la, lb, lc, n1, n2, n3⟩ := htk
        exact ⟨rfl, rfl, rfl, hg, ⟨a, b, c, rfl, rfl, rfl, ha, hb, hc, by first | omega | (dsimp only; omega), by first | omega | (dsimp only; omega), by first | omega | (dsimp only; omega), n1, n2, n3⟩, by first | omega | (dsimp only; omega), fun i hi => absurd hi (Nat.not_lt_zero i), fun x hx => absurd hx (List.not_mem_nil), Nat.le_refl _, Nat.le_refl _⟩
      · rintro q e g ⟨t, th, t1, t2, t3, rfl, ht, hts, e0, e5, e7, e8, e9, hg, htk, hnx, hsr, hle, hln, hw2⟩
        by_cases ct : t < sizes.length
        · have ct' : ((t : Nat) : Int) < ((sizes.length : Nat) : Int) := by omega
          by_cases c4 : t < 4
          · have c4' : ((t : Nat) : Int) < 4 := by omega
            have hwt := succ_wrap (k := t) (by omega)
            have hip := ints_part ct
            generalize sizes.getD t 0 = v at hip
            have hpl := sp_place h10 (v := v) (n := 9) (by omega) (by omega)
            obtain ⟨q0, q1⟩ := place_lt (v := v) (n := 9) (by omega)
            obtain ⟨n, hn⟩ := Int.eq_ofNat_of_zero_le q0
            rw [hn] at hpl q1
            have hn8 : n ≤ 8 := by omega
            simp (disch := omega) only [wp, Nat.reduceAdd, Nat.reduceMul, Nat.reduceSub, gl, e0, e5, e7, e8, e9, hip, hpl, ct', c4']
            refine blk_cut (fun e g => ∃ t1 t2 t3, e 0 = .sl (intsC sizes) sizes.length tk ∧ e 5 = .mp 5 0 ∧ e 7 = .i .i64 ((W2 th : Nat) : Int) ∧ e 8 = .i .i64 ((th.length : Nat) : Int) ∧ e 9 = .i .i64 ((t : Nat) : Int) ∧ e 10 = .i .i64 ((n : Nat) : Int) ∧ g.hp 5 = some (.cells (grT3 (poX L (th ++ List.replicate n ((t : Int) + 1))) t1 t2 t3) false) ∧ Toks3 g t1 t2 t3 ∧ 5 < g.nx) ?_ ?_
            · refine W_loop (fun q e g => ∃ (j : Nat) (t1 t2 t3 : Tok), q = n - j ∧ j ≤ n ∧ e 0 = .sl (intsC sizes) sizes.length tk ∧ e 5 = .mp 5 0 ∧ e 7 = .i .i64 ((W2 th : Nat) : Int) ∧ e 8 = .i .i64 ((th.length : Nat) : Int) ∧ e 9 = .i .i64 ((t : Nat) : Int) ∧ e 10 = .i .i64 ((n : Nat) : Int) ∧ e 11 = .i .i64 ((j : Nat) : Int) ∧ g.hp 5 = some (.cells (grT3 (poX L (th ++ List.replicate j ((t : Int) + 1))) t1 t2 t3) false) ∧ Toks3 g t1 t2 t3 ∧ 5 < g.nx) n ?_ ?_
              · refine ⟨0, t1, t2, t3, rfl, Nat.zero_le _, ?_⟩
                simp (disch := omega) only [wp, Nat.reduceAdd, Nat.reduceMul, Nat.reduceSub, e0, e5, e7, e8, e9, List.replicate_zero, List.append_nil]
                obtain ⟨a, b, c, rfl, rfl, rfl, ha, hb, hc, la, lb, lc, n1, n2, n3⟩ := htk
                exact ⟨rfl, hg, ⟨a, b, c, rfl, rfl, rfl, ha, hb, hc, by first | omega | (dsimp only; omega), by first | omega | (dsimp only; omega), by first | omega | (dsimp only; omega), n1, n2, n3⟩, by first | omega | (dsimp only; omega)⟩
              · rintro q e g ⟨j, t1, t2, t3, rfl, hj, e0, e5, e7, e8, e9, e10, e11, hg, htk, hnx⟩
                obtain ⟨a, b, c, rfl, rfl, rfl, ha, hb, hc, la, lb, lc, n1, n2, n3⟩ := htk
                have m1 : a ≠ 5 := fun h => by rw [h, hg] at ha; cases ha
                have m2 : b ≠ 5 := fun h => by rw [h, hg] at hb; cases hb
                have m3 : c ≠ 5 := fun h => by rw [h, hg] at hc; cases hc
                have hn' : (th ++ List.replicate j ((t : Int) + 1)).length = th.length + j := by simp
                by_cases cj : j < n
                · have cj' : ((j : Nat) : Int) < ((n : Nat) : Int) := by omega
                  have hwj := succ_wrap (k := j) (by omega)
                  have hnext : ∀ t1 t2 t3, grT3 (poX L (th ++ List.replicate (j + 1) ((t : Int) + 1))) t1 t2 t3 = [.i .i64 (L : Int), .sl (evsC (poX L (th ++ List.replicate j ((t : Int) + 1))).evs ++ evC (fE ((t : Int) + 1))) (L + (th.length + j) + 1) t1, .sl (intsC (poX L (th ++ List.replicate j ((t : Int) + 1))).rf ++ [.i .i64 (-1)]) (L + (th.length + j) + 1) t2, .sl (coC (poX L (th ++ List.replicate j ((t : Int) + 1))).co) L t3, .sl [] 0 .rig, .sl [] 0 .rig, .sl [] 0 .rig, .sl [] 0 .rig] := fun t1 t2 t3 => by
                    rw [List.replicate_succ', ← List.append_assoc, g3_bar L (th ++ List.replicate j ((t : Int) + 1)) ((t : Int) + 1) t1 t2 t3, hn']
                  have hel : (evsC (poX L (th ++ List.replicate j ((t : Int) + 1))).evs).length = (L + (th.length + j)) * 6 := by rw [evsC_len, poX_len, hn']
                  have hrl : (intsC (poX L (th ++ List.replicate j ((t : Int) + 1))).rf).length = L + (th.length + j) := by simp [poX, intsC]
                  rw [g3_lit] at hg
                  rw [hn'] at hg
                  simp (disch := omega) only [wp, Nat.reduceAdd, Nat.reduceMul, Nat.reduceSub, gl, e0, e5, e7, e8, e9, e10, e11, hg, ha, hb, hc, cj', hwj, hwt, l5, s6, hel, hrl, List.length_set]
                  exact ⟨n - (j + 1), by omega, j + 1, _, _, _, rfl, by omega, rfl, by rw [hnext]; rfl, ⟨_, _, _, rfl, rfl, rfl, by simp (disch := omega) only [upd_same, upd_ne], by simp (disch := omega) only [upd_same, upd_ne], by simp (disch := omega) only [upd_same, upd_ne, hc], by first | omega | (dsimp only; omega), by first | omega | (dsimp only; omega), by first | omega | (dsimp only; omega), by omega, by omega, by omega⟩, by first | omega | (dsimp only; omega)⟩
                · have cj' : ¬ ((j : Nat) : Int) < ((n : Nat) : Int) := by omega
                  obtain rfl : j = n := by omega
                  simp (disch := omega) only [wp, Nat.reduceAdd, Nat.reduceMul, Nat.reduceSub, gl, e0, e5, e7, e8, e9, e10, e11, cj']
                  exact ⟨_, _, _, hg, ⟨a, b, c, rfl, rfl, rfl, ha, hb, hc, by first | omega | (dsimp only; omega), by first | omega | (dsimp only; omega), by first | omega | (dsimp only; omega), n1, n2, n3⟩, by first | omega | (dsimp only; omega)⟩
            · rintro e g ⟨t1, t2, t3, e0, e5, e7, e8, e9, e10, hg, htk, hnx⟩
              have htr := tri_le n hn8
              have hwa : IntKind.i64.wrap ((n : Int) - 1) = (n : Int) - 1 := i64_wrap (by omega) (by omega)
              have hwb : IntKind.i64.wrap ((n : Int) * ((n : Int) - 1)) = ((n * (n - 1) : Nat) : Int) := by
                have h1 : n * (n - 1) ≤ 8 * 8 := Nat.mul_le_mul hn8 (by omega)
                rw [← tri_int, i64_wrap (by omega) (by omega)]
              have hq := q_nat (x := ((n * (n - 1) : Nat) : Int)) (y := 2) (by omega) (by have h1 : n * (n - 1) ≤ 8 * 8 := Nat.mul_le_mul hn8 (by omega); omega) (by omega)
              rw [show ((n * (n - 1) : Nat) : Int) / 2 = ((n * (n - 1) / 2 : Nat) : Int) from by omega] at hq
              have hwc : IntKind.i64.wrap (((W2 th : Nat) : Int) + ((n * (n - 1) / 2 : Nat) : Int)) = ((W2 (th ++ List.replicate n ((t : Int) + 1)) : Nat) : Int) := by
                rw [W2_rep th _ (cnt_none hle) n, i64_wrap (by omega) (by omega)]; omega
              have hwd : IntKind.i64.wrap (((th.length : Nat) : Int) + ((n : Nat) : Int)) = (((th ++ List.replicate n ((t : Int) + 1)).length : Nat) : Int) := by
                rw [List.length_append, List.length_replicate, i64_wrap (by omega) (by omega)]; omega
              simp (disch := omega) only [wp, Nat.reduceAdd, Nat.reduceMul, Nat.reduceSub, gl, e0, e5, e7, e8, e9, e10, hwa, hwb, hq, hwc, hwd, hwt]
              obtain ⟨a, b, c, rfl, rfl, rfl, ha, hb, hc, la, lb, lc, n1, n2, n3⟩ := htk
              exact ⟨4 - (t + 1), by omega, t + 1, th ++ List.replicate n ((t : Int) + 1), _, _, _, rfl, by omega, by omega, rfl, by first | rfl | simp, by first | rfl | simp, hg, ⟨a, b, c, rfl, rfl, rfl, ha, hb, hc, by first | omega | (dsimp only; omega), by first | omega | (dsimp only; omega), by first | omega | (dsimp only; omega), n1, n2, n3⟩, by first | omega | (dsimp only; omega), srt_rep hsr hle c4 n, rep_le hle n, by rw [List.length_append, List.length_replicate]; omega, by rw [W2_rep th _ (cnt_none hle) n]; omega⟩
          · have c4' : ¬ ((t : Nat) : Int) < 4 := by omega
            simp (disch := omega) only [wp, Nat.reduceAdd, Nat.reduceMul, Nat.reduceSub, gl, e0, e5, e7, e8, e9, ct', c4']
            exact ⟨th, t1, t2, t3, rfl, rfl, hg, by first | omega | (dsimp only; omega), hsr, by omega, by omega⟩
        · have ct' : ¬ ((t : Nat) : Int) < ((sizes.length : Nat) : Int) := by omega
          simp (disch := omega) only [wp, Nat.reduceAdd, Nat.reduceMul, Nat.reduceSub, gl, e0, e5, e7, e8, e9, ct']
          exact ⟨th, t1, t2, t3, rfl, rfl, hg, by first | omega | (dsimp only; omega), hsr, by omega, by omega⟩
    · rintro e g ⟨th, t1, t2, t3, e5, e7, e8, hg, hnx, hsr, hl, hw2⟩
      have hnn := po_n (L := L) (th := th) (by omega)
      have hpo := sp_Po h60 h81 pr (X := poX L th) (by rw [poX_len]; omega)
      rw [show newR (nOf (poX L th)) (poK (poX L th) (poX L th).evs.length) = poR (poX L th) from rfl, hnn] at hpo
      have hck := sg_check gs (X := poX L th) (po_lenG th hL4)
      rw [po_check hL1 hL4 (by omega) hsr] at hck
      have hpa := sp_pairs pr (n := L + th.length) (by omega) (poR (poX L th))
      have hcn := po_count (L := L) hsr (by omega)
      have hlp := sp_loops pr (n := L + th.length) (by omega) (poR (poX L th))
      rw [po_loops hsr (by omega)] at hlp
      have hpl := sp_plus pr (n := L + th.length) (by omega) (poR (poX L th))
      have hin := sp_in ls pr (n := L + th.length) (m := L + th.length) (by omega) (by omega) (plusR (L + th.length) (poR (poX L th))) (poR (poX L th))
      rw [po_plus hsr (by omega)] at hin
      have hmul : L * th.length ≤ 4 * 32 := Nat.mul_le_mul hL4 hl
      have hwm : IntKind.i64.wrap (((L : Nat) : Int) * ((th.length : Nat) : Int)) = ((L * th.length : Nat) : Int) := by
        rw [← Int.natCast_mul, i64_wrap (by omega) (by omega)]
      have hws : IntKind.i64.wrap (((W2 th : Nat) : Int) + ((L * th.length : Nat) : Int)) = (((pairsR (L + th.length) (poR (poX L th))).length : Nat) : Int) := by
        rw [hcn, i64_wrap (by omega) (by omega)]; omega
      have hfg := fun hp => frz_g3 hp L th t1 t2 t3
      have hvg := fun hp => vis_g3 hp (poX L th) t1 t2 t3
      have hga := g3_all (poX L th) t1 t2 t3
      have hgo := g3_locs (poX L th) t1 t2 t3
      have hgl := g3_len (poX L th) t1 t2 t3
      have hlo : (poX L th).locs = (L : Int) := rfl
      rw [hlo] at hgo
      generalize grT3 (poX L th) t1 t2 t3 = C at hg hfg hvg hga hgo hgl
      generalize hPP : pairsR (L + th.length) (poR (poX L th)) = PP at *
      generalize hRR : poR (poX L th) = RR at *
      generalize plusR (L + th.length) RR = RP at *
      simp (disch := omega) only [wp, Nat.reduceAdd, Nat.reduceMul, Nat.reduceSub, gl, e5, e7, e8, hg, hga, hfg, hvg, hgo, hgl, hpo, hck, hpa, hlp, hpl, hin, hwm, hws, aw, List.length_set]
end Go.Ab
end
section
set_option linter.unusedVariables false
set_option linter.unusedSimpArgs false
namespace Go.Ab
inductive ET where
  | leaf
  | node (v : Option AV) (l r : ET)
noncomputable def ET.get (t : ET) : Nat → Option AV :=
  ET.rec (motive := fun _ => Nat → Option AV) (fun _ => none) (fun v _ _ gl gr n => Nat.rec (motive := fun _ => Option AV) v (fun m _ => Bool.rec (motive := fun _ => Option AV) (gr (Nat.div m 2)) (gl (Nat.div m 2)) (Nat.beq (Nat.mod m 2) 0)) n) t
theorem ET.get_succ (v l r) (m : Nat) : (ET.node v l r).get (m + 1) = if m % 2 = 0 then l.get (m / 2) else r.get (m / 2) := by
  show Bool.rec (motive := fun _ => Option AV) (r.get (m / 2)) (l.get (m / 2)) (Nat.beq (m % 2) 0) = _
  cases h : Nat.beq (m % 2) 0 with
  | true => rw [if_pos (Nat.eq_of_beq_eq_true h)]
  | false => rw [if_neg (Nat.ne_of_beq_eq_false h)]
section
variable {α : Type}
noncomputable def ET.putK (v : AV) (fuel : Nat) : ET → Nat → (ET → α) → α :=
  Nat.rec (motive := fun _ => ET → Nat → (ET → α) → α) (fun t _ k => k t)
    (fun _ ih t n k => ET.rec (motive := fun _ => α)
      (Nat.rec (motive := fun _ => α) (k (.node (some v) .leaf .leaf)) (fun m _ => Bool.rec (motive := fun _ => α) (ih .leaf (Nat.div m 2) fun r' => k (.node none .leaf r')) (ih .leaf (Nat.div m 2) fun l' => k (.node none l' .leaf)) (Nat.beq (Nat.mod m 2) 0)) n)
      (fun w l r _ _ => Nat.rec (motive := fun _ => α) (k (.node (some v) l r)) (fun m _ => Bool.rec (motive := fun _ => α) (ih r (Nat.div m 2) fun r' => k (.node w l r')) (ih l (Nat.div m 2) fun l' => k (.node w l' r)) (Nat.beq (Nat.mod m 2) 0)) n) t) fuel
theorem ET.putK_ok (v : AV) : ∀ (fuel : Nat) (t : ET) (n : Nat) (k : ET → α), n < fuel → ∃ t', ET.putK v fuel t n k = k t' ∧ ∀ j, t'.get j = if j = n then some v else t.get j
  | 0, _, _, _, h => absurd h (Nat.not_lt_zero _)
  | f + 1, t, 0, k, _ => by
    cases t with
    | leaf =>
      refine ⟨.node (some v) .leaf .leaf, rfl, fun j => ?_⟩
      cases j with
      | zero => rfl
      | succ j => rw [ET.get_succ, if_neg (Nat.succ_ne_zero j)]; split <;> rfl
    | node w l r =>
      refine ⟨.node (some v) l r, rfl, fun j => ?_⟩
      cases j with
      | zero => rfl
      | succ j => rw [ET.get_succ, if_neg (Nat.succ_ne_zero j), ET.get_succ]
  | f + 1, t, m + 1, k, h => by
    have hd : m / 2 < f := by omega
    cases t with
    | leaf =>
      cases hb : Nat.beq (m % 2) 0 with
      | true =>
        have hm := Nat.eq_of_beq_eq_true hb
        obtain ⟨t', h1, h2⟩ := ET.putK_ok v f .leaf (m / 2) (fun l' => k (.node none l' .leaf)) hd
        refine ⟨.node none t' .leaf, ?_, fun j => ?_⟩
        · show Bool.rec (motive := fun _ => α) _ (ET.putK v f .leaf (m / 2) fun l' => k (.node none l' .leaf)) (Nat.beq (m % 2) 0) = _
          rw [hb]; exact h1
        · cases j with
          | zero => rw [if_neg (by omega)]; rfl
          | succ j =>
            rw [ET.get_succ]
            by_cases hj : j % 2 = 0
            · rw [if_pos hj, h2]
              by_cases e : j / 2 = m / 2
              · rw [if_pos e, if_pos (by omega)]
              · rw [if_neg e, if_neg (by omega)]; rfl
            · rw [if_neg hj, if_neg (by omega)]; rfl
      | false =>
        have hm := Nat.ne_of_beq_eq_false hb
        obtain ⟨t', h1, h2⟩ := ET.putK_ok v f .leaf (m / 2) (fun r' => k (.node none .leaf r')) hd
        refine ⟨.node none .leaf t', ?_, fun j => ?_⟩
        · show Bool.rec (motive := fun _ => α) (ET.putK v f .leaf (m / 2) fun r' => k (.node none .leaf r')) _ (Nat.beq (m % 2) 0) = _
          rw [hb]; exact h1
        · cases j with
          | zero => rw [if_neg (by omega)]; rfl
          | succ j =>
            rw [ET.get_succ]
            by_cases hj : j % 2 = 0
            · rw [if_pos hj, if_neg (by omega)]; rfl
            · rw [if_neg hj, h2]
              by_cases e : j / 2 = m / 2
              · rw [if_pos e, if_pos (by omega)]
              · rw [if_neg e, if_neg (by omega)]; rfl
    | node w l r =>
      cases hb : Nat.beq (m % 2) 0 with
      | true =>
        have hm := Nat.eq_of_beq_eq_true hb
        obtain ⟨t', h1, h2⟩ := ET.putK_ok v f l (m / 2) (fun l' => k (.node w l' r)) hd
        refine ⟨.node w t' r, ?_, fun j => ?_⟩
        · show Bool.rec (motive := fun _ => α) _ (ET.putK v f l (m / 2) fun l' => k (.node w l' r)) (Nat.beq (m % 2) 0) = _
          rw [hb]; exact h1
        · cases j with
          | zero => rw [if_neg (by omega)]; rfl
          | succ j =>
            rw [ET.get_succ, ET.get_succ]
            by_cases hj : j % 2 = 0
            · rw [if_pos hj, if_pos hj, h2]
              by_cases e : j / 2 = m / 2
              · rw [if_pos e, if_pos (by omega)]
              · rw [if_neg e, if_neg (by omega)]
            · rw [if_neg hj, if_neg hj, if_neg (by omega)]
      | false =>
        have hm := Nat.ne_of_beq_eq_false hb
        obtain ⟨t', h1, h2⟩ := ET.putK_ok v f r (m / 2) (fun r' => k (.node w l r')) hd
        refine ⟨.node w l t', ?_, fun j => ?_⟩
        · show Bool.rec (motive := fun _ => α) (ET.putK v f r (m / 2) fun r' => k (.node w l r')) _ (Nat.beq (m % 2) 0) = _
          rw [hb]; exact h1
        · cases j with
          | zero => rw [if_neg (by omega)]; rfl
          | succ j =>
            rw [ET.get_succ, ET.get_succ]
            by_cases hj : j % 2 = 0
            · rw [if_pos hj, if_pos hj, if_neg (by omega)]
            · rw [if_neg hj, if_neg hj, h2]
              by_cases e : j / 2 = m / 2
              · rw [if_pos e, if_pos (by omega)]
              · rw [if_neg e, if_neg (by omega)]
noncomputable def frcN (n : Nat) (k : Nat → α) : α := Nat.rec (motive := fun _ => α) (k 0) (fun m _ => k (Nat.add m 1)) n
theorem frcN_ok (n : Nat) (k : Nat → α) : frcN n k = k n := by cases n <;> rfl
noncomputable def frcI (n : Int) (k : Int → α) : α := Int.rec (motive := fun _ => α) (fun m => frcN m fun m => k (.ofNat m)) (fun m => frcN m fun m => k (.negSucc m)) n
theorem frcI_ok (n : Int) (k : Int → α) : frcI n k = k n := by
  cases n with
  | ofNat m => exact frcN_ok m fun m => k (.ofNat m)
  | negSucc m => exact frcN_ok m fun m => k (.negSucc m)
noncomputable def frcB (x : Bool) (k : Bool → α) : α := Bool.rec (motive := fun _ => α) (k false) (k true) x
theorem frcB_ok (x : Bool) (k : Bool → α) : frcB x k = k x := by cases x <;> rfl
noncomputable def frc1 (v : AV) (k : AV → α) : α := match v with
  | .i s n => frcI n fun n => k (.i s n)
  | .b x => frcB x fun x => k (.b x)
  | v => k v
theorem frc1_ok (v : AV) (k : AV → α) : frc1 v k = k v := by
  cases v with
  | i s n => exact frcI_ok n fun n => k (.i s n)
  | b x => exact frcB_ok x fun x => k (.b x)
  | _ => rfl
noncomputable def frcL (cs : List AV) : (List AV → α) → α := List.rec (motive := fun _ => (List AV → α) → α) (fun k => k []) (fun c _ ih k => frc1 c fun c => ih fun cs => k (c :: cs)) cs
theorem frcL_ok : ∀ (cs : List AV) (k : List AV → α), frcL cs k = k cs
  | [], _ => rfl
  | c :: cs, k => by
    show frc1 c (fun c => frcL cs fun cs => k (c :: cs)) = _
    rw [frc1_ok, frcL_ok cs]
noncomputable def frcV (v : AV) (k : AV → α) : α := match v with
  | .i s n => frcI n fun n => k (.i s n)
  | .b x => frcB x fun x => k (.b x)
  | .sl cs n t => frcL cs fun cs => frcN n fun n => k (.sl cs n t)
  | .agg cs => frcL cs fun cs => k (.agg cs)
  | .ptr cs => frcL cs fun cs => k (.ptr cs)
  | .mp a o => frcN a fun a => frcN o fun o => k (.mp a o)
  | .ms a o n => frcN a fun a => frcN o fun o => frcN n fun n => k (.ms a o n)
  | v => k v
theorem frcV_ok (v : AV) (k : AV → α) : frcV v k = k v := by
  cases v with
  | i s n => exact frcI_ok n fun n => k (.i s n)
  | b x => exact frcB_ok x fun x => k (.b x)
  | sl cs n t =>
    show frcL cs (fun cs => frcN n fun n => k (.sl cs n t)) = _
    rw [frcL_ok, frcN_ok]
  | agg cs => exact frcL_ok cs fun cs => k (.agg cs)
  | ptr cs => exact frcL_ok cs fun cs => k (.ptr cs)
  | mp a o =>
    show frcN a (fun a => frcN o fun o => k (.mp a o)) = _
    rw [frcN_ok, frcN_ok]
  | ms a o n =>
    show frcN a (fun a => frcN o fun o => frcN n fun n => k (.ms a o n)) = _
    rw [frcN_ok, frcN_ok, frcN_ok]
  | _ => rfl
end
noncomputable def mapO (f : AV → Option AV) (cs : List AV) : Option (List AV) := List.rec (motive := fun _ => Option (List AV)) (some []) (fun c _ ih => match f c with
  | some c => (match ih with | some cs => some (c :: cs) | none => none)
  | none => none) cs
noncomputable def frzK (hp : Nat → Option Blk) (k : Nat) : AV → Option AV := Nat.rec (motive := fun _ => AV → Option AV) (fun _ => none) (fun _ ih v => match v with
  | .agg cs => (match mapO ih cs with | some cs => some (.agg cs) | none => none)
  | .tup cs => (match mapO ih cs with | some cs => some (.tup cs) | none => none)
  | .sl cs n _ => some (.sl cs n .non)
  | .mp id off => (match hp id with
    | some (.cells cs _) => (match mapO ih (cs.drop off) with | some cs => some (.ptr cs) | none => none)
    | _ => none)
  | .ms id off n => (match hp id with
    | some (.cells cs _) => (match mapO ih (cs.drop off) with | some cs => some (.sl cs n .non) | none => none)
    | _ => none)
  | .fn f a b => (match mapO ih a with
    | some a => (match mapO ih b with | some b => some (.fn f a b) | none => none)
    | none => none)
  | .ifc t v => (match ih v with | some v => some (.ifc t v) | none => none)
  | .mm _ => none
  | v => some v) k
noncomputable def frzLK (hp : Nat → Option Blk) (k : Nat) (cs : List AV) : Option (List AV) := mapO (frzK hp k) cs
theorem mapO_cons (f c cs) : mapO f (c :: cs) = (match f c with
  | some c => (match mapO f cs with | some cs => some (c :: cs) | none => none)
  | none => none) := rfl
theorem mapO_frz (hp : Nat → Option Blk) (k : Nat) (h : ∀ v, frzK hp k v = frz hp k v) : ∀ cs, mapO (frzK hp k) cs = frzL hp k cs
  | [] => by simp only [frzL]; rfl
  | c :: cs => by
    rw [mapO_cons, mapO_frz hp k h cs, h c]
    simp only [frzL]
    cases frz hp k c <;> cases frzL hp k cs <;> rfl
theorem frzK_ok (hp : Nat → Option Blk) : ∀ (k : Nat) (v : AV), frzK hp k v = frz hp k v
  | 0, v => by simp only [frz]; rfl
  | k + 1, v => by
    have hl := mapO_frz hp k (frzK_ok hp k)
    have e : frzK hp (k + 1) v = (match v with
      | .agg cs => (match mapO (frzK hp k) cs with | some cs => some (.agg cs) | none => none)
      | .tup cs => (match mapO (frzK hp k) cs with | some cs => some (.tup cs) | none => none)
      | .sl cs n _ => some (.sl cs n .non)
      | .mp id off => (match hp id with
        | some (.cells cs _) => (match mapO (frzK hp k) (cs.drop off) with | some cs => some (.ptr cs) | none => none)
        | _ => none)
      | .ms id off n => (match hp id with
        | some (.cells cs _) => (match mapO (frzK hp k) (cs.drop off) with | some cs => some (.sl cs n .non) | none => none)
        | _ => none)
      | .fn f a b => (match mapO (frzK hp k) a with
        | some a => (match mapO (frzK hp k) b with | some b => some (.fn f a b) | none => none)
        | none => none)
      | .ifc t v => (match frzK hp k v with | some v => some (.ifc t v) | none => none)
      | .mm _ => none
      | v => some v) := rfl
    rw [e]
    simp only [hl, frzK_ok hp k]
    cases v with
    | agg cs => simp only [frz]; cases frzL hp k cs <;> rfl
    | tup cs => simp only [frz]; cases frzL hp k cs <;> rfl
    | mp id off =>
      simp only [frz]
      cases hp id with
      | none => rfl
      | some b =>
        cases b with
        | cells cs ro => simp only; cases frzL hp k (cs.drop off) <;> rfl
        | _ => rfl
    | ms id off n =>
      simp only [frz]
      cases hp id with
      | none => rfl
      | some b =>
        cases b with
        | cells cs ro => simp only; cases frzL hp k (cs.drop off) <;> rfl
        | _ => rfl
    | fn f a b =>
      simp only [frz]
      cases frzL hp k a <;> cases frzL hp k b <;> rfl
    | ifc t v => simp only [frz]; cases frz hp k v <;> rfl
    | _ => simp only [frz]
theorem frzLK_ok (hp : Nat → Option Blk) (k : Nat) (cs : List AV) : frzLK hp k cs = frzL hp k cs := mapO_frz hp k (frzK_ok hp k) cs
noncomputable def kBoxI (v : AV) (g : G) : Option (AV × G) :=
  if (cellsOf v).all one then vMapL .ptr g (frzLK (fun _ => none) depth (cellsOf v)) else none
noncomputable def kBsl (id : Nat) (imm : Bool) (n : Nat) (cs : Option (List AV)) (g : G) : Option (AV × G) := match cs with
  | none => none
  | some cs =>
    if imm then vMapL (fun cs => .sl cs n .rig) g (frzLK (fun _ => none) depth cs)
    else some (.ms id 0 n, ⟨upd g.hp id (some (.cells cs false)), g.nx⟩)
noncomputable def kSrc (al : Nat → Bool) (esz : Nat) (y : AV) (g : G) : Option (List AV × Nat) := match y with
  | .sl ds m _ => some (ds, m)
  | .ms b off m => match rd g al b with
    | some (.cells ds _) => match frzLK (fun _ => none) depth ((ds.drop off).take (m * esz)) with
      | some ds => some (ds, m)
      | none => none
    | _ => none
  | _ => none
noncomputable def kApp (al : Nat → Bool) (id esz bytes : Nat) (x y : AV) (g : G) : Option (AV × G) := match x with
  | .sl cs n t => match kSrc al esz y g with
    | none => none
    | some (ds, m) =>
      if (n + m) * bytes ≤ 2 ^ 46 ∧ n + m ≤ 2 ^ 62 ∧ cs.length = n * esz ∧ ds.length = m * esz then
        match t with
        | .non => none
        | .rig => if m = 0 then some (.sl cs n .rig, g) else some (.sl (cs ++ ds) (n + m) (.own id esz), ⟨upd g.hp id (some (.tok true)), g.nx⟩)
        | .own tk e => match rd g al tk with
          | some (.tok true) => if e = esz then some (.sl (cs ++ ds) (n + m) (.own id esz), ⟨upd (upd g.hp tk (some (.tok false))) id (some (.tok true)), g.nx⟩) else none
          | _ => none
      else none
  | _ => none
theorem kSrc_ok (al esz y g) : kSrc al esz y g = vSrc al esz y g := by unfold kSrc vSrc; simp only [frzLK_ok]; rfl
theorem kApp_ok (al id esz bytes x y g) : kApp al id esz bytes x y g = vApp al id esz bytes x y g := by
  unfold kApp vApp
  simp only [kSrc_ok]
  rfl
theorem kBsl_ok (id imm n cs g) : kBsl id imm n cs g = vBsl id imm n cs g := by unfold kBsl vBsl; simp only [frzLK_ok]; first | done | rfl
theorem kBoxI_ok (v g) : kBoxI v g = vBoxI v g := by unfold kBoxI vBoxI; simp only [frzLK_ok]; first | done | rfl
noncomputable def kCall (call : CS) (al : Nat → Bool) (id : Nat) (m : Mode) (f : AV) (args : List AV) (g : G) : Option (AV × G) := match f with
  | .fn fid fst caps => match m with
    | .raw => call fid (fst ++ args ++ caps) g
    | .pure => match frzLK (rd g al) depth (fst ++ args ++ caps) with
      | none => none
      | some bs => match call fid bs ⟨fun _ => none, 0⟩ with
        | none => none
        | some (v, g') => match frzK g'.hp depth v with
          | none => none
          | some v => if flat v || ((fst ++ args ++ caps).flatMap (vis (rd g al) depth)).isEmpty then some (v, g) else none
    | .lock => match frzLK (rd g al) depth (fst ++ args ++ caps) with
      | none => none
      | some bs => match call fid bs ⟨fun _ => none, 0⟩ with
        | none => none
        | some (v, g') => match frzK g'.hp depth v with
          | none => none
          | some v => some (v, ⟨lock g.hp ((fst ++ args ++ caps).flatMap (vis (rd g al) depth)), g.nx⟩)
    | .thaw => match frzLK (rd g al) depth (fst ++ args ++ caps) with
      | none => none
      | some bs => match call fid bs ⟨fun _ => none, 0⟩ with
        | some (.mp b 0, g') => match g'.hp b with
          | some (.cells cs false) => match frzLK g'.hp depth cs with
            | some cs' =>
              if ((fst ++ args ++ caps).flatMap (vis (rd g al) depth)).isEmpty && !(cs.flatMap (vis g'.hp depth)).contains b then some (.mp id 0, ⟨upd g.hp id (some (.cells cs' false)), g.nx⟩) else none
            | none => none
          | _ => none
        | _ => none
    | .melt => match frzLK (rd g al) depth (fst ++ args ++ caps) with
      | none => none
      | some bs => match call fid bs ⟨fun _ => none, 0⟩ with
        | some (.ms b 0 n, g') => match g'.hp b with
          | some (.cells cs false) => match frzLK g'.hp depth cs with
            | some cs' =>
              if ((fst ++ args ++ caps).flatMap (vis (rd g al) depth)).isEmpty && !(cs.flatMap (vis g'.hp depth)).contains b then some (.ms id 0 n, ⟨upd g.hp id (some (.cells cs' false)), g.nx⟩) else none
            | none => none
          | _ => none
        | _ => none
  | _ => none
theorem kCall_ok (call al id m f args g) : kCall call al id m f args g = vCall call al id m f args g := by
  unfold kCall vCall
  simp only [frzLK_ok, frzK_ok]
  rfl
abbrev Orc := Nat → List AV → Option AV
noncomputable def kev (b : Env) (t : ET) : Env := fun n => match t.get n with | some v => v | none => b n
noncomputable def putO {α : Type} (d : Option Nat) (v : AV) (t : ET) (k : ET → α) : α := match d with
  | some d => ET.putK v (d + 1) t d k
  | none => k t
theorem putO_ok {α : Type} (b : Env) (d : Option Nat) (v : AV) (t : ET) (k : ET → α) : ∃ t', putO d v t k = k t' ∧ kev b t' = put (kev b t) d v := by
  cases d with
  | none => exact ⟨t, rfl, rfl⟩
  | some d =>
    obtain ⟨t', h1, h2⟩ := ET.putK_ok v (d + 1) t d k (by omega)
    refine ⟨t', h1, ?_⟩
    funext j
    simp only [kev, put, upd, h2]
    by_cases e : j = d
    · simp only [if_pos e]
    · simp only [if_neg e]
noncomputable def ltI (a b : Int) : Bool := Int.rec (motive := fun _ => Bool) (fun m => Int.rec (motive := fun _ => Bool) (fun n => Nat.ble (Nat.add m 1) n) (fun _ => false) b) (fun m => Int.rec (motive := fun _ => Bool) (fun _ => true) (fun n => Nat.ble (Nat.add n 1) m) b) a
theorem ble_dec (m n : Nat) : Nat.ble m n = decide (m ≤ n) := by
  cases h : Nat.ble m n with
  | true => exact (decide_eq_true (Nat.le_of_ble_eq_true h)).symm
  | false => exact (decide_eq_false (fun hh => by rw [Nat.ble_eq_true_of_le hh] at h; cases h)).symm
theorem ltI_ok (a b : Int) : ltI a b = decide (a < b) := by
  cases a with
  | ofNat m =>
    cases b with
    | ofNat n =>
      show Nat.ble (m + 1) n = _
      rw [ble_dec, decide_eq_decide]
      show m + 1 ≤ n ↔ (m : Int) < (n : Int)
      omega
    | negSucc n =>
      show false = _
      refine (decide_eq_false ?_).symm
      show ¬ (m : Int) < Int.negSucc n
      omega
  | negSucc m =>
    cases b with
    | ofNat n =>
      show true = _
      refine (decide_eq_true ?_).symm
      show Int.negSucc m < (n : Int)
      omega
    | negSucc n =>
      show Nat.ble (n + 1) m = _
      rw [ble_dec, decide_eq_decide]
      omega
noncomputable def eqI (a b : Int) : Bool := Int.rec (motive := fun _ => Bool) (fun m => Int.rec (motive := fun _ => Bool) (fun n => Nat.beq m n) (fun _ => false) b) (fun m => Int.rec (motive := fun _ => Bool) (fun _ => false) (fun n => Nat.beq m n) b) a
theorem beq_dec (m n : Nat) : Nat.beq m n = decide (m = n) := by
  cases h : Nat.beq m n with
  | true => exact (decide_eq_true (Nat.eq_of_beq_eq_true h)).symm
  | false => exact (decide_eq_false (Nat.ne_of_beq_eq_false h)).symm
theorem eqI_ok (a b : Int) : eqI a b = (a == b) := by
  have e : (a == b) = decide (a = b) := by rw [Bool.eq_iff_iff]; simp
  rw [e]
  cases a with
  | ofNat m =>
    cases b with
    | ofNat n =>
      show Nat.beq m n = _
      rw [beq_dec, decide_eq_decide]
      show m = n ↔ (m : Int) = (n : Int)
      omega
    | negSucc n => exact (decide_eq_false (fun h => by cases h)).symm
  | negSucc m =>
    cases b with
    | ofNat n => exact (decide_eq_false (fun h => by cases h)).symm
    | negSucc n =>
      show Nat.beq m n = _
      rw [beq_dec, decide_eq_decide]
      omega
noncomputable def wrI (n : Int) : Int := Int.rec (motive := fun _ => Int) (fun m => Bool.rec (motive := fun _ => Int) (IntKind.i64.wrap (.ofNat m)) (.ofNat m) (Nat.ble m 9223372036854775807)) (fun m => Bool.rec (motive := fun _ => Int) (IntKind.i64.wrap (.negSucc m)) (.negSucc m) (Nat.ble m 9223372036854775807)) n
theorem wrI_in {x : Int} (h : -9223372036854775808 ≤ x) (h2 : x ≤ 9223372036854775807) : IntKind.i64.wrap x = x := by
  simp [IntKind.wrap, IntKind.bits, IntKind.signed]
  omega
theorem wrI_ok (n : Int) : wrI n = IntKind.i64.wrap n := by
  cases n with
  | ofNat m =>
    show Bool.rec (motive := fun _ => Int) (IntKind.i64.wrap (.ofNat m)) (.ofNat m) (Nat.ble m 9223372036854775807) = _
    rw [ble_dec]
    by_cases h : m ≤ 9223372036854775807
    · rw [decide_eq_true h]
      exact (wrI_in (x := (m : Int)) (by omega) (by omega)).symm
    · rw [decide_eq_false h]
  | negSucc m =>
    show Bool.rec (motive := fun _ => Int) (IntKind.i64.wrap (.negSucc m)) (.negSucc m) (Nat.ble m 9223372036854775807) = _
    rw [ble_dec]
    by_cases h : m ≤ 9223372036854775807
    · rw [decide_eq_true h]
      exact (wrI_in (x := Int.negSucc m) (by omega) (by omega)).symm
    · rw [decide_eq_false h]
noncomputable def addI (a b : Int) : Int := Int.rec (motive := fun _ => Int) (fun m => Int.rec (motive := fun _ => Int) (fun n => .ofNat (Nat.add m n)) (fun n => Int.add (.ofNat m) (.negSucc n)) b) (fun m => Int.add (.negSucc m) b) a
theorem addI_ok (a b : Int) : addI a b = a + b := by cases a <;> cases b <;> rfl
noncomputable def kII (op : BinOp) : Int → Int → Option AV := BinOp.casesOn (motive := fun _ => Int → Int → Option AV) op
  (fun a b => some (.i .i64 (wrI (addI a b)))) (fun a b => some (.i .i64 (wrI (Int.sub a b)))) (ibin .mul .i64) (ibin .quo .i64) (ibin .rem .i64) (ibin .and .i64) (ibin .or .i64) (ibin .xor .i64)
  (ishift .shl .i64) (ishift .shr .i64) (ibin .andNot .i64) (fun a b => some (.b (eqI a b))) (fun a b => some (.b (!eqI a b))) (fun a b => some (.b (ltI a b))) (fun a b => some (.b (!ltI b a))) (fun a b => some (.b (ltI b a))) (fun a b => some (.b (!ltI a b)))
theorem kII_ok (op : BinOp) (a b : Int) : kII op a b = abin op (.i .i64 a) (.i .i64 b) := by
  cases op
  · show some (AV.i .i64 (wrI (addI a b))) = _
    rw [wrI_ok, addI_ok]; simp [abin, ibin]
  · show some (AV.i .i64 (wrI (a - b))) = _
    rw [wrI_ok]; simp [abin, ibin]
  · show ibin .mul .i64 a b = _; simp [abin]
  · show ibin .quo .i64 a b = _; simp [abin]
  · show ibin .rem .i64 a b = _; simp [abin]
  · show ibin .and .i64 a b = _; simp [abin]
  · show ibin .or .i64 a b = _; simp [abin]
  · show ibin .xor .i64 a b = _; simp [abin]
  · show ishift .shl .i64 a b = _; simp [abin]
  · show ishift .shr .i64 a b = _; simp [abin]
  · show ibin .andNot .i64 a b = _; simp [abin]
  · show some (AV.b (eqI a b)) = _
    rw [eqI_ok]; simp [abin, ibin]
  · show some (AV.b (!eqI a b)) = _
    rw [eqI_ok]; simp only [abin, ibin, if_true]; rfl
  · show some (AV.b (ltI a b)) = _
    rw [ltI_ok]; simp [abin, ibin]
  · show some (AV.b (!ltI b a)) = _
    rw [ltI_ok]; simp [abin, ibin]
    rw [← decide_not, decide_eq_decide]; omega
  · show some (AV.b (ltI b a)) = _
    rw [ltI_ok]; simp [abin, ibin]
  · show some (AV.b (!ltI a b)) = _
    rw [ltI_ok]; simp [abin, ibin]
    rw [← decide_not, decide_eq_decide]; omega
noncomputable def kBin (op : BinOp) (x y : AV) : Option AV := match x with
  | .i k a => (match k with
    | .i64 => (match y with
      | .i k' b => (match k' with
        | .i64 => kII op a b
        | k' => abin op (.i .i64 a) (.i k' b))
      | y => abin op (.i .i64 a) y)
    | k => abin op (.i k a) y)
  | x => abin op x y
theorem kBin_ok (op : BinOp) (x y : AV) : kBin op x y = abin op x y := by
  cases x with
  | i k a =>
    cases k <;> first
      | rfl
      | (cases y with
        | i k' b => cases k' <;> first | rfl | exact kII_ok op a b
        | _ => rfl)
  | _ => rfl
noncomputable def frcR (r : Option (AV × G)) : Option (AV × G) := match r with
  | some (v, g) => frcV v fun v => some (v, g)
  | none => none
theorem frcR_ok (r : Option (AV × G)) : frcR r = r := by
  cases r with
  | none => rfl
  | some p =>
    obtain ⟨v, g⟩ := p
    show frcV v (fun v => some (v, g)) = _
    rw [frcV_ok]
abbrev KO := Orc → CS → (Nat → Bool) → Nat → Nat → Env → G → Option (AV × G)
noncomputable def ko_mv (x : Opd) : KO := fun _ _ _ _ _ e g => some (x.ev e, g)
noncomputable def ko_pick (c a b : Opd) : KO := fun _ _ _ _ _ e g => vPick (c.ev e) (a.ev e) (b.ev e) g
noncomputable def ko_new (zero : List AV) : KO := fun _ _ _ _ id _ g => some (.mp id 0, ⟨upd g.hp id (some (.cells zero false)), g.nx⟩)
noncomputable def ko_box (x : Opd) : KO := fun _ _ _ _ id e g => vBox id (x.ev e) g
noncomputable def ko_boxI (x : Opd) : KO := fun _ _ _ _ _ e g => kBoxI (x.ev e) g
noncomputable def ko_build (zero : List AV) (parts : List (Nat × Nat × Opd)) : KO := fun _ _ _ _ _ e g => frcR (vMapL .agg g (fill e zero parts))
noncomputable def ko_bsl (imm : Bool) (n : Nat) (zero : List AV) (parts : List (Nat × Nat × Opd)) : KO := fun _ _ _ _ id e g => frcR (kBsl id imm n (fill e zero parts) g)
noncomputable def ko_ld (agg : Option Nat) (x : Opd) : KO := fun _ _ al _ _ e g => vLd al agg (x.ev e) g
noncomputable def ko_st (n : Nat) (a x : Opd) : KO := fun _ _ al _ _ e g => vSt al n (a.ev e) (x.ev e) g
noncomputable def ko_stL (n : Nat) (a x : Opd) : KO := fun _ _ al lo _ e g => vSt (fun i => decide (lo ≤ i) && al i) n (a.ev e) (x.ev e) g
noncomputable def ko_ldF (agg : Option Nat) (x : Opd) : KO := fun _ _ al _ _ e g => vLdF al agg (x.ev e) g
noncomputable def ko_stW (n : Nat) (a x : Opd) : KO := fun _ _ al _ _ e g => vSt al n (a.ev e) (x.ev e) g
noncomputable def ko_ldQ (agg : Option Nat) (x : Opd) (t : Nat) : KO := fun _ _ al _ _ e g => vLdQ al agg (x.ev e) (e t) g
noncomputable def ko_stN (n : Nat) (a x : Opd) (ts : List Nat) : KO := fun _ _ al _ _ e g => vStN al n (a.ev e) (x.ev e) (ts.map e) g
noncomputable def ko_nilck (x : Opd) : KO := fun _ _ _ _ _ e g => vNil (x.ev e) g
noncomputable def ko_bin (op : BinOp) (x y : Opd) : KO := fun _ _ _ _ _ e g => frcR (vMap g (kBin op (x.ev e) (y.ev e)))
noncomputable def ko_eqb (neg : Bool) (x y : Opd) : KO := fun _ _ _ _ _ e g => frcR (vMap g (negb neg (aeqb (x.ev e) (y.ev e))))
noncomputable def ko_eqs (neg : Bool) (x : Opd) : KO := fun _ _ _ _ _ e g => frcR (vMap g (negb neg (aeqs (x.ev e))))
noncomputable def ko_eqn (neg : Bool) (x y : Opd) : KO := fun _ _ _ _ _ e g => frcR (vMap g (negb neg (aeqn (x.ev e) (y.ev e))))
noncomputable def ko_eqa (neg : Bool) (ks : List Nat) (x y : Opd) : KO := fun _ _ _ _ _ e g => frcR (vMap g (negb neg (aeqa ks (x.ev e) (y.ev e))))
noncomputable def ko_un (op : UnOp) (x : Opd) : KO := fun _ _ _ _ _ e g => frcR (vMap g (aun op (x.ev e)))
noncomputable def ko_conv (k : IntKind) (x : Opd) : KO := fun _ _ _ _ _ e g => frcR (vConv k (x.ev e) g)
noncomputable def ko_mkfn (f : Nat) (fst caps : List Opd) : KO := fun _ _ _ _ _ e g => some (.fn f (fst.map (·.ev e)) (caps.map (·.ev e)), g)
noncomputable def ko_mkmap : KO := fun _ _ _ _ id _ g => some (.mm id, ⟨upd g.hp id (some (.map [])), g.nx⟩)
noncomputable def ko_mput (m k v : Opd) : KO := fun _ _ al _ _ e g => vMput al (m.ev e) (k.ev e) (v.ev e) g
noncomputable def ko_mget (m k : Opd) : KO := fun _ _ al _ _ e g => vMget al (m.ev e) (k.ev e) g
noncomputable def ko_mksl (zero : List AV) (esz bytes : Nat) (len cap : Opd) : KO := fun _ _ _ _ id e g => frcR (vMksl id zero esz bytes (len.ev e) (cap.ev e) g)
noncomputable def ko_slice (esz : Nat) (x : Opd) (lo hi mx : Option Opd) : KO := fun _ _ _ _ _ e g => frcR (vSlice esz (x.ev e) (evo e lo) (evo e hi) (evo e mx) g)
noncomputable def ko_fa (off : Nat) (x : Opd) : KO := fun _ _ _ _ _ e g => vFa off (x.ev e) g
noncomputable def ko_fld (off : Nat) (agg : Option Nat) (x : Opd) : KO := fun _ _ _ _ _ e g => vFld off agg (x.ev e) g
noncomputable def ko_ia (esz : Nat) (x i : Opd) : KO := fun _ _ _ _ _ e g => vIa esz (x.ev e) (i.ev e) g
noncomputable def ko_iaa (len esz : Nat) (x i : Opd) : KO := fun _ _ _ _ _ e g => vIaa len esz (x.ev e) (i.ev e) g
noncomputable def ko_idx (len esz : Nat) (agg : Option Nat) (x i : Opd) : KO := fun _ _ _ _ _ e g => vIdx len esz agg (x.ev e) (i.ev e) g
noncomputable def ko_sidx (x i : Opd) : KO := fun _ _ _ _ _ e g => frcR (vSidx (x.ev e) (i.ev e) g)
noncomputable def ko_ext (i : Nat) (x : Opd) : KO := fun _ _ _ _ _ e g => vExt i (x.ev e) g
noncomputable def ko_len (x : Opd) : KO := fun _ _ _ _ _ e g => vLen (x.ev e) g
noncomputable def ko_slen (x : Opd) : KO := fun _ _ _ _ _ e g => frcR (vSlen (x.ev e) g)
noncomputable def ko_sslice (x : Opd) (lo hi : Option Opd) : KO := fun _ _ _ _ _ e g => frcR (vSslice (x.ev e) (evo e lo) (evo e hi) g)
noncomputable def ko_mx (x y : Opd) : KO := fun _ _ _ _ _ e g => frcR (vMx (x.ev e) (y.ev e) g)
noncomputable def ko_mn (x y : Opd) : KO := fun _ _ _ _ _ e g => frcR (vMn (x.ev e) (y.ev e) g)
noncomputable def ko_app (esz bytes : Nat) (x y : Opd) : KO := fun _ _ al _ id e g => frcR (kApp al id esz bytes (x.ev e) (y.ev e) g)
noncomputable def ko_appM (esz bytes : Nat) (x y : Opd) : KO := fun _ _ al _ id e g => frcR (vAppM al id esz bytes (x.ev e) (y.ev e) g)
noncomputable def ko_clr (esz : Nat) (zero : List AV) (x : Opd) : KO := fun _ _ al _ _ e g => frcR (vClr al esz zero (x.ev e) g)
noncomputable def ko_cutM (esz : Nat) (x hi : Opd) : KO := fun _ _ al _ id e g => frcR (vCutM al id esz (x.ev e) (hi.ev e) g)
noncomputable def ko_bad : KO := fun _ _ _ _ _ _ _ => none
noncomputable def ko_pure (f : Opd) (args : List Opd) : KO := fun orc call al _ id e g => match f.ev e with
  | .fn fid fst caps => (match frzLK (rd g al) depth (fst ++ args.map (·.ev e) ++ caps) with
    | some bs => (match orc fid bs with
      | some v => frcV v fun v => if flat v || ((fst ++ args.map (·.ev e) ++ caps).flatMap (vis (rd g al) depth)).isEmpty then some (v, g) else none
      | none => frcR (kCall call al id .pure (f.ev e) (args.map (·.ev e)) g))
    | none => none)
  | _ => none
noncomputable def ko_call (m : Mode) (f : Opd) (args : List Opd) : KO := Mode.casesOn (motive := fun _ => KO) m (ko_pure f args)
  (fun _ call al _ id e g => frcR (kCall call al id .lock (f.ev e) (args.map (·.ev e)) g))
  (fun _ call al _ id e g => frcR (kCall call al id .thaw (f.ev e) (args.map (·.ev e)) g))
  (fun _ call al _ id e g => frcR (kCall call al id .raw (f.ev e) (args.map (·.ev e)) g))
  (fun _ call al _ id e g => frcR (kCall call al id .melt (f.ev e) (args.map (·.ev e)) g))
section
variable (orc : Orc)
noncomputable def opK (call : CS) (al : Nat → Bool) (lo id : Nat) (op : AOp) (e : Env) (g : G) : Option (AV × G) :=
  AOp.casesOn (motive := fun _ => KO) op ko_mv ko_pick ko_new ko_box ko_boxI ko_build ko_bsl ko_ld ko_ldF ko_ldQ ko_st ko_stL ko_stW ko_stN ko_nilck ko_bin ko_eqb ko_eqn ko_eqs ko_eqa ko_un ko_conv ko_mkfn ko_mkmap ko_mput ko_mget ko_mksl ko_slice ko_fa ko_fld ko_ia ko_iaa ko_idx ko_sidx ko_ext ko_len ko_slen ko_sslice ko_mx ko_mn ko_app ko_appM ko_cutM ko_clr ko_bad ko_call orc call al lo id e g
noncomputable def regK (call : CS) (b : Env) (draw : Bool) (base : Nat) (ops : List AOper) : Nat → ET → G → Option (ET × G) :=
  List.rec (motive := fun _ => Nat → ET → G → Option (ET × G)) (fun _ t g => some (t, g)) (fun o _ ih j t g =>
    match wanted (kev b t) o.grd with
    | true => match opK orc call (allow draw base o.pre) base (base + j) o.op (kev b t) g with
      | some (v, g) => putO o.dst v t fun t => ih (j + 1) t g
      | none => none
    | false => putO o.dst .undef t fun t => ih (j + 1) t g) ops
noncomputable def iterK (f : ET → G → Option (Out × ET × G)) (k : Nat) : ET → G → Option (Out × ET × G) :=
  Nat.rec (motive := fun _ => ET → G → Option (Out × ET × G)) (fun _ _ => none) (fun _ ih t g => match f t g with
    | some (.nrm, t, g) => ih t g
    | r => r) k
noncomputable def codeK (call : CS) (b : Env) (k : Nat) (c : ACode) : ET → G → Option (Out × ET × G) :=
  ACode.rec (motive := fun _ => ET → G → Option (Out × ET × G))
    (fun t g => some (.nrm, t, g))
    (fun draw ops t g => frcN g.nx fun base => frcN (base + ops.length) fun nx => match regK orc call b draw base ops 0 t ⟨g.hp, nx⟩ with
      | some (t, g) => some (.nrm, t, g)
      | none => none)
    (fun _ _ fa fb t g => match fa t g with
      | some (.nrm, t, g) => fb t g
      | r => r)
    (fun c _ _ ft ff t g => match c.ev (kev b t) with
      | .b x => Bool.rec (motive := fun _ => Option (Out × ET × G)) (ff t g) (ft t g) x
      | _ => none)
    (fun id _ fc t g => match fc t g with
      | some (.ext n, t, g) => some (Bool.rec (motive := fun _ => Out) (.ext n) .nrm (Nat.beq n id), t, g)
      | r => r)
    (fun n _ fc t g => fc t ⟨lock g.hp (vis g.hp depth (kev b t n)), g.nx⟩)
    (fun n _ fc t g => fc t ⟨lock g.hp (ids1 (kev b t n)), g.nx⟩)
    (fun n _ fc t g => match frzK g.hp depth (kev b t n) with
      | some v => ET.putK v (n + 1) t n fun t' => fc t' ⟨lock g.hp (vis g.hp depth (kev b t n)), g.nx⟩
      | none => none)
    (fun _ _ _ _ => none)
    (fun _ fc t g => fc t g)
    (fun t g => some (.nrm, t, g))
    (fun _ fc t g => iterK fc k t g)
    (fun id t g => some (.ext id, t, g))
    (fun t g => some (.ret, t, g)) c
variable (F : Funs)
noncomputable def callK (k : Nat) : CS :=
  Nat.rec (motive := fun _ => CS) (fun _ _ _ => none) (fun k ih f args g => match F f with
    | none => none
    | some fn => match codeK orc ih (argEnv args) k fn.body .leaf g with
      | some (.nrm, t, g) => (resE fn.res (kev (argEnv args) t) g).map (·, g)
      | some (.ret, t, g) => (resE fn.res (kev (argEnv args) t) g).map (·, g)
      | _ => none) k
end
def OrcOk (F : Funs) (orc : Orc) : Prop := ∀ f bs v, orc f bs = some v → pureS F f bs = some v
section
variable {F : Funs} {orc : Orc} (ho : OrcOk F orc)
include ho
theorem opK_ok {call : CS} (hc : CLe call (callS F)) {al lo id op e g r} (h : opK orc call al lo id op e g = some r) : opE (callS F) al lo id op e g = some r := by
  cases op with
  | boxI x =>
    have h : kBoxI (x.ev e) g = some r := h
    rw [kBoxI_ok] at h; exact h
  | build z ps =>
    have h : frcR (vMapL .agg g (fill e z ps)) = some r := h
    rw [frcR_ok] at h; exact h
  | bsl imm n z ps =>
    have h : frcR (kBsl id imm n (fill e z ps) g) = some r := h
    rw [frcR_ok, kBsl_ok] at h; exact h
  | bin o x y =>
    have h : frcR (vMap g (kBin o (x.ev e) (y.ev e))) = some r := h
    rw [frcR_ok, kBin_ok] at h; exact h
  | eqb neg x y =>
    have h : frcR (vMap g (negb neg (aeqb (x.ev e) (y.ev e)))) = some r := h
    rw [frcR_ok] at h; exact h
  | eqn neg x y =>
    have h : frcR (vMap g (negb neg (aeqn (x.ev e) (y.ev e)))) = some r := h
    rw [frcR_ok] at h; exact h
  | eqs neg x =>
    have h : frcR (vMap g (negb neg (aeqs (x.ev e)))) = some r := h
    rw [frcR_ok] at h; exact h
  | eqa neg ks x y =>
    have h : frcR (vMap g (negb neg (aeqa ks (x.ev e) (y.ev e)))) = some r := h
    rw [frcR_ok] at h; exact h
  | un o x =>
    have h : frcR (vMap g (aun o (x.ev e))) = some r := h
    rw [frcR_ok] at h; exact h
  | conv k x =>
    have h : frcR (vConv k (x.ev e) g) = some r := h
    rw [frcR_ok] at h; exact h
  | mksl z esz bytes len cap =>
    have h : frcR (vMksl id z esz bytes (len.ev e) (cap.ev e) g) = some r := h
    rw [frcR_ok] at h; exact h
  | slice esz x lo' hi mx =>
    have h : frcR (vSlice esz (x.ev e) (evo e lo') (evo e hi) (evo e mx) g) = some r := h
    rw [frcR_ok] at h; exact h
  | sidx x i =>
    have h : frcR (vSidx (x.ev e) (i.ev e) g) = some r := h
    rw [frcR_ok] at h; exact h
  | slen x =>
    have h : frcR (vSlen (x.ev e) g) = some r := h
    rw [frcR_ok] at h; exact h
  | sslice x lo' hi =>
    have h : frcR (vSslice (x.ev e) (evo e lo') (evo e hi) g) = some r := h
    rw [frcR_ok] at h; exact h
  | mx x y =>
    have h : frcR (vMx (x.ev e) (y.ev e) g) = some r := h
    rw [frcR_ok] at h; exact h
  | mn x y =>
    have h : frcR (vMn (x.ev e) (y.ev e) g) = some r := h
    rw [frcR_ok] at h; exact h
  | app esz bytes x y =>
    have h : frcR (kApp al id esz bytes (x.ev e) (y.ev e) g) = some r := h
    rw [frcR_ok, kApp_ok] at h; exact h
  | appM esz bytes x y =>
    have h : frcR (vAppM al id esz bytes (x.ev e) (y.ev e) g) = some r := h
    rw [frcR_ok] at h; exact h
  | clr esz z x =>
    have h : frcR (vClr al esz z (x.ev e) g) = some r := h
    rw [frcR_ok] at h; exact h
  | cutM esz x hi =>
    have h : frcR (vCutM al id esz (x.ev e) (hi.ev e) g) = some r := h
    rw [frcR_ok] at h; exact h
  | bad => cases h
  | call m f args =>
    cases m with
    | raw =>
      have h : frcR (kCall call al id .raw (f.ev e) (args.map (·.ev e)) g) = some r := h
      rw [frcR_ok, kCall_ok] at h
      exact opE_mono (op := .call .raw f args) hc h
    | lock =>
      have h : frcR (kCall call al id .lock (f.ev e) (args.map (·.ev e)) g) = some r := h
      rw [frcR_ok, kCall_ok] at h
      exact opE_mono (op := .call .lock f args) hc h
    | thaw =>
      have h : frcR (kCall call al id .thaw (f.ev e) (args.map (·.ev e)) g) = some r := h
      rw [frcR_ok, kCall_ok] at h
      exact opE_mono (op := .call .thaw f args) hc h
    | melt =>
      have h : frcR (kCall call al id .melt (f.ev e) (args.map (·.ev e)) g) = some r := h
      rw [frcR_ok, kCall_ok] at h
      exact opE_mono (op := .call .melt f args) hc h
    | pure =>
      have h : ko_pure f args orc call al lo id e g = some r := h
      unfold ko_pure at h
      split at h
      · rename_i fid fst caps hf
        split at h
        · rename_i bs hb
          split at h
          · rename_i v hv
            rw [frcV_ok] at h
            split at h
            · rename_i hfl
              cases h
              show vPure F al (f.ev e) (args.map (·.ev e)) g = _
              rw [hf]
              rw [frzLK_ok] at hb
              exact vPure_ok hb (ho _ _ _ hv) hfl
            · cases h
          · rw [frcR_ok, kCall_ok] at h
            exact opE_mono (op := .call .pure f args) hc h
        · cases h
      · cases h
  | _ => exact h
theorem regK_ok {call : CS} (hc : CLe call (callS F)) {b : Env} {draw : Bool} {base : Nat} : ∀ {ops : List AOper} {j : Nat} {t : ET} {g : G} {t' g'}, regK orc call b draw base ops j t g = some (t', g') → regE (callS F) draw base j ops (kev b t) g = some (kev b t', g')
  | [], j, t, g, t', g', h => by cases h; rfl
  | o :: os, j, t, g, t', g', h => by
    have h : (match wanted (kev b t) o.grd with
      | true => match opK orc call (allow draw base o.pre) base (base + j) o.op (kev b t) g with
        | some (v, g) => putO o.dst v t fun t => regK orc call b draw base os (j + 1) t g
        | none => none
      | false => putO o.dst .undef t fun t => regK orc call b draw base os (j + 1) t g) = some (t', g') := h
    simp only [regE]
    cases hw : wanted (kev b t) o.grd with
    | true =>
      rw [hw] at h
      simp only [if_true]
      cases hop : opK orc call (allow draw base o.pre) base (base + j) o.op (kev b t) g with
      | none => rw [hop] at h; cases h
      | some r =>
        obtain ⟨v, g1⟩ := r
        rw [hop] at h
        simp only at h
        rw [opK_ok ho hc hop]
        obtain ⟨t1, e1, e2⟩ := putO_ok b o.dst v t fun t => regK orc call b draw base os (j + 1) t g1
        rw [e1] at h
        simp only
        rw [← e2]
        exact regK_ok hc h
    | false =>
      rw [hw] at h
      simp only [Bool.false_eq_true, if_false]
      obtain ⟨t1, e1, e2⟩ := putO_ok b o.dst .undef t fun t => regK orc call b draw base os (j + 1) t g
      simp only [e1] at h
      rw [← e2]
      exact regK_ok hc h
theorem codeK_ok {call : CS} (hc : CLe call (callS F)) {b : Env} {k : Nat} : ∀ {c : ACode} {t : ET} {g : G} {o t' g'}, codeK orc call b k c t g = some (o, t', g') → codeS F c (kev b t) g = some (o, kev b t', g') := by
  intro c
  induction c with
  | skip => intro t g o t' g' h; cases h; exact codeS_skip F _ _
  | lab => intro t g o t' g' h; cases h; exact codeS_lab F _ _
  | ext id => intro t g o t' g' h; cases h; exact codeS_ext F _ _ _
  | ret => intro t g o t' g' h; cases h; exact codeS_ret F _ _
  | scp c ih => intro t g o t' g' h; rw [codeS_scp]; exact ih h
  | lck n c ih => intro t g o t' g' h; rw [codeS_lck]; exact ih h
  | lckS n c ih => intro t g o t' g' h; rw [codeS_lckS]; exact ih h
  | tmp c ih =>
    intro t g o t' g' h
    have h : (none : Option (Out × ET × G)) = some (o, t', g') := h
    cases h
  | imm n c ih =>
    intro t g o t' g' h
    have h : (match frzK g.hp depth (kev b t n) with
      | some v => ET.putK v (n + 1) t n fun t' => codeK orc call b k c t' ⟨lock g.hp (vis g.hp depth (kev b t n)), g.nx⟩
      | none => none) = some (o, t', g') := h
    rw [frzK_ok] at h
    rw [codeS_imm]
    cases hf : frz g.hp depth (kev b t n) with
    | none => rw [hf] at h; cases h
    | some v =>
      rw [hf] at h
      obtain ⟨t1, e1, e2⟩ := putO_ok b (some n) v t fun t' => codeK orc call b k c t' ⟨lock g.hp (vis g.hp depth (kev b t n)), g.nx⟩
      have e1' : ET.putK v (n + 1) t n (fun t' => codeK orc call b k c t' ⟨lock g.hp (vis g.hp depth (kev b t n)), g.nx⟩) = _ := e1
      simp only [e1'] at h
      have e3 : upd (kev b t) n v = kev b t1 := e2.symm
      simp only [e3]
      exact ih h
  | reg draw ops =>
    intro t g o t' g' h
    have h : (frcN g.nx fun base => frcN (base + ops.length) fun nx => match regK orc call b draw base ops 0 t ⟨g.hp, nx⟩ with
      | some (t, g) => some (Out.nrm, t, g)
      | none => none) = some (o, t', g') := h
    simp only [frcN_ok] at h
    rw [codeS_reg]
    cases hr : regK orc call b draw g.nx ops 0 t ⟨g.hp, g.nx + ops.length⟩ with
    | none => rw [hr] at h; cases h
    | some r =>
      obtain ⟨t1, g1⟩ := r
      rw [hr] at h
      cases h
      rw [regK_ok ho hc hr]
  | seq x y ihx ihy =>
    intro t g o t' g' h
    have h : (match codeK orc call b k x t g with
      | some (.nrm, t, g) => codeK orc call b k y t g
      | r => r) = some (o, t', g') := h
    rw [codeS_seq]
    cases hx : codeK orc call b k x t g with
    | none => rw [hx] at h; cases h
    | some r =>
      obtain ⟨o1, t1, g1⟩ := r
      rw [hx] at h
      rw [ihx hx]
      cases o1 with
      | nrm => exact ihy h
      | ext n => cases h; rfl
      | ret => cases h; rfl
  | cond x y z ihy ihz =>
    intro t g o t' g' h
    have h : (match x.ev (kev b t) with
      | .b w => Bool.rec (motive := fun _ => Option (Out × ET × G)) (codeK orc call b k z t g) (codeK orc call b k y t g) w
      | _ => none) = some (o, t', g') := h
    rw [codeS_cond]
    generalize x.ev (kev b t) = v at h ⊢
    cases v with
    | b w =>
      cases w with
      | true => exact ihy h
      | false => exact ihz h
    | _ => cases h
  | blk id c ih =>
    intro t g o t' g' h
    have h : (match codeK orc call b k c t g with
      | some (.ext n, t, g) => some (Bool.rec (motive := fun _ => Out) (.ext n) .nrm (Nat.beq n id), t, g)
      | r => r) = some (o, t', g') := h
    rw [codeS_blk]
    cases hx : codeK orc call b k c t g with
    | none => rw [hx] at h; cases h
    | some r =>
      obtain ⟨o1, t1, g1⟩ := r
      rw [hx] at h
      rw [ih hx]
      cases o1 with
      | nrm => cases h; rfl
      | ret => cases h; rfl
      | ext n =>
        simp only at h ⊢
        cases hb : Nat.beq n id with
        | true => rw [hb] at h; cases h; rw [if_pos (Nat.eq_of_beq_eq_true hb)]
        | false => rw [hb] at h; cases h; rw [if_neg (Nat.ne_of_beq_eq_false hb)]
  | loop c ih =>
    intro t g o t' g' h
    have key : ∀ (j : Nat) (t : ET) (g : G), iterK (codeK orc call b k c) j t g = some (o, t', g') → codeS F (.loop c) (kev b t) g = some (o, kev b t', g') := by
      intro j
      induction j with
      | zero => intro t g h; cases h
      | succ j ihj =>
        intro t g h
        have h : (match codeK orc call b k c t g with
          | some (.nrm, t, g) => iterK (codeK orc call b k c) j t g
          | r => r) = some (o, t', g') := h
        rw [codeS_loop]
        cases hx : codeK orc call b k c t g with
        | none => rw [hx] at h; cases h
        | some r =>
          obtain ⟨o1, t1, g1⟩ := r
          rw [hx] at h
          rw [ih hx]
          cases o1 with
          | nrm => exact ihj _ _ h
          | ext n => cases h; rfl
          | ret => cases h; rfl
    exact key k t g h
theorem callK_ok : ∀ (k : Nat), CLe (callK orc F k) (callS F)
  | 0 => fun _ _ _ _ h => by cases h
  | k + 1 => fun f asx g r h => by
    have h : (match F f with
      | none => none
      | some fn => match codeK orc (callK orc F k) (argEnv asx) k fn.body .leaf g with
        | some (.nrm, t, g) => (resE fn.res (kev (argEnv asx) t) g).map (·, g)
        | some (.ret, t, g) => (resE fn.res (kev (argEnv asx) t) g).map (·, g)
        | _ => none) = some r := h
    rw [callS_eq]
    cases hF : F f with
    | none => rw [hF] at h; cases h
    | some fn =>
      rw [hF] at h
      simp only at h ⊢
      have e0 : kev (argEnv asx) .leaf = argEnv asx := rfl
      cases hx : codeK orc (callK orc F k) (argEnv asx) k fn.body .leaf g with
      | none => rw [hx] at h; cases h
      | some q =>
        obtain ⟨o1, t1, g1⟩ := q
        rw [hx] at h
        have := codeK_ok ho (callK_ok k) hx
        rw [e0] at this
        rw [this]
        cases o1 with
        | nrm => exact h
        | ext n => cases h
        | ret => exact h
noncomputable def evK (orc : Orc) (F : Funs) (k : Nat) (rs : List ARes) (c : ACode) (e : Env) (g : G) : Bool :=
  match codeK orc (callK orc F k) e k c .leaf g with
  | some (.nrm, t, g) => (match resE rs (kev e t) g with | some v => (match frzK g.hp depth v with | some (.b x) => x | _ => false) | none => false)
  | some (.ret, t, g) => (match resE rs (kev e t) g with | some v => (match frzK g.hp depth v with | some (.b x) => x | _ => false) | none => false)
  | _ => false
theorem W_eval (k : Nat) {rs : List ARes} {c : ACode} {e : Env} {g : G} (h : evK orc F k rs c e g = true) : W F c e g (retQ rs (.b true)) := by
  unfold evK at h
  have fin : ∀ (t : ET) (g : G), (match resE rs (kev e t) g with | some v => (match frzK g.hp depth v with | some (.b x) => x | _ => false) | none => false) = true → (match resE rs (kev e t) g with | some v0 => frz g.hp depth v0 | none => none) = some (.b true) := by
    intro t g h
    cases hr : resE rs (kev e t) g with
    | none => rw [hr] at h; cases h
    | some v =>
      rw [hr] at h
      simp only [frzK_ok] at h ⊢
      cases hf : frz g.hp depth v with
      | none => rw [hf] at h; cases h
      | some w =>
        rw [hf] at h
        cases w <;> first | (cases h; done) | (simp only at h; subst h; rfl)
  split at h
  · rename_i t g1 hx
    exact ⟨_, _, _, codeK_ok ho (callK_ok ho k) hx, fin t g1 h⟩
  · rename_i t g1 hx
    exact ⟨_, _, _, codeK_ok ho (callK_ok ho k) hx, fin t g1 h⟩
  · cases h
theorem pure_eval (k : Nat) {f : Nat} {fn : AFun} {asx : List AV} (hF : F f = some fn) (h : evK orc F k fn.res fn.body (argEnv asx) g0 = true) : pureS F f asx = some (.b true) :=
  pure_of hF (W_eval ho k h)
end
def orc0 : Orc := fun _ _ => none
theorem orc0_ok (F : Funs) : OrcOk F orc0 := fun _ _ _ h => by cases h
end Go.Ab
end
section
set_option linter.unusedVariables false
set_option linter.unusedSimpArgs false
namespace Go.Ab
variable {F : Funs}
def Lst (R : Rw) (zs : List Nat) : Prop := zs.length = 40 ∧ ∀ a, a < 40 → (R a).toNat = zs.getD a 0
theorem Lst.cells {n : Nat} {R : Rw} {zs : List Nat} (h : Lst R zs) : relC n R = .i .i64 n :: zs.map fun (x : Nat) => .i .u64 (x : Int) := by
  show AV.i .i64 (n : Int) :: rowsC R = _
  congr 1
  refine List.ext_getElem? fun i => ?_
  by_cases hi : i < 40
  · rw [rowsC_get hi, List.getElem?_map, List.getElem?_eq_getElem (by rw [h.1]; exact hi)]
    simp only [Option.map_some, U]
    rw [h.2 i hi, List.getD_eq_getElem?_getD, List.getElem?_eq_getElem (by rw [h.1]; exact hi), Option.getD_some]
  · rw [List.getElem?_eq_none (by rw [rowsC_len]; omega), List.getElem?_eq_none (by rw [List.length_map, h.1]; omega)]
noncomputable def newRow (n a : Nat) (l : List (Int × Int)) : Nat := List.rec (motive := fun _ => Nat) 0 (fun p _ ih => match p with
  | (.ofNat x, .ofNat y) => Bool.rec (motive := fun _ => Nat) ih (Bool.rec (motive := fun _ => Nat) ih (Nat.lor (Nat.shiftLeft 1 y) ih) (Nat.ble (Nat.add y 1) n)) (Nat.beq x a)
  | _ => ih) l
end Go.Ab
end
section
set_option linter.unusedVariables false
set_option maxRecDepth 100000
namespace Go.Proofs.Ytoldeneclhbcbaa
open Go.Ab
theorem gp_awake : pureS funs 153 [] = some (.b true) := pure_eval (orc0_ok funs) 1000 (fn := A_xlaw06_awake) rfl (by kernel_rfl)
theorem graphPo_law (sizes : List Int) (locs : Int) (t : Tok) : pureS funs 139 [.sl (intsC sizes) sizes.length t, .i .i64 locs] = some (.b true) :=
  sp_graphPo rfl gp_awake rfl rfl rfl pk_rel ⟨rfl, rfl, rfl⟩ ⟨rfl, rfl, rfl, rfl, rfl, rfl, rfl, rfl, rfl, rfl, rfl, rfl, ⟨rfl, rfl, rfl⟩⟩ sizes locs t
end Go.Proofs.Ytoldeneclhbcbaa
end
