/- What ImmFences rests on, part 3: lemmas, no claim of its own. -/
import Derived.Test.YtkiecemdbkjccaaPImmFences2
section
set_option linter.unusedVariables false
namespace Go.Ab
def lckG (g : G) (v : AV) : G := ⟨lock g.hp (vis g.hp depth v), g.nx⟩
section
variable (F : Funs)
def W (c : ACode) (e : Env) (g : G) (Q : Out → Env → G → Prop) : Prop := ∃ o e' g', codeS F c e g = some (o, e', g') ∧ Q o e' g'
def WR (d : Bool) (b j : Nat) (ops : List AOper) (e : Env) (g : G) (K : Env → G → Prop) : Prop := ∃ e' g', regE (callS F) d b j ops e g = some (e', g') ∧ K e' g'
def thenQ (b : ACode) (Q : Out → Env → G → Prop) : Out → Env → G → Prop
  | .nrm, e, g => W F b e g Q
  | o, e, g => Q o e g
def selW (t f : ACode) (e : Env) (g : G) (Q : Out → Env → G → Prop) : AV → Prop
  | .b true => W F t e g Q
  | .b false => W F f e g Q
  | _ => False
def blkQ (id : Nat) (Q : Out → Env → G → Prop) : Out → Env → G → Prop
  | .ext n, e, g => if n = id then Q .nrm e g else Q (.ext n) e g
  | o, e, g => Q o e g
def nrmQ (Q : Out → Env → G → Prop) (e : Env) (g : G) : Prop := Q .nrm e g
def bindO (d : Bool) (b j : Nat) (dst : Option Nat) (os : List AOper) (e : Env) (K : Env → G → Prop) : Option (AV × G) → Prop
  | some (v, g) => WR F d b j os (put e dst v) g K
  | none => False
def selO (d : Bool) (b j : Nat) (dst : Option Nat) (os : List AOper) (e : Env) (op : AOp) (pre : List Nat) (g : G) (K : Env → G → Prop) (w : Bool) : Prop :=
  if w then bindO F d b (j + 1) dst os e K (opE (callS F) (allow d b pre) b (b + j) op e g) else WR F d b (j + 1) os (put e dst .undef) g K
end
section
variable {F : Funs}
theorem W_skip {e g Q} : W F .skip e g Q = Q .nrm e g := by
  unfold W; rw [codeS_skip]; apply propext
  exact ⟨fun ⟨o, e', g', h, q⟩ => by cases h; exact q, fun q => ⟨_, _, _, rfl, q⟩⟩
theorem W_ext {id e g Q} : W F (.ext id) e g Q = Q (.ext id) e g := by
  unfold W; rw [codeS_ext]; apply propext
  exact ⟨fun ⟨o, e', g', h, q⟩ => by cases h; exact q, fun q => ⟨_, _, _, rfl, q⟩⟩
theorem W_ret {e g Q} : W F .ret e g Q = Q .ret e g := by
  unfold W; rw [codeS_ret]; apply propext
  exact ⟨fun ⟨o, e', g', h, q⟩ => by cases h; exact q, fun q => ⟨_, _, _, rfl, q⟩⟩
theorem W_seq {a b e g Q} : W F (.seq a b) e g Q = W F a e g (thenQ F b Q) := by
  unfold W; rw [cS_seq]; apply propext
  constructor
  · intro ⟨o, e', g', h, q⟩
    cases hc : codeS F a e g with
    | none => rw [hc] at h; cases h
    | some r =>
      obtain ⟨o1, e1, g1⟩ := r
      rw [hc] at h
      refine ⟨o1, e1, g1, rfl, ?_⟩
      cases o1 with
      | nrm => exact ⟨o, e', g', h, q⟩
      | ext n => cases h; exact q
      | ret => cases h; exact q
  · intro ⟨o, e', g', h, q⟩
    rw [h]
    cases o with
    | nrm => exact q
    | ext n => exact ⟨_, _, _, rfl, q⟩
    | ret => exact ⟨_, _, _, rfl, q⟩
theorem thenQ_nrm {b Q e g} : thenQ F b Q .nrm e g = W F b e g Q := rfl
theorem thenQ_ext {b Q n e g} : thenQ F b Q (.ext n) e g = Q (.ext n) e g := rfl
theorem thenQ_ret {b Q e g} : thenQ F b Q .ret e g = Q .ret e g := rfl
theorem W_cond {c t f e g Q} : W F (.cond c t f) e g Q = selW F t f e g Q (c.ev e) := by
  unfold W; rw [cS_cond]; apply propext
  generalize c.ev e = v
  cases v <;> simp only [selS, selW] <;> try (constructor <;> (intro h; first | exact h.elim | (obtain ⟨_, _, _, h, _⟩ := h; cases h)))
  rename_i x
  cases x <;> simp [W]
theorem selW_true {t f e g Q} : selW F t f e g Q (.b true) = W F t e g Q := rfl
theorem selW_false {t f e g Q} : selW F t f e g Q (.b false) = W F f e g Q := rfl
theorem W_imm {t c e g Q v} (h : frz g.hp depth (e t) = some v) : W F (.imm t c) e g Q = W F c (upd e t v) (lckG g (e t)) Q := by
  unfold W; rw [codeS_imm, h]; rfl
theorem W_immM {t : Nat} {c : ACode} {e : Env} {g : G} {Q : Out → Env → G → Prop} (M : Env → G → Prop) (h0 : M e g) (h : ∀ e g, M e g → W F (.imm t c) e g Q) : W F (.imm t c) e g Q := h e g h0
theorem W_scp {c e g Q} : W F (.scp c) e g Q = W F c e g Q := by unfold W; rw [codeS_scp]
theorem W_lab {e g Q} : W F .lab e g Q = Q .nrm e g := by
  unfold W; rw [codeS_lab]; apply propext
  exact ⟨fun ⟨o, e', g', h, q⟩ => by cases h; exact q, fun q => ⟨_, _, _, rfl, q⟩⟩
theorem W_blk {id c e g Q} : W F (.blk id c) e g Q = W F c e g (blkQ id Q) := by
  unfold W; rw [cS_blk]; apply propext
  constructor
  · intro ⟨o, e', g', h, q⟩
    cases hc : codeS F c e g with
    | none => rw [hc] at h; cases h
    | some r =>
      obtain ⟨o1, e1, g1⟩ := r
      rw [hc] at h
      refine ⟨o1, e1, g1, rfl, ?_⟩
      cases o1 with
      | nrm => cases h; exact q
      | ext n =>
        cases h
        show if n = id then _ else _
        split
        · rename_i hn; rw [if_pos hn] at q; exact q
        · rename_i hn; rw [if_neg hn] at q; exact q
      | ret => cases h; exact q
  · intro ⟨o, e', g', h, q⟩
    rw [h]
    cases o with
    | nrm => exact ⟨_, _, _, rfl, q⟩
    | ext n =>
      refine ⟨_, _, _, rfl, ?_⟩
      have q : if n = id then Q .nrm e' g' else Q (.ext n) e' g' := q
      split
      · rename_i hn; rw [if_pos hn] at q; exact q
      · rename_i hn; rw [if_neg hn] at q; exact q
    | ret => exact ⟨_, _, _, rfl, q⟩
theorem blkQ_nrm {id Q e g} : blkQ id Q .nrm e g = Q .nrm e g := rfl
theorem blkQ_ret {id Q e g} : blkQ id Q .ret e g = Q .ret e g := rfl
theorem blkQ_same {id Q e g} : blkQ id Q (.ext id) e g = Q .nrm e g := if_pos rfl
theorem blkQ_ne {id n Q e g} (h : n ≠ id) : blkQ id Q (.ext n) e g = Q (.ext n) e g := if_neg h
theorem W_reg {d ops e g Q} : W F (.reg d ops) e g Q = WR F d g.nx 0 ops e ⟨g.hp, g.nx + ops.length⟩ (nrmQ Q) := by
  unfold W WR; rw [cS_reg]; apply propext
  constructor
  · intro ⟨o, e', g', h, q⟩
    cases hc : regE (callS F) d g.nx 0 ops e ⟨g.hp, g.nx + ops.length⟩ with
    | none => rw [hc] at h; cases h
    | some r =>
      rw [hc] at h
      cases h
      exact ⟨_, _, rfl, q⟩
  · intro ⟨e', g', h, q⟩
    rw [h]
    exact ⟨.nrm, e', g', rfl, q⟩
theorem nrmQ_is {Q e g} : nrmQ Q e g = Q .nrm e g := rfl
theorem WR_nil {d b j e g K} : WR F d b j [] e g K = K e g := by
  unfold WR; apply propext
  simp only [regE_nil]
  exact ⟨fun ⟨e', g', h, q⟩ => by cases h; exact q, fun q => ⟨_, _, rfl, q⟩⟩
theorem WR_cons {d b j dst op grd pre os e g K} : WR F d b j ({ dst, op, grd, pre } :: os) e g K = selO F d b j dst os e op pre g K (wanted e grd) := by
  unfold WR; rw [regE_cons]
  generalize wanted e grd = w
  cases w
  · rfl
  · rw [selR_true]
    show _ = bindO _ _ _ _ _ _ _ _ _
    cases opE (callS F) (allow d b pre) b (b + j) op e g with
    | none =>
      apply propext
      constructor
      · intro ⟨_, _, h, _⟩; cases h
      · intro h; exact False.elim h
    | some r => rfl
theorem selO_true {d b j dst os e op pre g K} : selO F d b j dst os e op pre g K true = bindO F d b (j + 1) dst os e K (opE (callS F) (allow d b pre) b (b + j) op e g) := rfl
theorem selO_false {d b j dst os e op pre g K} : selO F d b j dst os e op pre g K false = WR F d b (j + 1) os (put e dst .undef) g K := rfl
theorem bindO_some {d b j dst os e K v g} : bindO F d b j dst os e K (some (v, g)) = WR F d b j os (put e dst v) g K := rfl
theorem W_mono {c e g} {Q Q' : Out → Env → G → Prop} (h : W F c e g Q) (hq : ∀ o e g, Q o e g → Q' o e g) : W F c e g Q' := by
  obtain ⟨o, e', g', h1, h2⟩ := h; exact ⟨o, e', g', h1, hq _ _ _ h2⟩
def loopQ (I : Nat → Env → G → Prop) (m : Nat) (Q : Out → Env → G → Prop) : Out → Env → G → Prop
  | .nrm, e, g => ∃ m', m' < m ∧ I m' e g
  | o, e, g => Q o e g
theorem loopQ_nrm {I m Q e g} : loopQ I m Q .nrm e g = ∃ m', m' < m ∧ I m' e g := rfl
theorem loopQ_ext {I m Q n e g} : loopQ I m Q (.ext n) e g = Q (.ext n) e g := rfl
theorem loopQ_ret {I m Q e g} : loopQ I m Q .ret e g = Q .ret e g := rfl
theorem W_loop {c e g Q} (I : Nat → Env → G → Prop) (n : Nat) (h0 : I n e g) (h : ∀ m e g, I m e g → W F c e g (loopQ I m Q)) : W F (.loop c) e g Q := by
  have key : ∀ m e g, I m e g → W F (.loop c) e g Q := by
    intro m
    induction m using Nat.strongRecOn with
    | _ m ih =>
      intro e g hI
      obtain ⟨o, e1, g1, h1, h2⟩ := h m e g hI
      unfold W
      rw [cS_loop, h1]
      cases o with
      | nrm =>
        obtain ⟨m', hm, hI'⟩ := h2
        exact ih m' hm e1 g1 hI'
      | ext n => exact ⟨_, _, _, rfl, h2⟩
      | ret => exact ⟨_, _, _, rfl, h2⟩
  exact key n e g h0
noncomputable def pureS (F : Funs) (f : Nat) (asx : List AV) : Option AV := match callS F f asx g0 with
  | some (v, g) => frz g.hp depth v
  | none => none
noncomputable def vPure (F : Funs) (al : Nat → Bool) (f : AV) (args : List AV) (g : G) : Option (AV × G) := vCall (callS F) al 0 .pure f args g
theorem o_pure {al lo id e g} (f : Opd) (asx : List Opd) : opE (callS F) al lo id (.call .pure f asx) e g = vPure F al (f.ev e) (asx.map (·.ev e)) g := rfl
theorem vPure_ok {al : Nat → Bool} {fid : Nat} {fst caps args bs : List AV} {g : G} {v : AV} (h1 : frzL (rd g al) depth (fst ++ args ++ caps) = some bs) (h2 : pureS F fid bs = some v) (h3 : (flat v || ((fst ++ args ++ caps).flatMap (vis (rd g al) depth)).isEmpty) = true) :
    vPure F al (.fn fid fst caps) args g = some (v, g) := by
  unfold pureS at h2
  split at h2
  · rename_i v0 g' hc
    have hc' : callS F fid bs ⟨fun _ => none, 0⟩ = some (v0, g') := hc
    unfold vPure vCall
    simp only [h1, hc', h2, h3, if_true]
  · cases h2
def retQ (rs : List ARes) (v : AV) : Out → Env → G → Prop
  | .ext _, _, _ => False
  | _, e, g => (match resE rs e g with | some v0 => frz g.hp depth v0 | none => none) = some v
theorem retQ_nrm {rs v e g} : retQ rs v .nrm e g = ((match resE rs e g with | some v0 => frz g.hp depth v0 | none => none) = some v) := rfl
theorem retQ_ret {rs v e g} : retQ rs v .ret e g = ((match resE rs e g with | some v0 => frz g.hp depth v0 | none => none) = some v) := rfl
theorem pure_of {f : Nat} {fn : AFun} {asx : List AV} {v : AV} (hF : F f = some fn) (h : W F fn.body (argEnv asx) g0 (retQ fn.res v)) : pureS F f asx = some v := by
  obtain ⟨o, e, g, h1, h2⟩ := h
  unfold pureS
  rw [callS_eq, hF]
  simp only [h1]
  cases o with
  | ext n => exact h2.elim
  | nrm =>
    have h2 : (match resE fn.res e g with | some v0 => frz g.hp depth v0 | none => none) = some v := h2
    cases hr : resE fn.res e g with
    | none => rw [hr] at h2; cases h2
    | some v0 => rw [hr] at h2; simp only [hr, Option.map_some]; exact h2
  | ret =>
    have h2 : (match resE fn.res e g with | some v0 => frz g.hp depth v0 | none => none) = some v := h2
    cases hr : resE fn.res e g with
    | none => rw [hr] at h2; cases h2
    | some v0 => rw [hr] at h2; simp only [hr, Option.map_some]; exact h2
end
theorem argEnv_0 (a l) : argEnv (a :: l) 0 = a := rfl
theorem argEnv_1 (a b l) : argEnv (a :: b :: l) 1 = b := rfl
theorem argEnv_2 (a b c l) : argEnv (a :: b :: c :: l) 2 = c := rfl
theorem argEnv_3 (a b c d l) : argEnv (a :: b :: c :: d :: l) 3 = d := rfl
theorem argEnv_4 (a b c d e l) : argEnv (a :: b :: c :: d :: e :: l) 4 = e := rfl
theorem argEnv_5 (a b c d e f l) : argEnv (a :: b :: c :: d :: e :: f :: l) 5 = f := rfl
theorem res_1 (n e g) : resE [.t n] e g = some (e n) := rfl
theorem res_2 (n m e g) : resE [.t n, .t m] e g = some (.tup [e n, e m]) := rfl
theorem frz_flat {hp} {d : Nat} {v : AV} (h : flat v = true) : frz hp (d + 1) v = some v := by cases v <;> first | (cases h; done) | simp only [frz]
theorem frzL_flat {hp} {d : Nat} : ∀ {cs : List AV}, cs.all flat = true → frzL hp (d + 1) cs = some cs
  | [], _ => by simp only [frzL]
  | c :: cs, h => by
    simp only [List.all_cons, Bool.and_eq_true] at h
    simp only [frzL, frz_flat h.1, frzL_flat h.2]
theorem frzL_nil (hp d) : frzL hp d [] = some [] := by simp only [frzL]
def consO (c : Option AV) (cs : Option (List AV)) : Option (List AV) := match c, cs with
  | some c, some cs => some (c :: cs)
  | _, _ => none
theorem consO_ok (c cs) : consO (some c) (some cs) = some (c :: cs) := rfl
theorem frzL_cons (hp d c cs) : frzL hp d (c :: cs) = consO (frz hp d c) (frzL hp d cs) := by
  simp only [frzL]
  cases frz hp d c <;> cases frzL hp d cs <;> rfl
theorem frz_d_i (hp k n) : frz hp depth (.i k n) = some (.i k n) := by show frz hp (8 + 1) _ = _; simp only [frz]
theorem frz_d_b (hp x) : frz hp depth (.b x) = some (.b x) := by show frz hp (8 + 1) _ = _; simp only [frz]
theorem frz_d_s (hp x) : frz hp depth (.s x) = some (.s x) := by show frz hp (8 + 1) _ = _; simp only [frz]
theorem frz_d_nilp (hp) : frz hp depth .nilp = some .nilp := by show frz hp (8 + 1) _ = _; simp only [frz]
theorem frz_d_ptr (hp cs) : frz hp depth (.ptr cs) = some (.ptr cs) := by show frz hp (8 + 1) _ = _; simp only [frz]
theorem frz_d_sl (hp cs n t) : frz hp depth (.sl cs n t) = some (.sl cs n .non) := by show frz hp (8 + 1) _ = _; simp only [frz]
theorem frz_d_mp {hp : Nat → Option Blk} {id off cs ro ds} (h : hp id = some (.cells cs ro)) (hf : frzL hp 8 (cs.drop off) = some ds) : frz hp depth (.mp id off) = some (.ptr ds) := by
  show frz hp (8 + 1) _ = _
  simp only [frz, h, hf, Option.map_some]
theorem frz_d_fn0 (hp f) : frz hp depth (.fn f [] []) = some (.fn f [] []) := by show frz hp (8 + 1) _ = _; simp only [frz, frzL]
noncomputable def frzB (hp : Nat → Option Blk) (off : Nat) (cs : List AV) (x : Bool) : Option (List AV) := if x then some (cs.drop off) else frzL hp 8 (cs.drop off)
noncomputable def frzP (hp : Nat → Option Blk) (off : Nat) (f : List AV → AV) : Option Blk → Option AV
  | some (.cells cs _) => (frzB hp off cs (cs.all flat)).map f
  | _ => none
theorem frzB_eq (hp : Nat → Option Blk) (off : Nat) (cs : List AV) : frzB hp off cs (cs.all flat) = frzL hp 8 (cs.drop off) := by
  unfold frzB
  split
  · rename_i hf
    refine (frzL_flat ?_).symm
    rw [List.all_eq_true] at hf ⊢
    exact fun x hx => hf x (List.mem_of_mem_drop hx)
  · rfl
theorem frz_P (hp : Nat → Option Blk) (id off : Nat) : frz hp depth (.mp id off) = frzP hp off .ptr (hp id) := by
  show frz hp (8 + 1) _ = _
  simp only [frz]
  unfold frzP
  simp only [frzB_eq]
  cases hp id with
  | none => rfl
  | some b => cases b <;> rfl
theorem frz_Q (hp : Nat → Option Blk) (id off n : Nat) : frz hp depth (.ms id off n) = frzP hp off (fun cs => .sl cs n .non) (hp id) := by
  show frz hp (8 + 1) _ = _
  simp only [frz]
  unfold frzP
  simp only [frzB_eq]
  cases hp id with
  | none => rfl
  | some b => cases b <;> rfl
theorem frzP_cells (hp off f cs ro) : frzP hp off f (some (.cells cs ro)) = (frzB hp off cs (cs.all flat)).map f := rfl
theorem frzB_true (hp off cs) : frzB hp off cs true = some (cs.drop off) := rfl
theorem map_some' (f : List AV → AV) (cs : List AV) : (some cs).map f = some (f cs) := rfl
noncomputable def purD (g : G) (vs : List Nat) : Option AV → Option (AV × G)
  | some v => if flat v || vs.isEmpty then some (v, g) else none
  | none => none
def purE (g : G) (v : AV) (x : Bool) : Option (AV × G) := if x then some (v, g) else none
theorem purD_some (g vs v) : purD g vs (some v) = purE g v (flat v || vs.isEmpty) := rfl
theorem purE_true (g v) : purE g v true = some (v, g) := rfl
noncomputable def purS (F : Funs) (f : Nat) (g : G) (vs : List Nat) : Option (List AV) → Option (AV × G)
  | some bs => purD g vs (pureS F f bs)
  | none => none
theorem purS_some (F f g vs bs) : purS F f g vs (some bs) = purD g vs (pureS F f bs) := rfl
theorem vPure_S (F : Funs) (al : Nat → Bool) (fid : Nat) (fst args caps : List AV) (g : G) :
    vPure F al (.fn fid fst caps) args g = purS F fid g ((fst ++ args ++ caps).flatMap (vis (rd g al) depth)) (frzL (rd g al) depth (fst ++ args ++ caps)) := by
  unfold vPure vCall
  simp only
  cases frzL (rd g al) depth (fst ++ args ++ caps) with
  | none => rfl
  | some bs =>
    rw [purS_some]
    unfold pureS g0
    simp only
    cases callS F fid bs ⟨fun _ => none, 0⟩ with
    | none => rfl
    | some r =>
      obtain ⟨v, g'⟩ := r
      simp only
      cases frz g'.hp depth v with
      | none => rfl
      | some v' => rfl
theorem flat_i (k n) : flat (.i k n) = true := rfl
theorem flat_b (x) : flat (.b x) = true := rfl
theorem flat_s (x) : flat (.s x) = true := rfl
theorem flat_nilp : flat .nilp = true := rfl
theorem flat_ptr (x) : flat (.ptr x) = false := rfl
theorem flat_sl (a b c) : flat (.sl a b c) = false := rfl
theorem flat_agg (a) : flat (.agg a) = false := rfl
theorem flat_tup (a) : flat (.tup a) = false := rfl
theorem vis_i (hp k n) : vis hp depth (.i k n) = [] := by show vis hp (8 + 1) _ = _; simp only [vis]
theorem vis_b (hp x) : vis hp depth (.b x) = [] := by show vis hp (8 + 1) _ = _; simp only [vis]
theorem vis_s (hp x) : vis hp depth (.s x) = [] := by show vis hp (8 + 1) _ = _; simp only [vis]
theorem vis_nilp (hp) : vis hp depth .nilp = [] := by show vis hp (8 + 1) _ = _; simp only [vis]
theorem vis_ptr (hp x) : vis hp depth (.ptr x) = [] := by show vis hp (8 + 1) _ = _; simp only [vis]
theorem vis_sl (hp a b c) : vis hp depth (.sl a b c) = [] := by show vis hp (8 + 1) _ = _; simp only [vis]
theorem vis_fn0 (hp f) : vis hp depth (.fn f [] []) = [] := by show vis hp (8 + 1) _ = _; simp only [vis, List.flatMap_nil, List.append_nil]
theorem isEmpty_nil : ([] : List Nat).isEmpty = true := rfl
def midQ (M : Env → G → Prop) : Out → Env → G → Prop
  | .nrm, e, g => M e g
  | _, _, _ => False
theorem midQ_nrm {M e g} : midQ M .nrm e g = M e g := rfl
theorem midQ_then {F : Funs} {rest Q} {M : Env → G → Prop} (h2 : ∀ e g, M e g → W F rest e g Q) (o e g) (h : midQ M o e g) : thenQ F rest Q o e g := by
  cases o with
  | nrm => exact h2 e g h
  | ext n => exact h.elim
  | ret => exact h.elim
theorem W_cut {F : Funs} {c rest e g Q} (M : Env → G → Prop) (h1 : W F c e g (midQ M)) (h2 : ∀ e g, M e g → W F rest e g Q) : W F c e g (thenQ F rest Q) := W_mono h1 (midQ_then h2)
theorem frz_b_inv {hp : Nat → Option Blk} {k : Nat} {v : AV} {b : Bool} (h : frz hp (k + 1) v = some (.b b)) : v = .b b := by
  cases v with
  | b x => simp only [frz] at h; cases h; rfl
  | agg cs => simp only [frz] at h; cases hf : frzL hp k cs <;> rw [hf] at h <;> cases h
  | tup cs => simp only [frz] at h; cases hf : frzL hp k cs <;> rw [hf] at h <;> cases h
  | mp id off =>
    simp only [frz] at h
    split at h
    · cases hf : frzL hp k (List.drop off _) <;> rw [hf] at h <;> cases h
    · cases h
  | ms id off n =>
    simp only [frz] at h
    split at h
    · cases hf : frzL hp k (List.drop off _) <;> rw [hf] at h <;> cases h
    · cases h
  | fn f asx bs => simp only [frz] at h; split at h <;> cases h
  | ifc t w => simp only [frz] at h; cases hf : frz hp k w <;> rw [hf] at h <;> cases h
  | _ => simp only [frz] at h; cases h
theorem pureS_bool {F : Funs} {f : Nat} {asx : List AV} {b : Bool} (h : pureS F f asx = some (.b b)) : ∃ k g', callE F k f asx g0 = some (.b b, g') := by
  unfold pureS at h
  split at h
  · rename_i v g hc
    have := frz_b_inv (k := 8) h
    subst this
    obtain ⟨k, hk⟩ := (callS_some F).1 hc
    exact ⟨k, g, hk⟩
  · cases h
def retB (rs : List ARes) (P : Bool → Prop) : Out → Env → G → Prop
  | .ext _, _, _ => False
  | _, e, g => ∃ b, resE rs e g = some (.b b) ∧ P b
theorem retB_nrm {rs P e g} : retB rs P .nrm e g = (∃ b, resE rs e g = some (.b b) ∧ P b) := rfl
theorem retB_ret {rs P e g} : retB rs P .ret e g = (∃ b, resE rs e g = some (.b b) ∧ P b) := rfl
theorem blk_cut {F : Funs} {c rest : ACode} {id : Nat} {e : Env} {g : G} {Q : Out → Env → G → Prop} (M : Env → G → Prop) (h1 : W F c e g (blkQ id (midQ M))) (h2 : ∀ e g, M e g → W F rest e g Q) : W F c e g (blkQ id (thenQ F rest Q)) := by
  refine W_mono h1 fun o e g h => ?_
  cases o with
  | nrm => exact h2 e g h
  | ret => exact h.elim
  | ext n =>
    have h : if n = id then midQ M .nrm e g else midQ M (.ext n) e g := h
    show if n = id then thenQ F rest Q .nrm e g else thenQ F rest Q (.ext n) e g
    by_cases hn : n = id
    · rw [if_pos hn] at h ⊢; exact h2 e g h
    · rw [if_neg hn] at h; exact h.elim
def midR (Q : Out → Env → G → Prop) (M : Env → G → Prop) : Out → Env → G → Prop
  | .nrm, e, g => M e g
  | .ret, e, g => Q .ret e g
  | .ext _, _, _ => False
theorem midR_nrm {Q M e g} : midR Q M .nrm e g = M e g := rfl
theorem midR_ret {Q M e g} : midR Q M .ret e g = Q .ret e g := rfl
theorem blk_cutR {F : Funs} {c rest : ACode} {id : Nat} {e : Env} {g : G} {Q : Out → Env → G → Prop} (M : Env → G → Prop) (h1 : W F c e g (blkQ id (midR Q M))) (h2 : ∀ e g, M e g → W F rest e g Q) : W F c e g (blkQ id (thenQ F rest Q)) := by
  refine W_mono h1 fun o e g h => ?_
  cases o with
  | nrm => exact h2 e g h
  | ret => exact h
  | ext n =>
    have h : if n = id then midR Q M .nrm e g else midR Q M (.ext n) e g := h
    show if n = id then thenQ F rest Q .nrm e g else thenQ F rest Q (.ext n) e g
    by_cases hn : n = id
    · rw [if_pos hn] at h ⊢; exact h2 e g h
    · rw [if_neg hn] at h; exact h.elim
set_option maxRecDepth 10000 in
theorem wp : type_of% (And.intro (And.intro (And.intro (And.intro (And.intro (And.intro (And.intro @W_skip (And.intro @W_ext @W_ret)) (And.intro (And.intro @W_seq @thenQ_nrm) (And.intro @thenQ_ext @thenQ_ret))) (And.intro (And.intro (And.intro @W_cond @selW_true) (And.intro @selW_false @W_blk)) (And.intro (And.intro @blkQ_nrm @blkQ_ret) (And.intro @blkQ_same @blkQ_ne)))) (And.intro (And.intro (And.intro @W_reg (And.intro @nrmQ_is @WR_nil)) (And.intro (And.intro @WR_cons @selO_true) (And.intro @selO_false @bindO_some))) (And.intro (And.intro (And.intro @loopQ_nrm @loopQ_ext) (And.intro @loopQ_ret @wanted_none)) (And.intro (And.intro @wanted_some @wantV_1) (And.intro @wantV_0 @wantV_undef))))) (And.intro (And.intro (And.intro (And.intro @ev_t (And.intro @ev_c @put_some)) (And.intro (And.intro @put_none @upd_same) (And.intro @upd_ne @List.length_cons.{0}))) (And.intro (And.intro (And.intro @List.length_nil.{0} @List.map_cons.{0, 0}) (And.intro @List.map_nil.{0, 0} @allow_no)) (And.intro (And.intro @allow_lt @argEnv_0) (And.intro @argEnv_1 @argEnv_2)))) (And.intro (And.intro (And.intro (And.intro @argEnv_3 @argEnv_4) (And.intro @argEnv_5 @res_1)) (And.intro (And.intro @res_2 @retQ_nrm) (And.intro @retQ_ret @o_mv))) (And.intro (And.intro (And.intro @o_pick @vPick_t) (And.intro @vPick_f @o_new)) (And.intro (And.intro @o_box @vBox_S) (And.intro @boxD_ok @vMap_some)))))) (And.intro (And.intro (And.intro (And.intro (And.intro @vMapL_some (And.intro @o_build @o_ld)) (And.intro (And.intro @vLd_ptr @vLd_S) (And.intro @ldS_ok @selB_true))) (And.intro (And.intro (And.intro @o_st @vSt_S) (And.intro @stS_ok @stD_ok)) (And.intro (And.intro @o_nilck @vNil_ptr) (And.intro @vNil_mp @vNil_fn)))) (And.intro (And.intro (And.intro (And.intro @o_bin @o_un) (And.intro @o_mkfn @o_fa)) (And.intro (And.intro @vFa_mp @vFa_S) (And.intro @faD_ok @o_fld))) (And.intro (And.intro (And.intro @vFld_agg @o_ia) (And.intro @vIa_sl @vIa_ms)) (And.intro (And.intro @o_iaa @vIaa_ptr) (And.intro @vIaa_mp @o_len))))) (And.intro (And.intro (And.intro (And.intro @vLen_sl (And.intro @vLen_ms @o_mx)) (And.intro (And.intro @o_mn @vMx_i) (And.intro @vMn_i @o_ext))) (And.intro (And.intro (And.intro @vExt_tup @b_add) (And.intro @b_sub @b_mul)) (And.intro (And.intro @b_lss @b_leq) (And.intro @b_gtr @b_geq)))) (And.intro (And.intro (And.intro (And.intro @b_eql @b_neq) (And.intro @o_pure @List.nil_append.{0})) (And.intro (And.intro @List.append_nil.{0} @List.cons_append.{0}) (And.intro @frz_d_i @frz_d_b))) (And.intro (And.intro (And.intro @frz_d_s @frz_d_nilp) (And.intro @frz_d_ptr @frz_d_sl)) (And.intro (And.intro @frz_d_fn0 @Bool.not_true) (And.intro @Bool.not_false @Bool.true_and))))))) (And.intro (And.intro (And.intro (And.intro (And.intro (And.intro @Bool.and_true (And.intro @Bool.false_and @Bool.and_false)) (And.intro (And.intro @decide_true @decide_false) (And.intro @beq_self_eq_true.{0} @Bool.true_eq_false))) (And.intro (And.intro (And.intro @Bool.false_eq_true @Nat.zero_add) (And.intro @Nat.add_zero @Int.toNat_natCast)) (And.intro (And.intro @ge_iff_le.{0} @gt_iff_lt.{0}) (And.intro @fill_S @fillD_ok)))) (And.intro (And.intro (And.intro (And.intro @fill_nil @cellsOf_agg) (And.intro @cellsOf_i @cellsOf_b)) (And.intro (And.intro @cellsOf_s @cellsOf_ptr) (And.intro @cellsOf_nilp @cellsOf_sl))) (And.intro (And.intro (And.intro @cellsOf_mp @cellsOf_fn) (And.intro @one_i @one_b)) (And.intro (And.intro @one_s @one_ptr) (And.intro @one_nilp @one_sl))))) (And.intro (And.intro (And.intro (And.intro @one_mp (And.intro @one_fn @List.all_cons.{0})) (And.intro (And.intro @List.all_nil.{0} @splice_1) (And.intro @splice_2 @splice_3))) (And.intro (And.intro (And.intro @part_0 @part_1) (And.intro @part_2 @drop_0)) (And.intro (And.intro @g0_nx @g0_hp) (And.intro @List.set_cons_zero.{0} @List.set_cons_succ.{0})))) (And.intro (And.intro (And.intro (And.intro @List.length_append.{0} @List.length_replicate.{0}) (And.intro @eq_self.{1} @true_and)) (And.intro (And.intro @and_true @vPure_S) (And.intro @purS_some @purD_some))) (And.intro (And.intro (And.intro @purE_true @frzL_cons) (And.intro @frzL_nil @consO_ok)) (And.intro (And.intro @flat_i @flat_b) (And.intro @flat_s @flat_nilp)))))) (And.intro (And.intro (And.intro (And.intro (And.intro @flat_ptr (And.intro @flat_sl @flat_agg)) (And.intro (And.intro @flat_tup @vis_i) (And.intro @vis_b @vis_s))) (And.intro (And.intro (And.intro @vis_nilp @vis_ptr) (And.intro @vis_sl @vis_fn0)) (And.intro (And.intro @List.flatMap_cons.{0, 0} @List.flatMap_nil.{0, 0}) (And.intro @isEmpty_nil @Bool.true_or)))) (And.intro (And.intro (And.intro (And.intro @Bool.false_or @Bool.or_true) (And.intro @Bool.or_false @frz_P)) (And.intro (And.intro @frz_Q @frzP_cells) (And.intro @frzB_true @map_some'))) (And.intro (And.intro (And.intro @rd_S @o_bsl) (And.intro @vBsl_t @vBsl_f)) (And.intro (And.intro @o_app @appD_ok) (And.intro @vApp_rig @vApp_rig0))))) (And.intro (And.intro (And.intro (And.intro @appK_ok (And.intro @vApp_own @o_eqn)) (And.intro (And.intro @o_eqb @o_eqa) (And.intro @aeqn_pn @aeqn_np))) (And.intro (And.intro (And.intro @aeqn_mn @aeqn_nn) (And.intro @aeqb_bb @negb_t)) (And.intro (And.intro @negb_f @aun_not) (And.intro @midQ_nrm @part_3)))) (And.intro (And.intro (And.intro (And.intro @part_4 @part_5) (And.intro @cellsOf_ms @one_ms)) (And.intro (And.intro @Int.toNat_zero @Nat.zero_mul) (And.intro @o_stL @andLe_ok))) (And.intro (And.intro (And.intro @allow_hd @allow_h2) (And.intro @retB_nrm @retB_ret)) (And.intro (And.intro @midR_nrm @midR_ret) (And.intro @W_scp @W_lab)))))))) := (And.intro (And.intro (And.intro (And.intro (And.intro (And.intro (And.intro @W_skip (And.intro @W_ext @W_ret)) (And.intro (And.intro @W_seq @thenQ_nrm) (And.intro @thenQ_ext @thenQ_ret))) (And.intro (And.intro (And.intro @W_cond @selW_true) (And.intro @selW_false @W_blk)) (And.intro (And.intro @blkQ_nrm @blkQ_ret) (And.intro @blkQ_same @blkQ_ne)))) (And.intro (And.intro (And.intro @W_reg (And.intro @nrmQ_is @WR_nil)) (And.intro (And.intro @WR_cons @selO_true) (And.intro @selO_false @bindO_some))) (And.intro (And.intro (And.intro @loopQ_nrm @loopQ_ext) (And.intro @loopQ_ret @wanted_none)) (And.intro (And.intro @wanted_some @wantV_1) (And.intro @wantV_0 @wantV_undef))))) (And.intro (And.intro (And.intro (And.intro @ev_t (And.intro @ev_c @put_some)) (And.intro (And.intro @put_none @upd_same) (And.intro @upd_ne @List.length_cons.{0}))) (And.intro (And.intro (And.intro @List.length_nil.{0} @List.map_cons.{0, 0}) (And.intro @List.map_nil.{0, 0} @allow_no)) (And.intro (And.intro @allow_lt @argEnv_0) (And.intro @argEnv_1 @argEnv_2)))) (And.intro (And.intro (And.intro (And.intro @argEnv_3 @argEnv_4) (And.intro @argEnv_5 @res_1)) (And.intro (And.intro @res_2 @retQ_nrm) (And.intro @retQ_ret @o_mv))) (And.intro (And.intro (And.intro @o_pick @vPick_t) (And.intro @vPick_f @o_new)) (And.intro (And.intro @o_box @vBox_S) (And.intro @boxD_ok @vMap_some)))))) (And.intro (And.intro (And.intro (And.intro (And.intro @vMapL_some (And.intro @o_build @o_ld)) (And.intro (And.intro @vLd_ptr @vLd_S) (And.intro @ldS_ok @selB_true))) (And.intro (And.intro (And.intro @o_st @vSt_S) (And.intro @stS_ok @stD_ok)) (And.intro (And.intro @o_nilck @vNil_ptr) (And.intro @vNil_mp @vNil_fn)))) (And.intro (And.intro (And.intro (And.intro @o_bin @o_un) (And.intro @o_mkfn @o_fa)) (And.intro (And.intro @vFa_mp @vFa_S) (And.intro @faD_ok @o_fld))) (And.intro (And.intro (And.intro @vFld_agg @o_ia) (And.intro @vIa_sl @vIa_ms)) (And.intro (And.intro @o_iaa @vIaa_ptr) (And.intro @vIaa_mp @o_len))))) (And.intro (And.intro (And.intro (And.intro @vLen_sl (And.intro @vLen_ms @o_mx)) (And.intro (And.intro @o_mn @vMx_i) (And.intro @vMn_i @o_ext))) (And.intro (And.intro (And.intro @vExt_tup @b_add) (And.intro @b_sub @b_mul)) (And.intro (And.intro @b_lss @b_leq) (And.intro @b_gtr @b_geq)))) (And.intro (And.intro (And.intro (And.intro @b_eql @b_neq) (And.intro @o_pure @List.nil_append.{0})) (And.intro (And.intro @List.append_nil.{0} @List.cons_append.{0}) (And.intro @frz_d_i @frz_d_b))) (And.intro (And.intro (And.intro @frz_d_s @frz_d_nilp) (And.intro @frz_d_ptr @frz_d_sl)) (And.intro (And.intro @frz_d_fn0 @Bool.not_true) (And.intro @Bool.not_false @Bool.true_and))))))) (And.intro (And.intro (And.intro (And.intro (And.intro (And.intro @Bool.and_true (And.intro @Bool.false_and @Bool.and_false)) (And.intro (And.intro @decide_true @decide_false) (And.intro @beq_self_eq_true.{0} @Bool.true_eq_false))) (And.intro (And.intro (And.intro @Bool.false_eq_true @Nat.zero_add) (And.intro @Nat.add_zero @Int.toNat_natCast)) (And.intro (And.intro @ge_iff_le.{0} @gt_iff_lt.{0}) (And.intro @fill_S @fillD_ok)))) (And.intro (And.intro (And.intro (And.intro @fill_nil @cellsOf_agg) (And.intro @cellsOf_i @cellsOf_b)) (And.intro (And.intro @cellsOf_s @cellsOf_ptr) (And.intro @cellsOf_nilp @cellsOf_sl))) (And.intro (And.intro (And.intro @cellsOf_mp @cellsOf_fn) (And.intro @one_i @one_b)) (And.intro (And.intro @one_s @one_ptr) (And.intro @one_nilp @one_sl))))) (And.intro (And.intro (And.intro (And.intro @one_mp (And.intro @one_fn @List.all_cons.{0})) (And.intro (And.intro @List.all_nil.{0} @splice_1) (And.intro @splice_2 @splice_3))) (And.intro (And.intro (And.intro @part_0 @part_1) (And.intro @part_2 @drop_0)) (And.intro (And.intro @g0_nx @g0_hp) (And.intro @List.set_cons_zero.{0} @List.set_cons_succ.{0})))) (And.intro (And.intro (And.intro (And.intro @List.length_append.{0} @List.length_replicate.{0}) (And.intro @eq_self.{1} @true_and)) (And.intro (And.intro @and_true @vPure_S) (And.intro @purS_some @purD_some))) (And.intro (And.intro (And.intro @purE_true @frzL_cons) (And.intro @frzL_nil @consO_ok)) (And.intro (And.intro @flat_i @flat_b) (And.intro @flat_s @flat_nilp)))))) (And.intro (And.intro (And.intro (And.intro (And.intro @flat_ptr (And.intro @flat_sl @flat_agg)) (And.intro (And.intro @flat_tup @vis_i) (And.intro @vis_b @vis_s))) (And.intro (And.intro (And.intro @vis_nilp @vis_ptr) (And.intro @vis_sl @vis_fn0)) (And.intro (And.intro @List.flatMap_cons.{0, 0} @List.flatMap_nil.{0, 0}) (And.intro @isEmpty_nil @Bool.true_or)))) (And.intro (And.intro (And.intro (And.intro @Bool.false_or @Bool.or_true) (And.intro @Bool.or_false @frz_P)) (And.intro (And.intro @frz_Q @frzP_cells) (And.intro @frzB_true @map_some'))) (And.intro (And.intro (And.intro @rd_S @o_bsl) (And.intro @vBsl_t @vBsl_f)) (And.intro (And.intro @o_app @appD_ok) (And.intro @vApp_rig @vApp_rig0))))) (And.intro (And.intro (And.intro (And.intro @appK_ok (And.intro @vApp_own @o_eqn)) (And.intro (And.intro @o_eqb @o_eqa) (And.intro @aeqn_pn @aeqn_np))) (And.intro (And.intro (And.intro @aeqn_mn @aeqn_nn) (And.intro @aeqb_bb @negb_t)) (And.intro (And.intro @negb_f @aun_not) (And.intro @midQ_nrm @part_3)))) (And.intro (And.intro (And.intro (And.intro @part_4 @part_5) (And.intro @cellsOf_ms @one_ms)) (And.intro (And.intro @Int.toNat_zero @Nat.zero_mul) (And.intro @o_stL @andLe_ok))) (And.intro (And.intro (And.intro @allow_hd @allow_h2) (And.intro @retB_nrm @retB_ret)) (And.intro (And.intro @midR_nrm @midR_ret) (And.intro @W_scp @W_lab))))))))
end Go.Ab
end
section
set_option linter.unusedVariables false
set_option linter.unusedSimpArgs false
namespace Go.Ab
open Go.RowKit
def c0 (num : Nat → Nat) (w : World) : Cx := ⟨num, w.heap.size, fun _ => True, w, fun _ => (0, 0), fun _ => none⟩
theorem row_calls {P : Program} {num : Nat → Nat} {F : Funs} (hT : Table P num F) (hm : P.follows .mixedOrders = true) {f : Nat} {asx : List AV} {b : Bool} (h : pureS F f asx = some (.b b)) {w : World} {vargs : List Value} (hr : Reps (c0 num w) true asx vargs) :
    Calls P (num f) vargs.toArray w (fun e w' => e = .returned (.bool b) ∧ Below w.heap.size w w') := by
  obtain ⟨k, g', hk⟩ := pureS_bool h
  have K : Ok (c0 num w) 0 := {
    basele := Nat.le_refl _
    cells := fun _ _ _ h => by cases h
    maps := fun _ _ h => by cases h
    toks := fun _ h => by cases h
    inj := fun _ _ _ h => by obtain ⟨_, h, _⟩ := h; cases h
    fresh := fun _ _ => rfl }
  have := ((callE_ok hT hm k).2 f asx g0 _ _ hk).2 (c0 num w) vargs rfl rfl K hr
  refine Calls.mono this.1 fun e w' ⟨val, c', h1, h2, E, _, _, hrep⟩ => ?_
  cases hrep
  exact ⟨h1, h2 ▸ E.below⟩
def intsC (l : List Int) : List AV := l.map fun v => .i .i64 v
def pairsC (l : List (Int × Int)) : List AV := l.flatMap fun p => [.i .i64 p.1, .i .i64 p.2]
end Go.Ab
end
section
set_option linter.unusedVariables false
set_option linter.unusedSimpArgs false
namespace Go.Ab
abbrev Rw := Nat → BitVec 64
def U (x : BitVec 64) : AV := .i .u64 (x.toNat : Int)
def rowsC (R : Rw) : List AV := (List.range 40).map fun a => U (R a)
def relC (n : Nat) (R : Rw) : List AV := .i .i64 n :: rowsC R
theorem rowsC_len (R : Rw) : (rowsC R).length = 40 := by simp [rowsC]
theorem relC_len (n : Nat) (R : Rw) : (relC n R).length = 41 := by simp [relC, rowsC_len]
theorem rowsC_get {R : Rw} {a : Nat} (h : a < 40) : (rowsC R)[a]? = some (U (R a)) := by
  simp [rowsC, h]
theorem relC_n (n : Nat) (R : Rw) : part (relC n R) 0 none = some (.i .i64 n) := rfl
theorem relC_row {n : Nat} {R : Rw} {a : Nat} (h : a < 40) : part (relC n R) (0 + 1 + a * 1) none = some (U (R a)) := by
  rw [show 0 + 1 + a * 1 = a + 1 by omega]
  simp only [part, relC, List.getElem?_cons_succ, rowsC_get h]
theorem relC_drop1 (n : Nat) (R : Rw) : (relC n R).drop 1 = rowsC R := rfl
theorem relC_row' {R : Rw} {a : Nat} (h : a < 40) : part ((rowsC R).drop (a * 1)) 0 none = some (U (R a)) := by
  simp only [part, List.getElem?_drop, Nat.mul_one, Nat.add_zero, rowsC_get h]
theorem relC_set {n : Nat} {R : Rw} {a : Nat} {x : BitVec 64} (h : a < 40) : splice (relC n R) (0 + 1 + a * 1) [U x] = relC n (upd R a x) := by
  rw [show 0 + 1 + a * 1 = a + 1 by omega]
  show (relC n R).set (a + 1) (U x) = _
  simp only [relC, List.set_cons_succ]
  congr 1
  refine List.ext_getElem? fun i => ?_
  rw [List.getElem?_set]
  by_cases hi : i < 40
  · rw [rowsC_get hi]
    by_cases ha : a = i
    · subst ha
      rw [if_pos rfl, if_pos (by rw [rowsC_len]; exact h), rowsC_get hi, upd_same]
    · have : i ≠ a := fun h => ha h.symm
      rw [if_neg ha, rowsC_get hi, upd_ne _ _ this]
  · have h1 : (rowsC R)[i]? = none := by rw [List.getElem?_eq_none]; rw [rowsC_len]; omega
    have h2 : (rowsC (upd R a x))[i]? = none := by rw [List.getElem?_eq_none]; rw [rowsC_len]; omega
    rw [h2, h1]
    have : a ≠ i := by omega
    simp [this]
theorem relC_set' {n : Nat} {R : Rw} {a : Nat} {x : BitVec 64} (h : a < 40) : (relC n R).set (0 + 1 + a * 1) (U x) = relC n (upd R a x) := relC_set h
theorem cellsOf_U (x : BitVec 64) : cellsOf (U x) = [U x] := rfl
theorem one_U (x : BitVec 64) : one (U x) = true := rfl
theorem relC_flat (n : Nat) (R : Rw) : (relC n R).all flat = true := by
  simp [relC, rowsC, U, flat]
theorem relC_one (n : Nat) (R : Rw) : (relC n R).all one = true := by
  simp [relC, rowsC, U, one]
def bit (b : Nat) : BitVec 64 := 1#64 <<< b
theorem u64_wrap {x : Nat} (h : x < 2 ^ 64) : IntKind.u64.wrap (x : Int) = x := by
  simp [IntKind.wrap, IntKind.bits, IntKind.signed, IntKind.min, IntKind.max]
  omega
theorem ofU (x : BitVec 64) : BitVec.ofInt IntKind.u64.bits (x.toNat : Int) = x := by
  show BitVec.ofInt 64 _ = _
  apply BitVec.eq_of_toNat_eq
  simp
theorem u_or (x y : BitVec 64) : abin .or (U x) (U y) = some (U (x ||| y)) := by
  simp only [abin, U, ibin, if_true, ofU]
  show some (AV.i .u64 (IntKind.u64.wrap (((x ||| y : BitVec 64).toNat : Nat) : Int))) = _
  rw [u64_wrap (x ||| y : BitVec 64).isLt]
theorem u_and (x y : BitVec 64) : abin .and (U x) (U y) = some (U (x &&& y)) := by
  simp only [abin, U, ibin, if_true, ofU]
  show some (AV.i .u64 (IntKind.u64.wrap (((x &&& y : BitVec 64).toNat : Nat) : Int))) = _
  rw [u64_wrap (x &&& y : BitVec 64).isLt]
theorem u_andNot (x y : BitVec 64) : abin .andNot (U x) (U y) = some (U (x &&& ~~~ y)) := by
  simp only [abin, U, ibin, if_true, ofU]
  show some (AV.i .u64 (IntKind.u64.wrap (((x &&& ~~~ y : BitVec 64).toNat : Nat) : Int))) = _
  rw [u64_wrap (x &&& ~~~ y : BitVec 64).isLt]
theorem u_shl {b : Int} (h0 : 0 ≤ b) (h : b < 40) : abin .shl (.i .u64 1) (.i .i64 b) = some (U (bit b.toNat)) := by
  obtain ⟨k, rfl⟩ : ∃ k : Nat, b = k := ⟨b.toNat, by omega⟩
  have hk : k < 40 := by omega
  simp only [abin, ishift]
  rw [if_neg (by omega)]
  rw [show min ((k : Int)).toNat IntKind.u64.bits = k by show min k 64 = k; omega]
  have h2 : (2 ^ k : Nat) < 2 ^ 64 := Nat.pow_lt_pow_right (by omega) (by omega)
  have : (1 : Int) * 2 ^ k = ((2 ^ k : Nat) : Int) := by simp
  rw [this, u64_wrap h2]
  simp only [U, bit, Int.toNat_natCast, BitVec.toNat_shiftLeft, Nat.shiftLeft_eq]
  congr 2
  rw [show (1#64).toNat = 1 from rfl, Nat.one_mul, Nat.mod_eq_of_lt h2]
theorem u_test {x : BitVec 64} {b : Int} (h0 : 0 ≤ b) (h : b < 40) : ∃ y : BitVec 64, abin .shr (U x) (.i .i64 b) = some (U y) ∧ abin .and (U y) (.i .u64 1) = some (U (y &&& 1#64)) ∧ abin .neq (U (y &&& 1#64)) (.i .u64 0) = some (.b (x.getLsbD b.toNat)) := by
  obtain ⟨k, rfl⟩ : ∃ k : Nat, b = k := ⟨b.toNat, by omega⟩
  have hk : k < 40 := by omega
  refine ⟨x >>> k, ?_, u_and _ 1#64, ?_⟩
  · simp only [abin, ishift, U]
    rw [if_neg (by omega)]
    rw [show min ((k : Int)).toNat IntKind.u64.bits = k by show min k 64 = k; omega]
    simp only [BitVec.toNat_ushiftRight, Nat.shiftRight_eq_div_pow]
    congr 2
    have : (2 : Int) ^ k = ((2 ^ k : Nat) : Int) := by simp
    rw [this, Int.fdiv_eq_ediv_of_nonneg _ (Int.natCast_nonneg _)]
    norm_cast
  · rw [show (AV.i .u64 0) = U 0#64 from rfl]
    simp only [U, b_neq]
    congr 2
    simp only [Int.toNat_natCast]
    have key : ((x >>> k) &&& 1#64).toNat = if x.getLsbD k then 1 else 0 := by
      rw [BitVec.toNat_and, BitVec.toNat_ushiftRight]
      simp [Nat.and_one_is_mod, BitVec.getLsbD, Nat.testBit, Nat.and_comm]
      split <;> omega
    rw [key]
    split <;> simp_all
theorem splice_rel (n : Nat) (R : Rw) : splice (.i .i64 0 :: List.replicate 40 (.i .u64 0)) 0 (relC n R) = relC n R := by
  have h : ∀ (cs vs : List AV) (a b : AV), vs.length = cs.length → splice (a :: cs) 0 (b :: vs) = b :: vs := by
    intro cs vs a b h
    cases vs with
    | nil => cases cs <;> first | rfl | simp at h
    | cons v vs =>
      show [] ++ (b :: v :: vs) ++ List.drop (0 + (b :: v :: vs).length) (a :: cs) = _
      rw [List.drop_eq_nil_of_le (by simp at h ⊢; omega)]
      simp
  exact h _ _ _ _ (by simp [rowsC_len])
theorem part_rel (n : Nat) (R : Rw) : part (relC n R) 0 (some 41) = some (.agg (relC n R)) := by
  simp [part, relC_len]
  rw [List.take_of_length_le (by rw [relC_len]; omega)]
theorem frz_U (hp x) : frz hp depth (U x) = some (U x) := frz_d_i hp .u64 _
theorem flat_U (x) : flat (U x) = true := rfl
theorem vis_U (hp x) : vis hp depth (U x) = [] := vis_i hp .u64 _
theorem relC_congr {n : Nat} {R S : Rw} (h : ∀ a, a < 40 → R a = S a) : relC n R = relC n S := by
  unfold relC rowsC
  congr 1
  exact List.map_congr_left fun a ha => by rw [h a (List.mem_range.1 ha)]
theorem part_rows (R : Rw) : part (rowsC R) 0 (some 40) = some (.agg (rowsC R)) := by
  simp [part, rowsC_len]
  rw [List.take_of_length_le (by rw [rowsC_len]; omega)]
theorem cellsEq_U : ∀ l : List (BitVec 64), cellsEq (List.replicate l.length 0) (l.map U) (List.replicate l.length (.i .u64 0)) = some (l.all (· == 0#64))
  | [] => rfl
  | x :: l => by
    simp only [List.length_cons, List.replicate_succ, List.map_cons, cellsEq, cellsEq_U l, List.all_cons]
    show (match cellEq 0 (U x) (.i .u64 0), some (l.all (· == 0#64)) with | some a, some b => some (a && b) | _, _ => none) = _
    have : cellEq 0 (U x) (.i .u64 0) = some (x == 0#64) := by
      simp only [U, cellEq, if_true]
      congr 1
      by_cases h : x = 0#64
      · subst h; rfl
      · have : x.toNat ≠ 0 := fun h' => h (BitVec.eq_of_toNat_eq (by simpa using h'))
        rw [Bool.eq_iff_iff]
        simp [h]; omega
    rw [this]
def noneR (R : Rw) : Bool := (List.range 40).all fun a => R a == 0#64
theorem eqa_rows (R : Rw) : aeqa (List.replicate 40 0) (.agg (rowsC R)) (.agg (List.replicate 40 (.i .u64 0))) = some (noneR R) := by
  have := cellsEq_U ((List.range 40).map R)
  simp only [List.length_map, List.length_range, List.map_map] at this
  show cellsEq _ _ _ = _
  unfold rowsC noneR
  rw [show (fun a => U (R a)) = U ∘ R from rfl, this, List.all_map]
  rfl
set_option maxRecDepth 10000 in
theorem rl : type_of% (And.intro (And.intro (And.intro (And.intro @relC_n @relC_row) (And.intro @relC_row' (And.intro @relC_drop1 @relC_len))) (And.intro (And.intro @rowsC_len (And.intro @relC_one @relC_flat)) (And.intro @cellsOf_U (And.intro @one_U @frz_U)))) (And.intro (And.intro (And.intro @flat_U @vis_U) (And.intro @relC_set' (And.intro @u_shl @u_or))) (And.intro (And.intro @u_and (And.intro @u_andNot @part_rel)) (And.intro @splice_rel (And.intro @part_rows @eqa_rows))))) := (And.intro (And.intro (And.intro (And.intro @relC_n @relC_row) (And.intro @relC_row' (And.intro @relC_drop1 @relC_len))) (And.intro (And.intro @rowsC_len (And.intro @relC_one @relC_flat)) (And.intro @cellsOf_U (And.intro @one_U @frz_U)))) (And.intro (And.intro (And.intro @flat_U @vis_U) (And.intro @relC_set' (And.intro @u_shl @u_or))) (And.intro (And.intro @u_and (And.intro @u_andNot @part_rel)) (And.intro @splice_rel (And.intro @part_rows @eqa_rows)))))
end Go.Ab
end
section
set_option linter.unusedVariables false
set_option linter.unusedSimpArgs false
namespace Go.Ab
variable {F : Funs}
def has (n : Nat) (R : Rw) (a b : Int) : Bool := decide (0 ≤ a ∧ a < n ∧ 0 ≤ b ∧ b < n) && (R a.toNat).getLsbD b.toNat
theorem sp_has (pk : Pk_rel F) {n : Nat} (hn : n ≤ 40) (R : Rw) (a b : Int) : pureS F 13 [.ptr (relC n R), .i .i64 a, .i .i64 b] = some (.b (has n R a b)) := by
  refine pure_of pk.rel_Rel_Has ?_
  have hl := relC_len n R
  by_cases h1 : 0 ≤ a
  · by_cases h2 : a < n
    · by_cases h3 : 0 ≤ b
      · by_cases h4 : b < n
        · obtain ⟨y, hy1, hy2, hy3⟩ := u_test (x := R a.toNat) h3 (by omega)
          have h5 : (0 : Int) ≤ a := h1
          simp (disch := omega) only [A_rel_Rel_Has, wp, Nat.reduceAdd, Nat.reduceMul, Nat.reduceSub, h1, h2, h3, h4, hl, drop_0, relC_n, relC_drop1, relC_row', hy1, hy2, hy3]
          simp [has, h1, h2, h3, h4]
        · simp (disch := omega) only [A_rel_Rel_Has, wp, Nat.reduceAdd, Nat.reduceMul, Nat.reduceSub, h1, h2, h3, h4, hl, drop_0, relC_n]
          simp [has, h4]
      · simp (disch := omega) only [A_rel_Rel_Has, wp, Nat.reduceAdd, Nat.reduceMul, Nat.reduceSub, h1, h2, h3, hl, drop_0, relC_n]
        simp [has, h3]
    · simp (disch := omega) only [A_rel_Rel_Has, wp, Nat.reduceAdd, Nat.reduceMul, Nat.reduceSub, h1, h2, hl, drop_0, relC_n]
      simp [has, h2]
  · simp (disch := omega) only [A_rel_Rel_Has, wp, Nat.reduceAdd, Nat.reduceMul, Nat.reduceSub, h1, hl, drop_0, relC_n]
    simp [has, h1]
end Go.Ab
end
section
set_option linter.unusedVariables false
set_option linter.unusedSimpArgs false
namespace Go.Ab
variable {F : Funs}
theorem pairsC_len (l : List (Int × Int)) : (pairsC l).length = l.length * 2 := by
  induction l with
  | nil => rfl
  | cons p l ih => simp only [pairsC, List.flatMap_cons, List.length_append, List.length_cons, List.length_nil] at ih ⊢; omega
theorem pairs_part : ∀ {l : List (Int × Int)} {k : Nat} (h : k < l.length), part ((pairsC l).drop (k * 2)) 0 (some 2) = some (.agg [.i .i64 (l.getD k (0, 0)).1, .i .i64 (l.getD k (0, 0)).2])
  | p :: l, 0, _ => by simp [pairsC, part]
  | p :: l, k + 1, h => by
    have := pairs_part (l := l) (k := k) (by simpa using h)
    simp only [List.getD_cons_succ]
    rw [← this]
    simp [pairsC, Nat.succ_mul]
def inR (n : Nat) (p : Int × Int) : Bool := decide (0 ≤ p.1 ∧ p.1 < n ∧ 0 ≤ p.2 ∧ p.2 < n)
def addR (n : Nat) (R : Rw) (p : Int × Int) : Rw := if inR n p then upd R p.1.toNat (R p.1.toNat ||| bit p.2.toNat) else R
def newR (n : Nat) (l : List (Int × Int)) : Rw := l.foldl (addR n) (fun _ => 0)
def clamp (n : Int) : Nat := (max 0 (min n 40)).toNat
theorem clamp_le (n : Int) : clamp n ≤ 40 := by unfold clamp; omega
theorem newR_take {n : Nat} {l : List (Int × Int)} {k : Nat} (h : k < l.length) : newR n (l.take (k + 1)) = addR n (newR n (l.take k)) (l.getD k (0, 0)) := by
  unfold newR
  rw [List.take_add_one, List.foldl_append, List.getElem?_eq_getElem h, List.getD_eq_getElem?_getD, List.getElem?_eq_getElem h]
  rfl
theorem i64_wrap {x : Int} (h : -9223372036854775808 ≤ x) (h2 : x ≤ 9223372036854775807) : IntKind.i64.wrap x = x := by
  simp [IntKind.wrap, IntKind.bits, IntKind.signed, IntKind.min, IntKind.max]
  omega
set_option maxHeartbeats 1000000 in
theorem sp_new (pk : Pk_rel F) (n : Int) (l : List (Int × Int)) (t : Tok) (hlen : l.length < 9000000000000000000) : pureS F 11 [.i .i64 n, .sl (pairsC l) l.length t] = some (.ptr (relC (clamp n) (newR (clamp n) l))) := by
  refine pure_of pk.rel_New ?_
  have hc : (if (40 : Int) < n then (40 : Int) else n) = min n 40 := by split <;> omega
  have hc0 : (if (0 : Int) < min n 40 then min n 40 else 0) = clamp n := by unfold clamp; split <;> omega
  have hz : AV.i .i64 (clamp n) :: List.replicate 40 (.i .u64 0) = relC (clamp n) (fun _ => 0) := rfl
  simp (disch := omega) only [A_rel_New, wp, Nat.reduceAdd, Nat.reduceMul, Nat.reduceSub, hc, hc0, hz, relC_one, List.all_append, List.all_replicate]
  refine W_loop (fun m e g => ∃ k, m = l.length - k ∧ k ≤ l.length ∧ e 13 = .sl (pairsC l) l.length t ∧ e 14 = .i .i64 l.length ∧ e 15 = .i .i64 k ∧ e 5 = .mp 5 0 ∧ g.hp 5 = some (.cells (relC (clamp n) (newR (clamp n) (l.take k))) false) ∧ 5 < g.nx) l.length ?_ ?_
  · refine ⟨0, rfl, Nat.zero_le _, ?_⟩
    simp (disch := omega) only [wp, Nat.reduceAdd, Nat.reduceMul, Nat.reduceSub]
    exact ⟨rfl, rfl, by omega⟩
  · rintro m e g ⟨k, rfl, hk, h13, h14, h15, h5, hg, hn⟩
    have hcl := clamp_le n
    by_cases hk' : k < l.length
    · have hk1 : (k : Int) < l.length := by omega
      have hp := pairs_part hk'
      have hw : IntKind.i64.wrap ((k : Int) + 1) = ((k + 1 : Nat) : Int) := by rw [i64_wrap (by omega) (by omega)]; omega
      have ht := newR_take (n := clamp n) hk'
      have n1 : 5 ≠ g.nx + 1 + 2 := by omega
      have n2 : g.nx + 1 + 2 ≠ 5 := by omega
      generalize l.getD k (0, 0) = p at hp ht
      obtain ⟨a, b⟩ := p
      by_cases h1 : 0 ≤ a
      · by_cases h2 : a < clamp n
        · by_cases h3 : 0 ≤ b
          · by_cases h4 : b < clamp n
            · simp (disch := omega) only [wp, Nat.reduceAdd, Nat.reduceMul, Nat.reduceSub, h13, h14, h15, h5, hk1, hp, hg, h1, h2, h3, h4, hw, relC_n, relC_row, u_shl, u_or, relC_len, cellsOf_U, one_U, relC_set']
              refine ⟨_, ?_, k + 1, rfl, by omega, rfl, ?_, by show 5 < _; omega⟩
              · omega
              · rw [ht]
                simp [addR, inR, h1, h2, h3, h4]
            · simp (disch := omega) only [wp, Nat.reduceAdd, Nat.reduceMul, Nat.reduceSub, h13, h14, h15, h5, hk1, hp, hg, h1, h2, h3, h4, hw, relC_n]
              refine ⟨_, ?_, k + 1, rfl, by omega, rfl, ?_, by show 5 < _; omega⟩
              · omega
              · rw [ht]
                simp [addR, inR, h4]
          · simp (disch := omega) only [wp, Nat.reduceAdd, Nat.reduceMul, Nat.reduceSub, h13, h14, h15, h5, hk1, hp, hg, h1, h2, h3, hw, relC_n]
            refine ⟨_, ?_, k + 1, rfl, by omega, rfl, ?_, by show 5 < _; omega⟩
            · omega
            · rw [ht]
              simp [addR, inR, h3]
        · simp (disch := omega) only [wp, Nat.reduceAdd, Nat.reduceMul, Nat.reduceSub, h13, h14, h15, h5, hk1, hp, hg, h1, h2, hw, relC_n]
          refine ⟨_, ?_, k + 1, rfl, by omega, rfl, ?_, by show 5 < _; omega⟩
          · omega
          · rw [ht]
            simp [addR, inR, h2]
      · simp (disch := omega) only [wp, Nat.reduceAdd, Nat.reduceMul, Nat.reduceSub, h13, h14, h15, h5, hk1, hp, hg, h1, hw, relC_n]
        refine ⟨_, ?_, k + 1, rfl, by omega, rfl, ?_, by show 5 < _; omega⟩
        · omega
        · rw [ht]
          simp [addR, inR, h1]
    · have : k = l.length := by omega
      subst this
      have hk1 : ¬ ((l.length : Int) < l.length) := by omega
      simp (disch := omega) only [wp, Nat.reduceAdd, Nat.reduceMul, Nat.reduceSub, h13, h14, h15, h5, hk1, hg, relC_flat, List.take_length]
end Go.Ab
end
section
set_option linter.unusedVariables false
set_option linter.unusedSimpArgs false
namespace Go.Ab
variable {F : Funs}
theorem succ_wrap {k : Nat} (h : k < 9000000000000000000) : IntKind.i64.wrap ((k : Int) + 1) = ((k + 1 : Nat) : Int) := by rw [i64_wrap (by omega) (by omega)]; omega
def stepP (n b : Nat) (R : Rw) (a : Nat) : Rw := if has n R a b then upd R a (R a ||| R b) else R
def rowP (n b k : Nat) (R : Rw) : Rw := (List.range k).foldl (stepP n b) R
def plusK (n k : Nat) (R : Rw) : Rw := (List.range k).foldl (fun R b => rowP n b n R) R
def plusR (n : Nat) (R : Rw) : Rw := plusK n n R
theorem rowP_succ (n b k R) : rowP n b (k + 1) R = stepP n b (rowP n b k R) k := by simp [rowP, List.range_succ]
theorem plusK_succ (n k R) : plusK n (k + 1) R = rowP n k n (plusK n k R) := by simp [plusK, List.range_succ]
set_option maxHeartbeats 1000000 in
theorem sp_plus (pk : Pk_rel F) {n : Nat} (hn : n ≤ 40) (R : Rw) : pureS F 12 [.ptr (relC n R)] = some (.ptr (relC n (plusR n R))) := by
  refine pure_of pk.rel_Rel_Plus ?_
  simp (disch := omega) only [A_rel_Rel_Plus, wp, Nat.reduceAdd, Nat.reduceMul, Nat.reduceSub, rl]
  refine W_loop (fun m e g => ∃ k, m = n - k ∧ k ≤ n ∧ e 0 = .ptr (relC n R) ∧ e 12 = .i .i64 n ∧ e 13 = .i .i64 k ∧ e 3 = .mp 4 0 ∧ g.hp 4 = some (.cells (relC n (plusK n k R)) false) ∧ 4 < g.nx) n ?_ ?_
  · refine ⟨0, rfl, Nat.zero_le _, ?_⟩
    simp (disch := omega) only [wp, Nat.reduceAdd, Nat.reduceMul, Nat.reduceSub]
    exact ⟨rfl, rfl, by omega⟩
  · rintro m e g ⟨k, rfl, hk, h0, h12, h13, h3, hg, hnx⟩
    by_cases hk' : k < n
    · have hk1 : (k : Int) < n := by omega
      have hw := succ_wrap (k := k) (by omega)
      simp (disch := omega) only [wp, Nat.reduceAdd, Nat.reduceMul, Nat.reduceSub, h0, h12, h13, h3, hk1, rl]
      refine W_loop (fun m e g => ∃ j, m = n - j ∧ j ≤ n ∧ e 0 = .ptr (relC n R) ∧ e 12 = .i .i64 n ∧ e 13 = .i .i64 k ∧ e 3 = .mp 4 0 ∧ e 4 = .i .i64 k ∧ e 19 = .i .i64 n ∧ e 20 = .i .i64 j ∧ g.hp 4 = some (.cells (relC n (rowP n k j (plusK n k R))) false) ∧ 4 < g.nx) n ?_ ?_
      · refine ⟨0, rfl, Nat.zero_le _, ?_⟩
        simp (disch := omega) only [wp, Nat.reduceAdd, Nat.reduceMul, Nat.reduceSub, h0, h12, h13, h3, hg]
        exact ⟨rfl, rfl, by omega⟩
      · rintro m e g ⟨j, rfl, hj, h0, h12, h13, h3, h4, h19, h20, hg, hnx⟩
        by_cases hj' : j < n
        · have hj1 : (j : Int) < n := by omega
          have hwj := succ_wrap (k := j) (by omega)
          by_cases hh : has n (rowP n k j (plusK n k R)) j k = true
          · simp (disch := omega) only [wp, Nat.reduceAdd, Nat.reduceMul, Nat.reduceSub, h0, h12, h13, h3, h4, h19, h20, hj1, hg, rl, sp_has pk hn, hh, hwj]
            refine ⟨_, ?_, j + 1, rfl, by omega, rfl, ?_, by show 4 < _; omega⟩
            · omega
            · rw [rowP_succ, stepP, if_pos hh]
          · simp (disch := omega) only [wp, Nat.reduceAdd, Nat.reduceMul, Nat.reduceSub, h0, h12, h13, h3, h4, h19, h20, hj1, hg, rl, sp_has pk hn, hh, hwj]
            refine ⟨_, ?_, j + 1, rfl, by omega, rfl, ?_, by show 4 < _; omega⟩
            · omega
            · rw [rowP_succ, stepP, if_neg hh]
        · obtain rfl : j = n := by omega
          have hj1 : ¬ ((j : Int) < j) := by omega
          simp (disch := omega) only [wp, Nat.reduceAdd, Nat.reduceMul, Nat.reduceSub, h0, h12, h13, h3, h4, h19, h20, hj1, hg, hw]
          refine ⟨_, ?_, k + 1, rfl, by omega, rfl, ?_, by show 4 < _; omega⟩
          · omega
          · rw [plusK_succ]
    · obtain rfl : k = n := by omega
      have hk1 : ¬ ((k : Int) < k) := by omega
      simp (disch := omega) only [wp, Nat.reduceAdd, Nat.reduceMul, Nat.reduceSub, h0, h12, h13, h3, hk1, hg, rl]
      rfl
end Go.Ab
end
section
set_option linter.unusedVariables false
set_option linter.unusedSimpArgs false
namespace Go.Ab
variable {F : Funs}
def maybeK (k : Nat) (R : Rw) : Rw := (List.range k).foldl (fun R a => upd R a (R a ||| bit a)) R
theorem maybeK_succ (k R) : maybeK (k + 1) R = upd (maybeK k R) k (maybeK k R k ||| bit k) := by simp [maybeK, List.range_succ]
set_option maxHeartbeats 1000000 in
theorem sp_maybe (pk : Pk_rel F) {n : Nat} (hn : n ≤ 40) (R : Rw) : pureS F 16 [.ptr (relC n R)] = some (.ptr (relC n (maybeK n R))) := by
  refine pure_of pk.rel_Rel_Maybe ?_
  simp (disch := omega) only [A_rel_Rel_Maybe, wp, Nat.reduceAdd, Nat.reduceMul, Nat.reduceSub, rl]
  refine W_loop (fun m e g => ∃ k, m = n - k ∧ k ≤ n ∧ e 11 = .i .i64 n ∧ e 12 = .i .i64 k ∧ e 3 = .mp 4 0 ∧ g.hp 4 = some (.cells (relC n (maybeK k R)) false) ∧ 4 < g.nx) n ?_ ?_
  · refine ⟨0, rfl, Nat.zero_le _, ?_⟩
    simp (disch := omega) only [wp, Nat.reduceAdd, Nat.reduceMul, Nat.reduceSub]
    exact ⟨rfl, rfl, by omega⟩
  · rintro m e g ⟨k, rfl, hk, h11, h12, h3, hg, hnx⟩
    by_cases hk' : k < n
    · have hk1 : (k : Int) < n := by omega
      have hw := succ_wrap (k := k) (by omega)
      simp (disch := omega) only [wp, Nat.reduceAdd, Nat.reduceMul, Nat.reduceSub, h11, h12, h3, hk1, hg, rl, hw]
      refine ⟨_, ?_, k + 1, rfl, by omega, rfl, ?_, by show 4 < _; omega⟩
      · omega
      · rw [maybeK_succ]
    · obtain rfl : k = n := by omega
      have hk1 : ¬ ((k : Int) < k) := by omega
      simp (disch := omega) only [wp, Nat.reduceAdd, Nat.reduceMul, Nat.reduceSub, h11, h12, h3, hk1, hg, rl]
def loopsR (n : Nat) (R : Rw) : Bool := (List.range n).any fun a => has n (plusR n R) a a
set_option maxHeartbeats 1000000 in
theorem sp_loops (pk : Pk_rel F) {n : Nat} (hn : n ≤ 40) (R : Rw) : pureS F 14 [.ptr (relC n R)] = some (.b (loopsR n R)) := by
  refine pure_of pk.rel_Rel_Loops ?_
  simp (disch := omega) only [A_rel_Rel_Loops, wp, Nat.reduceAdd, Nat.reduceMul, Nat.reduceSub, rl, sp_plus pk hn]
  refine W_loop (fun m e g => ∃ k, m = n - k ∧ k ≤ n ∧ e 10 = .i .i64 n ∧ e 11 = .i .i64 k ∧ e 3 = .ptr (relC n (plusR n R)) ∧ ∀ a, a < k → has n (plusR n R) a a = false) n ?_ ?_
  · refine ⟨0, rfl, Nat.zero_le _, ?_⟩
    simp (disch := omega) only [wp, Nat.reduceAdd, Nat.reduceMul, Nat.reduceSub]
    exact ⟨rfl, fun a ha => absurd ha (Nat.not_lt_zero _)⟩
  · rintro m e g ⟨k, rfl, hk, h10, h11, h3, hall⟩
    by_cases hk' : k < n
    · have hk1 : (k : Int) < n := by omega
      have hw := succ_wrap (k := k) (by omega)
      by_cases hh : has n (plusR n R) k k = true
      · simp (disch := omega) only [wp, Nat.reduceAdd, Nat.reduceMul, Nat.reduceSub, h10, h11, h3, hk1, rl, hw, sp_has pk hn, hh]
        have : loopsR n R = true := List.any_eq_true.2 ⟨k, List.mem_range.2 hk', hh⟩
        rw [this]
      · simp (disch := omega) only [wp, Nat.reduceAdd, Nat.reduceMul, Nat.reduceSub, h10, h11, h3, hk1, rl, hw, sp_has pk hn, hh]
        refine ⟨_, ?_, k + 1, rfl, by omega, rfl, fun a ha => ?_⟩
        · omega
        · by_cases hak : a = k
          · subst hak; simpa using hh
          · exact hall a (by omega)
    · obtain rfl : k = n := by omega
      have hk1 : ¬ ((k : Int) < k) := by omega
      simp (disch := omega) only [wp, Nat.reduceAdd, Nat.reduceMul, Nat.reduceSub, h10, h11, h3, hk1, rl]
      have : loopsR k R = false := List.any_eq_false.2 fun a ha => by rw [hall a (List.mem_range.1 ha)]; simp
      rw [this]
def rowPr (n : Nat) (R : Rw) (a j : Nat) : List (Int × Int) := ((List.range j).filter fun (b : Nat) => has n R a b).map fun (b : Nat) => ((a : Int), (b : Int))
def pairsK (n k : Nat) (R : Rw) : List (Int × Int) := (List.range k).flatMap fun a => rowPr n R a n
def pairsR (n : Nat) (R : Rw) : List (Int × Int) := pairsK n n R
theorem pairsK_succ (n k R) : pairsK n (k + 1) R = pairsK n k R ++ rowPr n R k n := by simp [pairsK, List.range_succ]
theorem rowPr_succ (n R a j) : rowPr n R a (j + 1) = if has n R a j then rowPr n R a j ++ [((a : Int), (j : Int))] else rowPr n R a j := by
  unfold rowPr
  rw [List.range_succ, List.filter_append, List.filter_cons]
  split <;> simp
def partL (n k j : Nat) (R : Rw) : List (Int × Int) := pairsK n k R ++ rowPr n R k j
theorem partL_0 (n k R) : partL n k 0 R = pairsK n k R := by simp [partL, rowPr]
theorem partL_n (n k R) : partL n k n R = pairsK n (k + 1) R := (pairsK_succ n k R).symm
theorem partL_succ (n k j R) : partL n k (j + 1) R = if has n R k j then partL n k j R ++ [((k : Int), (j : Int))] else partL n k j R := by
  unfold partL
  rw [rowPr_succ]; split <;> simp
theorem pairsC_app (l m : List (Int × Int)) : pairsC (l ++ m) = pairsC l ++ pairsC m := by simp [pairsC]
theorem pairsC_one (a b : Int) : pairsC [(a, b)] = [.i .i64 a, .i .i64 b] := rfl
def Live (g : G) (esz : Nat) (t : Tok) : Prop := t = .rig ∨ ∃ τ, t = .own τ esz ∧ g.hp τ = some (.tok true) ∧ τ < g.nx
set_option maxHeartbeats 1000000 in
theorem sp_pairs (pk : Pk_rel F) {n : Nat} (hn : n ≤ 40) (R : Rw) : pureS F 15 [.ptr (relC n R)] = some (.sl (pairsC (pairsR n R)) (pairsR n R).length .non) := by
  refine pure_of pk.rel_Rel_Pairs ?_
  simp (disch := omega) only [A_rel_Rel_Pairs, wp, Nat.reduceAdd, Nat.reduceMul, Nat.reduceSub, rl]
  refine W_loop (fun m e g => ∃ k t, m = n - k ∧ k ≤ n ∧ e 0 = .ptr (relC n R) ∧ e 9 = .i .i64 n ∧ e 10 = .i .i64 k ∧ e 3 = .sl (pairsC (pairsK n k R)) (pairsK n k R).length t ∧ Live g 2 t ∧ (pairsK n k R).length ≤ 40 * k) n ?_ ?_
  · refine ⟨0, .rig, rfl, Nat.zero_le _, ?_⟩
    simp (disch := omega) only [wp, Nat.reduceAdd, Nat.reduceMul, Nat.reduceSub]
    exact ⟨rfl, rfl, .inl rfl, Nat.zero_le _⟩
  · rintro m e g ⟨k, t, rfl, hk, h0, h9, h10, h3, ht, hl⟩
    by_cases hk' : k < n
    · have hk1 : (k : Int) < n := by omega
      have hw := succ_wrap (k := k) (by omega)
      simp (disch := omega) only [wp, Nat.reduceAdd, Nat.reduceMul, Nat.reduceSub, h0, h9, h10, h3, hk1, rl]
      refine W_loop (fun m e g => ∃ j t, m = n - j ∧ j ≤ n ∧ e 0 = .ptr (relC n R) ∧ e 9 = .i .i64 n ∧ e 10 = .i .i64 k ∧ e 4 = .i .i64 k ∧ e 16 = .i .i64 n ∧ e 17 = .i .i64 j ∧ e 3 = .sl (pairsC (partL n k j R)) (partL n k j R).length t ∧ Live g 2 t ∧ (partL n k j R).length ≤ 40 * k + j) n ?_ ?_
      · refine ⟨0, t, rfl, Nat.zero_le _, ?_⟩
        simp (disch := omega) only [wp, Nat.reduceAdd, Nat.reduceMul, Nat.reduceSub, h0, h9, h10, h3]
        rw [partL_0]
        refine ⟨rfl, rfl, ?_, by omega⟩
        rcases ht with rfl | ⟨τ, rfl, hτ, hlt⟩
        · exact .inl rfl
        · exact .inr ⟨τ, rfl, hτ, Nat.lt_of_lt_of_le hlt (by dsimp only; omega)⟩
      · rintro m e g ⟨j, t, rfl, hj, h0, h9, h10, h4, h16, h17, h3, ht, hl⟩
        have hLn := partL_succ n k j R
        by_cases hj' : j < n
        · have hj1 : (j : Int) < n := by omega
          have hwj := succ_wrap (k := j) (by omega)
          by_cases hh : has n R k j = true
          · rw [if_pos hh] at hLn
            rcases ht with rfl | ⟨τ, rfl, hτ, hlt⟩
            · simp (disch := omega) only [wp, Nat.reduceAdd, Nat.reduceMul, Nat.reduceSub, h0, h9, h10, h4, h16, h17, h3, hj1, rl, sp_has pk hn, hh, hwj, pairsC_len]
              refine ⟨n - (j + 1), ?_, j + 1, ?_⟩
              · omega
              · rw [hLn, pairsC_app, pairsC_one, List.length_append]
                exact ⟨_, rfl, by omega, rfl, rfl, .inr ⟨_, rfl, upd_same _ _ _, by dsimp only; omega⟩, by simp; omega⟩
            · simp (disch := omega) only [wp, Nat.reduceAdd, Nat.reduceMul, Nat.reduceSub, h0, h9, h10, h4, h16, h17, h3, hj1, rl, sp_has pk hn, hh, hwj, pairsC_len, hτ]
              refine ⟨n - (j + 1), ?_, j + 1, ?_⟩
              · omega
              · rw [hLn, pairsC_app, pairsC_one, List.length_append]
                exact ⟨_, rfl, by omega, rfl, rfl, .inr ⟨_, rfl, upd_same _ _ _, by dsimp only; omega⟩, by simp; omega⟩
          · rw [if_neg hh] at hLn
            simp (disch := omega) only [wp, Nat.reduceAdd, Nat.reduceMul, Nat.reduceSub, h0, h9, h10, h4, h16, h17, h3, hj1, rl, sp_has pk hn, hh, hwj]
            refine ⟨_, ?_, j + 1, t, rfl, by omega, rfl, ?_⟩
            · omega
            · rw [hLn]
              refine ⟨rfl, ?_, by omega⟩
              rcases ht with rfl | ⟨τ, rfl, hτ, hlt⟩
              · exact .inl rfl
              · exact .inr ⟨τ, rfl, hτ, Nat.lt_of_lt_of_le hlt (by dsimp only; omega)⟩
        · obtain rfl : j = n := by omega
          have hj1 : ¬ ((j : Int) < j) := by omega
          simp (disch := omega) only [wp, Nat.reduceAdd, Nat.reduceMul, Nat.reduceSub, h0, h9, h10, h4, h16, h17, h3, hj1, hw]
          refine ⟨_, ?_, k + 1, t, rfl, by omega, rfl, ?_⟩
          · omega
          · rw [← partL_n]
            refine ⟨rfl, ?_, by omega⟩
            rcases ht with rfl | ⟨τ, rfl, hτ, hlt⟩
            · exact .inl rfl
            · exact .inr ⟨τ, rfl, hτ, Nat.lt_of_lt_of_le hlt (by dsimp only; omega)⟩
    · obtain rfl : k = n := by omega
      have hk1 : ¬ ((k : Int) < k) := by omega
      simp (disch := omega) only [wp, Nat.reduceAdd, Nat.reduceMul, Nat.reduceSub, h0, h9, h10, h3, hk1, rl]
      rfl
end Go.Ab
end
section
set_option linter.unusedVariables false
set_option linter.unusedSimpArgs false
namespace Go.Ab
variable {F : Funs}
def byK (φ : BitVec 64 → BitVec 64 → BitVec 64) (R S : Rw) (k : Nat) : Rw := fun a => if a < k then φ (R a) (S a) else 0
theorem byK_succ (φ R S k) : upd (byK φ R S k) k (φ (R k) (S k)) = byK φ R S (k + 1) := by
  funext a
  unfold upd byK
  by_cases h : a = k
  · subst h; simp
  · rw [if_neg h]
    by_cases h2 : a < k
    · rw [if_pos h2, if_pos (by omega)]
    · rw [if_neg h2, if_neg (by omega)]
theorem maxI (n m : Nat) : (if (n : Int) < m then (m : Int) else n) = ((max n m : Nat) : Int) := by split <;> omega
set_option maxHeartbeats 1000000 in
theorem sp_by (pk : Pk_rel F) {n m : Nat} (hn : n ≤ 40) (hm : m ≤ 40) (R S : Rw) {fid : Nat} {φ : BitVec 64 → BitVec 64 → BitVec 64} (hφ : ∀ x y, pureS F fid [U x, U y] = some (U (φ x y))) :
    pureS F 51 [.ptr (relC n R), .ptr (relC m S), .fn fid [] []] = some (.ptr (relC (max n m) fun a => φ (R a) (S a))) := by
  refine pure_of pk.rel_Rel_by ?_
  have hz : AV.i .i64 (max n m : Nat) :: List.replicate 40 (.i .u64 0) = relC (max n m) (byK φ R S 0) := rfl
  simp (disch := omega) only [A_rel_Rel_by, wp, Nat.reduceAdd, Nat.reduceMul, Nat.reduceSub, rl, maxI, hz, List.all_append, List.all_replicate]
  refine W_loop (fun q e g => ∃ k, q = 40 - k ∧ k ≤ 40 ∧ e 0 = .ptr (relC n R) ∧ e 1 = .ptr (relC m S) ∧ e 2 = .fn fid [] [] ∧ e 20 = .i .i64 k ∧ e 7 = .mp 11 0 ∧ g.hp 11 = some (.cells (relC (max n m) (byK φ R S k)) false) ∧ 11 < g.nx) 40 ?_ ?_
  · refine ⟨0, rfl, Nat.zero_le _, ?_⟩
    simp (disch := omega) only [wp, Nat.reduceAdd, Nat.reduceMul, Nat.reduceSub]
    exact ⟨rfl, by omega⟩
  · rintro q e g ⟨k, rfl, hk, h0, h1, h2, h20, h7, hg, hnx⟩
    by_cases hk' : k < 40
    · have hk1 : (k : Int) < 40 := by omega
      have hw := succ_wrap (k := k) (by omega)
      simp (disch := omega) only [wp, Nat.reduceAdd, Nat.reduceMul, Nat.reduceSub, h0, h1, h2, h20, h7, hk1, hg, rl, hw, hφ, byK_succ]
      refine ⟨40 - (k + 1), ?_, k + 1, rfl, by omega, rfl, rfl, by first | omega | (dsimp only; omega)⟩
      omega
    · obtain rfl : k = 40 := by omega
      have hk1 : ¬ (((40 : Nat) : Int) < 40) := by omega
      simp (disch := omega) only [wp, Nat.reduceAdd, Nat.reduceMul, Nat.reduceSub, h0, h1, h2, h20, h7, hg, rl, hk1]
      rw [relC_congr (R := byK φ R S 40) (S := fun a => φ (R a) (S a)) (fun a ha => by simp [byK, ha])]
theorem sp_or1 (pk : Pk_rel F) (x y : BitVec 64) : pureS F 53 [U x, U y] = some (U (x ||| y)) := by
  refine pure_of pk.rel_Rel_Or_1 ?_
  simp (disch := omega) only [A_rel_Rel_Or_1, wp, Nat.reduceAdd, Nat.reduceMul, Nat.reduceSub, rl]
theorem sp_and1 (pk : Pk_rel F) (x y : BitVec 64) : pureS F 52 [U x, U y] = some (U (x &&& y)) := by
  refine pure_of pk.rel_Rel_And_1 ?_
  simp (disch := omega) only [A_rel_Rel_And_1, wp, Nat.reduceAdd, Nat.reduceMul, Nat.reduceSub, rl]
structure RelLs (F : Funs) : Prop where
  rel_Rel_In : F 22 = some A_rel_Rel_In
  rel_Rel_Less : F 26 = some A_rel_Rel_Less
  rel_Rel_Less_1 : F 54 = some A_rel_Rel_Less_1
def orR (R S : Rw) : Rw := fun a => R a ||| S a
def andR (R S : Rw) : Rw := fun a => R a &&& S a
theorem sp_or (pk : Pk_rel F) {n m : Nat} (hn : n ≤ 40) (hm : m ≤ 40) (R S : Rw) : pureS F 24 [.ptr (relC n R), .ptr (relC m S)] = some (.ptr (relC (max n m) (orR R S))) := by
  refine pure_of pk.rel_Rel_Or ?_
  simp (disch := omega) only [A_rel_Rel_Or, wp, Nat.reduceAdd, Nat.reduceMul, Nat.reduceSub, rl, sp_by pk hn hm R S (sp_or1 pk)]
  rfl
theorem sp_and (pk : Pk_rel F) {n m : Nat} (hn : n ≤ 40) (hm : m ≤ 40) (R S : Rw) : pureS F 18 [.ptr (relC n R), .ptr (relC m S)] = some (.ptr (relC (max n m) (andR R S))) := by
  refine pure_of pk.rel_Rel_And ?_
  simp (disch := omega) only [A_rel_Rel_And, wp, Nat.reduceAdd, Nat.reduceMul, Nat.reduceSub, rl, sp_by pk hn hm R S (sp_and1 pk)]
  rfl
def stepT (n a : Nat) (R S : Rw) (T : Rw) (b : Nat) : Rw := if has n R a b then upd T a (T a ||| S b) else T
def rowT (n a k : Nat) (R S T : Rw) : Rw := (List.range k).foldl (stepT n a R S) T
def thenK (n k : Nat) (R S : Rw) : Rw := (List.range k).foldl (fun T a => rowT n a n R S T) (fun _ => 0)
def thenR (n : Nat) (R S : Rw) : Rw := thenK n n R S
theorem rowT_succ (n a k R S T) : rowT n a (k + 1) R S T = stepT n a R S (rowT n a k R S T) k := by simp [rowT, List.range_succ]
theorem thenK_succ (n k R S) : thenK n (k + 1) R S = rowT n k n R S (thenK n k R S) := by simp [thenK, List.range_succ]
set_option maxHeartbeats 1000000 in
theorem sp_then (pk : Pk_rel F) {n m : Nat} (hn : n ≤ 40) (hm : m ≤ 40) (R S : Rw) : pureS F 23 [.ptr (relC n R), .ptr (relC m S)] = some (.ptr (relC (max n m) (thenR n R S))) := by
  refine pure_of pk.rel_Rel_Then ?_
  have hz : AV.i .i64 (max n m : Nat) :: List.replicate 40 (.i .u64 0) = relC (max n m) (thenK n 0 R S) := rfl
  simp (disch := omega) only [A_rel_Rel_Then, wp, Nat.reduceAdd, Nat.reduceMul, Nat.reduceSub, rl, maxI, hz, List.all_append, List.all_replicate]
  refine W_loop (fun q e g => ∃ k, q = n - k ∧ k ≤ n ∧ e 0 = .ptr (relC n R) ∧ e 1 = .ptr (relC m S) ∧ e 22 = .i .i64 n ∧ e 23 = .i .i64 k ∧ e 5 = .mp 11 0 ∧ g.hp 11 = some (.cells (relC (max n m) (thenK n k R S)) false) ∧ 11 < g.nx) n ?_ ?_
  · refine ⟨0, rfl, Nat.zero_le _, ?_⟩
    simp (disch := omega) only [wp, Nat.reduceAdd, Nat.reduceMul, Nat.reduceSub]
    exact ⟨rfl, by omega⟩
  · rintro q e g ⟨k, rfl, hk, h0, h1, h22, h23, h5, hg, hnx⟩
    by_cases hk' : k < n
    · have hk1 : (k : Int) < n := by omega
      have hw := succ_wrap (k := k) (by omega)
      simp (disch := omega) only [wp, Nat.reduceAdd, Nat.reduceMul, Nat.reduceSub, h0, h1, h22, h23, h5, hk1, rl]
      refine W_loop (fun q e g => ∃ j, q = n - j ∧ j ≤ n ∧ e 0 = .ptr (relC n R) ∧ e 1 = .ptr (relC m S) ∧ e 22 = .i .i64 n ∧ e 23 = .i .i64 k ∧ e 6 = .i .i64 k ∧ e 29 = .i .i64 n ∧ e 30 = .i .i64 j ∧ e 5 = .mp 11 0 ∧ g.hp 11 = some (.cells (relC (max n m) (rowT n k j R S (thenK n k R S))) false) ∧ 11 < g.nx) n ?_ ?_
      · refine ⟨0, rfl, Nat.zero_le _, ?_⟩
        simp (disch := omega) only [wp, Nat.reduceAdd, Nat.reduceMul, Nat.reduceSub, h0, h1, h22, h23, h5, hg]
        exact ⟨rfl, rfl, by omega⟩
      · rintro q e g ⟨j, rfl, hj, h0, h1, h22, h23, h6, h29, h30, h5, hg, hnx⟩
        by_cases hj' : j < n
        · have hj1 : (j : Int) < n := by omega
          have hwj := succ_wrap (k := j) (by omega)
          by_cases hh : has n R k j = true
          · simp (disch := omega) only [wp, Nat.reduceAdd, Nat.reduceMul, Nat.reduceSub, h0, h1, h22, h23, h6, h29, h30, h5, hj1, hg, rl, sp_has pk hn, hh, hwj]
            refine ⟨n - (j + 1), ?_, j + 1, rfl, by omega, rfl, ?_, by first | omega | (dsimp only; omega)⟩
            · omega
            · rw [rowT_succ, stepT, if_pos hh]
          · simp (disch := omega) only [wp, Nat.reduceAdd, Nat.reduceMul, Nat.reduceSub, h0, h1, h22, h23, h6, h29, h30, h5, hj1, hg, rl, sp_has pk hn, hh, hwj]
            refine ⟨n - (j + 1), ?_, j + 1, rfl, by omega, rfl, ?_, by first | omega | (dsimp only; omega)⟩
            · omega
            · rw [rowT_succ, stepT, if_neg hh]
        · obtain rfl : j = n := by omega
          have hj1 : ¬ ((j : Int) < j) := by omega
          simp (disch := omega) only [wp, Nat.reduceAdd, Nat.reduceMul, Nat.reduceSub, h0, h1, h22, h23, h6, h29, h30, h5, hj1, hg, hw]
          refine ⟨j - (k + 1), ?_, k + 1, rfl, by omega, rfl, ?_, by first | omega | (dsimp only; omega)⟩
          · omega
          · rw [thenK_succ]
    · obtain rfl : k = n := by omega
      have hk1 : ¬ ((k : Int) < k) := by omega
      simp (disch := omega) only [wp, Nat.reduceAdd, Nat.reduceMul, Nat.reduceSub, h0, h1, h22, h23, h5, hk1, hg, rl]
      rfl
theorem pairsR_mem {n : Nat} {R : Rw} {p : Int × Int} (h : p ∈ pairsR n R) : 0 ≤ p.1 ∧ p.1 < n ∧ 0 ≤ p.2 ∧ p.2 < n := by
  simp only [pairsR, pairsK, rowPr, List.mem_flatMap, List.mem_map, List.mem_filter, List.mem_range] at h
  obtain ⟨a, ha, b, ⟨hb, _⟩, rfl⟩ := h
  simp only
  omega
theorem pairsK_len (n k : Nat) (R : Rw) : (pairsK n k R).length ≤ k * n := by
  induction k with
  | zero => simp [pairsK]
  | succ k ih =>
    rw [pairsK_succ, List.length_append, Nat.succ_mul]
    have : (rowPr n R k n).length ≤ n := by
      unfold rowPr
      rw [List.length_map]
      exact Nat.le_trans (List.length_filter_le _ _) (by simp)
    omega
theorem pairsR_len {n : Nat} (hn : n ≤ 40) (R : Rw) : (pairsR n R).length ≤ 1600 := by
  have h1 := pairsK_len n n R
  have h2 : n * n ≤ 40 * 40 := Nat.mul_le_mul hn hn
  show (pairsK n n R).length ≤ 1600
  omega
end Go.Ab
end
section
set_option linter.unusedVariables false
set_option linter.unusedSimpArgs false
namespace Go.Ab
def hb (R : Rw) (a b : Nat) : Bool := (R a).getLsbD b
def hN (n : Nat) (R : Rw) (a b : Nat) : Bool := decide (a < n) && decide (b < n) && hb R a b
def Wf (n : Nat) (R : Rw) : Prop := ∀ a b, hb R a b = true → a < n ∧ b < n
theorem has_N (n : Nat) (R : Rw) (a b : Nat) : has n R a b = hN n R a b := by
  unfold has hN hb
  have : decide (0 ≤ (a : Int) ∧ (a : Int) < n ∧ 0 ≤ (b : Int) ∧ (b : Int) < n) = (decide (a < n) && decide (b < n)) := by
    rw [Bool.eq_iff_iff]; simp
  rw [this]; rfl
theorem hN_wf {n : Nat} {R : Rw} (h : Wf n R) (a b : Nat) : hN n R a b = hb R a b := by
  unfold hN
  cases hh : hb R a b with
  | false => simp
  | true => obtain ⟨h1, h2⟩ := h a b hh; simp [h1, h2]
theorem bit_get {a b : Nat} (ha : a < 64) : (bit a).getLsbD b = decide (b = a) := by
  unfold bit
  rw [BitVec.getLsbD_shiftLeft]
  by_cases h : b = a
  · subst h; simp [ha]
  · by_cases h2 : b < a
    · simp [h, h2]
    · have : b - a ≠ 0 := by omega
      simp [h, h2]
      intro _
      omega
theorem hb_upd (R : Rw) (x : BitVec 64) (c a b : Nat) : hb (upd R c x) a b = if a = c then x.getLsbD b else hb R a b := by
  unfold hb upd; split <;> rfl
theorem hb_zero (a b : Nat) : hb (fun _ => 0) a b = false := by simp [hb]
theorem hb_add {n : Nat} (hn : n ≤ 40) (R : Rw) (p : Int × Int) (a b : Nat) : hb (addR n R p) a b = (hb R a b || (inR n p && decide (p = ((a : Int), (b : Int))))) := by
  unfold addR
  by_cases h : inR n p = true
  · rw [if_pos h, hb_upd, h]
    obtain ⟨x, y⟩ := p
    simp only [inR, decide_eq_true_eq] at h
    by_cases ha : a = x.toNat
    · subst ha
      rw [if_pos rfl, BitVec.getLsbD_or, bit_get (by omega)]
      congr 1
      simp only [Bool.true_and]
      rw [decide_eq_decide]
      simp only [Prod.mk.injEq]
      omega
    · rw [if_neg ha]
      have : ¬ ((x, y) = ((a : Int), (b : Int))) := by simp only [Prod.mk.injEq]; omega
      simp [this]
  · rw [if_neg h]
    simp only [Bool.not_eq_true] at h
    simp [h]
theorem hb_new {n : Nat} (hn : n ≤ 40) (l : List (Int × Int)) (a b : Nat) : hb (newR n l) a b = (decide (a < n) && decide (b < n) && l.any fun p => decide (p = ((a : Int), (b : Int)))) := by
  have key : ∀ (l : List (Int × Int)) (R : Rw), hb (l.foldl (addR n) R) a b = (hb R a b || (decide (a < n) && decide (b < n) && l.any fun p => decide (p = ((a : Int), (b : Int))))) := by
    intro l
    induction l with
    | nil => intro R; simp
    | cons p l ih =>
      intro R
      rw [List.foldl_cons, ih, hb_add hn, List.any_cons]
      by_cases hp : p = ((a : Int), (b : Int))
      · subst hp
        have : inR n ((a : Int), (b : Int)) = (decide (a < n) && decide (b < n)) := by
          unfold inR; rw [Bool.eq_iff_iff]; simp
        rw [this]
        cases hb R a b <;> cases decide (a < n) <;> cases decide (b < n) <;> simp
      · simp [hp]
  unfold newR
  rw [key l, hb_zero]; rfl
theorem wf_new {n : Nat} (hn : n ≤ 40) (l : List (Int × Int)) : Wf n (newR n l) := by
  intro a b h
  rw [hb_new hn] at h
  simp at h; omega
theorem hb_or (R S : Rw) (a b : Nat) : hb (orR R S) a b = (hb R a b || hb S a b) := by simp [hb, orR]
theorem hb_and (R S : Rw) (a b : Nat) : hb (andR R S) a b = (hb R a b && hb S a b) := by simp [hb, andR]
theorem wf_or {n : Nat} {R S : Rw} (h : Wf n R) (k : Wf n S) : Wf n (orR R S) := fun a b hh => by
  rw [hb_or, Bool.or_eq_true] at hh; exact hh.elim (h a b) (k a b)
theorem wf_and {n : Nat} {R S : Rw} (h : Wf n R) : Wf n (andR R S) := fun a b hh => by
  rw [hb_and, Bool.and_eq_true] at hh; exact h a b hh.1
theorem hb_rowT (n a : Nat) (R S T : Rw) (k : Nat) (x y : Nat) : hb (rowT n a k R S T) x y = (hb T x y || (decide (x = a) && (List.range k).any fun b => hN n R a b && hb S b y)) := by
  induction k with
  | zero => simp [rowT]
  | succ k ih =>
    rw [rowT_succ, stepT, List.range_succ, List.any_append, has_N]
    by_cases hh : hN n R a k = true
    · rw [if_pos hh, hb_upd]
      by_cases hx : x = a
      · subst hx
        rw [if_pos rfl, BitVec.getLsbD_or]
        have := ih
        unfold hb at this ⊢
        rw [this]
        simp [hh, Bool.or_assoc, hb]
      · rw [if_neg hx, ih]; simp [hx]
    · rw [if_neg hh, ih]
      simp [hh]
theorem hb_thenK (n : Nat) (R S : Rw) (k : Nat) (x y : Nat) : hb (thenK n k R S) x y = (decide (x < k) && (List.range n).any fun b => hN n R x b && hb S b y) := by
  induction k with
  | zero => simp [thenK, hb]
  | succ k ih =>
    rw [thenK_succ, hb_rowT, ih]
    by_cases hx : x = k
    · subst hx; simp
    · have : decide (x < k) = decide (x < k + 1) := by rw [decide_eq_decide]; omega
      rw [this]; simp [hx]
theorem hb_then {n : Nat} {R S : Rw} (hR : Wf n R) (a b : Nat) : hb (thenR n R S) a b = true ↔ ∃ c, hb R a c = true ∧ hb S c b = true := by
  unfold thenR
  rw [hb_thenK]
  simp only [Bool.and_eq_true, decide_eq_true_eq, List.any_eq_true, List.mem_range, hN_wf hR]
  constructor
  · rintro ⟨_, c, _, h1, h2⟩; exact ⟨c, h1, h2⟩
  · rintro ⟨c, h1, h2⟩; obtain ⟨h3, h4⟩ := hR a c h1; exact ⟨h3, c, h4, h1, h2⟩
theorem wf_then {n : Nat} {R S : Rw} (hR : Wf n R) (hS : Wf n S) : Wf n (thenR n R S) := fun a b h => by
  obtain ⟨c, h1, h2⟩ := (hb_then hR a b).1 h
  exact ⟨(hR a c h1).1, (hS c b h2).2⟩
inductive Thru (r : Nat → Nat → Prop) (k : Nat) : Nat → Nat → Prop
  | one {a b} : r a b → Thru r k a b
  | join {a c b} : c < k → Thru r k a c → Thru r k c b → Thru r k a b
theorem Thru.mono {r : Nat → Nat → Prop} {k k' : Nat} (h : k ≤ k') {a b : Nat} (t : Thru r k a b) : Thru r k' a b := by
  induction t with
  | one h => exact .one h
  | join hc _ _ ih1 ih2 => exact .join (by omega) ih1 ih2
inductive Steps' (r : Nat → Nat → Prop) : Nat → Nat → Prop
  | one {a b} : r a b → Steps' r a b
  | join {a c b} : Steps' r a c → Steps' r c b → Steps' r a b
end Go.Ab
end
section
set_option linter.unusedVariables false
set_option linter.unusedSimpArgs false
namespace Go.Ab
variable {F : Funs}
theorem t1_neg (u n : Int) (e1 : u % n + n * (u / n) = u) : -u = (n - u % n) + n * (-(u / n) - 1) := by
  have e2 : n * (-(u / n) - 1) = -(n * (u / n)) - n := by rw [Int.mul_sub, Int.mul_neg, Int.mul_one]
  rw [e2]
  generalize n * (u / n) = c at *
  generalize u % n = b at *
  omega
theorem tmod_cases {v n : Int} (hn : 0 < n) : (if v.tmod n < 0 then v.tmod n + n else v.tmod n) = v % n := by
  have h2 := Int.emod_nonneg v (by omega : n ≠ 0)
  have h3 := Int.emod_lt_of_pos v hn
  by_cases hv : 0 ≤ v
  · rw [Int.tmod_eq_emod_of_nonneg hv, if_neg (by omega)]
  · obtain ⟨u, rfl⟩ : ∃ u, v = -u := ⟨-v, by omega⟩
    rw [Int.neg_tmod, Int.tmod_eq_emod_of_nonneg (by omega : 0 ≤ u)]
    have h4 := Int.emod_nonneg u (by omega : n ≠ 0)
    have h5 := Int.emod_lt_of_pos u hn
    have e1 := Int.emod_add_mul_ediv u n
    by_cases h6 : u % n = 0
    · rw [h6, Int.neg_zero, if_neg (by omega)]
      exact (Int.emod_eq_zero_of_dvd (Int.dvd_neg.2 (Int.dvd_of_emod_eq_zero h6))).symm
    · rw [if_pos (by omega)]
      have e3 : (-u) % n = n - u % n := by
        rw [t1_neg u n e1, Int.add_mul_emod_self_left, Int.emod_eq_of_lt (by omega) (by omega)]
      rw [e3]
      omega
theorem tmod_bound {v n : Int} (hn : 0 < n) : -n ≤ v.tmod n ∧ v.tmod n < n := by
  refine ⟨?_, Int.tmod_lt_of_pos v hn⟩
  have h1 := tmod_cases (v := v) hn
  have h2 := Int.emod_nonneg v (by omega : n ≠ 0)
  split at h1 <;> omega
def place (v n : Int) : Int := v % n
theorem place_lt {v n : Int} (hn : 0 < n) : 0 ≤ place v n ∧ place v n < n := ⟨Int.emod_nonneg v (by omega), Int.emod_lt_of_pos v hn⟩
theorem sp_place (h10 : F 10 = some A_xlaw00_Place) {v n : Int} (hn : 0 < n) (hb : n ≤ 4611686018427387904) : pureS F 10 [.i .i64 v, .i .i64 n] = some (.i .i64 (place v n)) := by
  refine pure_of h10 ?_
  have h1 := tmod_cases (v := v) hn
  obtain ⟨h2, h3⟩ := tmod_bound (v := v) hn
  unfold place
  by_cases h : v.tmod n < 0
  · have hw : IntKind.i64.wrap (v.tmod n + n) = v.tmod n + n := i64_wrap (by omega) (by omega)
    rw [if_pos h] at h1
    simp (disch := omega) only [A_xlaw00_Place, wp, Nat.reduceAdd, Nat.reduceMul, Nat.reduceSub, b_rem, h, hw]
    rw [h1]
  · rw [if_neg h] at h1
    simp (disch := omega) only [A_xlaw00_Place, wp, Nat.reduceAdd, Nat.reduceMul, Nat.reduceSub, b_rem, h]
    rw [h1]
end Go.Ab
end
section
set_option linter.unusedVariables false
set_option linter.unusedSimpArgs false
namespace Go.Ab
variable {F : Funs}
theorem ints_part {l : List Int} {k : Nat} (h : k < l.length) : part ((intsC l).drop (k * 1)) 0 none = some (.i .i64 (l.getD k 0)) := by
  simp only [part, intsC, List.getElem?_drop, Nat.mul_one, Nat.add_zero, List.getElem?_map, List.getElem?_eq_getElem h, Option.map_some, List.getD_eq_getElem?_getD, Option.getD_some]
theorem Steps'.mono {r s : Nat → Nat → Prop} (h : ∀ a b, r a b → s a b) {a b : Nat} (t : Steps' r a b) : Steps' s a b := by
  induction t with
  | one h' => exact .one (h _ _ h')
  | join _ _ i1 i2 => exact .join i1 i2
theorem Steps'.first {r : Nat → Nat → Prop} {a b : Nat} (t : Steps' r a b) : r a b ∨ ∃ c, r a c ∧ Steps' r c b := by
  induction t with
  | one h => exact .inl h
  | @join a c b t1 t2 i1 i2 =>
    rcases i1 with h | ⟨d, h1, h2⟩
    · exact .inr ⟨c, h, t2⟩
    · exact .inr ⟨d, h1, .join h2 t2⟩
end Go.Ab
end
section
set_option linter.unusedVariables false
set_option linter.unusedSimpArgs false
namespace Go.Ab
noncomputable def thawS (F : Funs) (f : Nat) (asx : List AV) : Option (List AV) := match callS F f asx g0 with
  | some (.mp b 0, g) => match g.hp b with
    | some (.cells cs false) => if cs.all flat then some cs else none
    | _ => none
  | _ => none
noncomputable def vThaw (F : Funs) (al : Nat → Bool) (id : Nat) (f : AV) (args : List AV) (g : G) : Option (AV × G) := vCall (callS F) al id .thaw f args g
theorem o_thaw {F : Funs} {al lo id e g} (f : Opd) (asx : List Opd) : opE (callS F) al lo id (.call .thaw f asx) e g = vThaw F al id (f.ev e) (asx.map (·.ev e)) g := rfl
theorem vis_flat {hp : Nat → Option Blk} {d : Nat} {v : AV} (h : flat v = true) : vis hp (d + 1) v = [] := by cases v <;> first | (cases h; done) | simp only [vis]
theorem vThaw_ok {F : Funs} {al : Nat → Bool} {id fid : Nat} {fst caps args bs cs : List AV} {g : G} (h1 : frzL (rd g al) depth (fst ++ args ++ caps) = some bs) (h2 : thawS F fid bs = some cs) (h3 : ((fst ++ args ++ caps).flatMap (vis (rd g al) depth)).isEmpty = true) :
    vThaw F al id (.fn fid fst caps) args g = some (.mp id 0, ⟨upd g.hp id (some (.cells cs false)), g.nx⟩) := by
  unfold thawS at h2
  split at h2
  · rename_i b g' hc
    split at h2
    · rename_i cs0 hb
      split at h2
      · rename_i hf
        cases h2
        have hc' : callS F fid bs ⟨fun _ => none, 0⟩ = some (.mp b 0, g') := hc
        have hfz : frzL g'.hp depth cs = some cs := frzL_flat (d := 8) hf
        have hv : cs.flatMap (vis g'.hp depth) = [] := by
          rw [List.flatMap_eq_nil_iff]
          intro v hv
          exact vis_flat (d := 8) (List.all_eq_true.1 hf v hv)
        unfold vThaw vCall
        simp only [h1, hc', hb, hfz, h3, hv]
        simp
      · cases h2
    · cases h2
  · cases h2
def retT (rs : List ARes) (cs : List AV) : Out → Env → G → Prop
  | .ext _, _, _ => False
  | _, e, g => ∃ b, resE rs e g = some (.mp b 0) ∧ g.hp b = some (.cells cs false)
theorem retT_nrm {rs cs e g} : retT rs cs .nrm e g = (∃ b, resE rs e g = some (.mp b 0) ∧ g.hp b = some (.cells cs false)) := rfl
theorem retT_ret {rs cs e g} : retT rs cs .ret e g = (∃ b, resE rs e g = some (.mp b 0) ∧ g.hp b = some (.cells cs false)) := rfl
section
variable {F : Funs}
theorem retT_call {f : Nat} {fn : AFun} {asx cs : List AV} (hF : F f = some fn) (h : W F fn.body (argEnv asx) g0 (retT fn.res cs)) : ∃ b g, callS F f asx g0 = some (.mp b 0, g) ∧ g.hp b = some (.cells cs false) := by
  obtain ⟨o, e, g, h1, h2⟩ := h
  rw [callS_eq, hF]
  simp only [h1]
  cases o with
  | ext n => exact h2.elim
  | nrm =>
    obtain ⟨b, h3, h4⟩ := h2
    exact ⟨b, g, by simp only [h3, Option.map_some], h4⟩
  | ret =>
    obtain ⟨b, h3, h4⟩ := h2
    exact ⟨b, g, by simp only [h3, Option.map_some], h4⟩
theorem thaw_of {f : Nat} {fn : AFun} {asx cs : List AV} (hF : F f = some fn) (hf : cs.all flat = true) (h : W F fn.body (argEnv asx) g0 (retT fn.res cs)) : thawS F f asx = some cs := by
  obtain ⟨b, g, h1, h2⟩ := retT_call hF h
  unfold thawS
  rw [h1]
  simp only [h2, hf, if_true]
theorem pure_of_thaw {f : Nat} {fn : AFun} {asx cs : List AV} (hF : F f = some fn) (hf : cs.all flat = true) (h : W F fn.body (argEnv asx) g0 (retT fn.res cs)) : pureS F f asx = some (.ptr cs) := by
  obtain ⟨b, g, h1, h2⟩ := retT_call hF h
  unfold pureS
  rw [h1]
  exact frz_d_mp h2 (frzL_flat hf)
end
theorem vThaw_S {F : Funs} {al : Nat → Bool} {id fid : Nat} {args : List AV} {g : G} {bs cs : List AV} (h1 : frzL (rd g al) depth args = some bs) (h2 : thawS F fid bs = some cs) (h3 : (args.flatMap (vis (rd g al) depth)) = []) :
    vThaw F al id (.fn fid [] []) args g = some (.mp id 0, ⟨upd g.hp id (some (.cells cs false)), g.nx⟩) :=
  vThaw_ok (by rw [List.nil_append, List.append_nil]; exact h1) h2 (by rw [List.nil_append, List.append_nil, h3]; rfl)
end Go.Ab
end
section
set_option linter.unusedVariables false
set_option linter.unusedSimpArgs false
namespace Go.Ab
noncomputable def vRaw (F : Funs) (al : Nat → Bool) (id : Nat) (f : AV) (args : List AV) (g : G) : Option (AV × G) := vCall (callS F) al id .raw f args g
theorem o_raw {F : Funs} {al lo id e g} (f : Opd) (asx : List Opd) : opE (callS F) al lo id (.call .raw f asx) e g = vRaw F al id (f.ev e) (asx.map (·.ev e)) g := rfl
theorem vRaw_fn {F : Funs} {al id fid fst caps args g} : vRaw F al id (.fn fid fst caps) args g = callS F fid (fst ++ args ++ caps) g := rfl
theorem bindO_call {F : Funs} {d b j dst os e K fid asx g} (P : AV → G → Prop) (h : ∃ v g', callS F fid asx g = some (v, g') ∧ P v g') (hk : ∀ v g', P v g' → WR F d b j os (put e dst v) g' K) : bindO F d b j dst os e K (callS F fid asx g) := by
  obtain ⟨v, g', h1, h2⟩ := h
  rw [h1]
  exact hk v g' h2
def retP (rs : List ARes) (P : AV → G → Prop) : Out → Env → G → Prop
  | .ext _, _, _ => False
  | _, e, g => ∃ v, resE rs e g = some v ∧ P v g
theorem retP_nrm {rs P e g} : retP rs P .nrm e g = (∃ v, resE rs e g = some v ∧ P v g) := rfl
theorem retP_ret {rs P e g} : retP rs P .ret e g = (∃ v, resE rs e g = some v ∧ P v g) := rfl
theorem raw_of {F : Funs} {f : Nat} {fn : AFun} {asx : List AV} {g : G} {P : AV → G → Prop} (hF : F f = some fn) (h : W F fn.body (argEnv asx) g (retP fn.res P)) : ∃ v g', callS F f asx g = some (v, g') ∧ P v g' := by
  obtain ⟨o, e, g', h1, h2⟩ := h
  rw [callS_eq, hF]
  simp only [h1]
  cases o with
  | ext n => exact h2.elim
  | nrm =>
    obtain ⟨v, h3, h4⟩ := h2
    exact ⟨v, g', by simp only [h3, Option.map_some], h4⟩
  | ret =>
    obtain ⟨v, h3, h4⟩ := h2
    exact ⟨v, g', by simp only [h3, Option.map_some], h4⟩
theorem res_0 (e g) : resE [] e g = some (.tup []) := rfl
def mgS (k : ByteArray) (g : G) : Option Blk → Option (AV × G)
  | some (.map es) => vMap g (mlook es k)
  | _ => none
theorem o_mget {c : CS} {al : Nat → Bool} {lo id : Nat} {e : Env} {g : G} (m k) : opE c al lo id (.mget m k) e g = vMget al (m.ev e) (k.ev e) g := rfl
theorem vMget_S {al : Nat → Bool} {g : G} (b k) : vMget al (.mm b) (.s k) g = mgS k g (selB (al b) (g.hp b)) := by
  simp only [vMget, rd_S]
  cases selB (al b) (g.hp b) with
  | none => rfl
  | some bl => cases bl <;> rfl
theorem mgS_map (k g es) : mgS k g (some (.map es)) = vMap g (mlook es k) := rfl
theorem o_mkmap {c : CS} {al : Nat → Bool} {lo id : Nat} {e : Env} {g : G} : opE c al lo id .mkmap e g = some (.mm id, ⟨upd g.hp id (some (.map [])), g.nx⟩) := rfl
theorem o_mput {c : CS} {al : Nat → Bool} {lo id : Nat} {e : Env} {g : G} (m k v) : opE c al lo id (.mput m k v) e g = vMput al (m.ev e) (k.ev e) (v.ev e) g := rfl
def mpO (b : Nat) (k : ByteArray) (v : AV) (es : List (AV × AV)) (g : G) (x : Bool) : Option AV → Option (AV × G)
  | none => if x then some (.undef, ⟨upd g.hp b (some (.map (es ++ [(.s k, v)]))), g.nx⟩) else none
  | some _ => none
def mpS (b : Nat) (k : ByteArray) (v : AV) (g : G) (x : Bool) : Option Blk → Option (AV × G)
  | some (.map es) => mpO b k v es g x (mlook es k)
  | _ => none
theorem vMput_S {al : Nat → Bool} {g : G} (b k v) : vMput al (.mm b) (.s k) v g = mpS b k v g (one v) (selB (al b) (g.hp b)) := by
  simp only [vMput, rd_S]
  cases selB (al b) (g.hp b) with
  | none => rfl
  | some bl =>
    cases bl with
    | map es => simp only [mpS]; cases mlook es k <;> rfl
    | cells _ _ => rfl
    | tok _ => rfl
theorem mpS_map (b k v g x es) : mpS b k v g x (some (.map es)) = mpO b k v es g x (mlook es k) := rfl
theorem mpO_none (b k v es g) : mpO b k v es g true none = some (.undef, ⟨upd g.hp b (some (.map (es ++ [(.s k, v)]))), g.nx⟩) := rfl
theorem frz_d_agg {hp cs ds} (h : frzL hp 8 cs = some ds) : frz hp depth (.agg cs) = some (.agg ds) := by
  show frz hp (8 + 1) _ = _
  simp only [frz, h, Option.map_some]
end Go.Ab
end
section
set_option linter.unusedVariables false
set_option linter.unusedSimpArgs false
namespace Go.Ab
structure Ev where
  th : Int
  kd : Int
  md : Int
  lc : Int
  vl : Int
  ex : Bool
structure Gr where
  locs : Int
  evs : List Ev
  rf : List Int
  co : List (List Int)
  rmw : List (Int × Int)
  data : List (Int × Int)
  ctrl : List (Int × Int)
  ctrli : List (Int × Int)
def ev0 : Ev := ⟨0, 0, 0, 0, 0, false⟩
def evC (e : Ev) : List AV := [.i .i64 e.th, .i .i64 e.kd, .i .i64 e.md, .i .i64 e.lc, .i .i64 e.vl, .b e.ex]
def evsC (l : List Ev) : List AV := l.flatMap evC
def coC (l : List (List Int)) : List AV := l.map fun c => .sl (intsC c) c.length .non
def grC (g : Gr) : List AV := [.i .i64 g.locs, .sl (evsC g.evs) g.evs.length .non, .sl (intsC g.rf) g.rf.length .non, .sl (coC g.co) g.co.length .non,
  .sl (pairsC g.rmw) g.rmw.length .non, .sl (pairsC g.data) g.data.length .non, .sl (pairsC g.ctrl) g.ctrl.length .non, .sl (pairsC g.ctrli) g.ctrli.length .non]
theorem evsC_len (l : List Ev) : (evsC l).length = l.length * 6 := by
  induction l with
  | nil => rfl
  | cons p l ih => simp only [evsC, List.flatMap_cons, List.length_append, List.length_cons, evC, List.length_nil] at ih ⊢; omega
theorem ev_part : ∀ {l : List Ev} {k : Nat} (h : k < l.length), part ((evsC l).drop (k * 6)) 0 (some 6) = some (.agg (evC (l.getD k ev0)))
  | p :: l, 0, _ => by simp [evsC, part, evC]
  | p :: l, k + 1, h => by
    have := ev_part (l := l) (k := k) (by simpa using h)
    simp only [List.getD_cons_succ]
    rw [← this]
    simp [evsC, Nat.succ_mul, evC]
theorem coC_len (l : List (List Int)) : (coC l).length = l.length := by simp [coC]
theorem co_part {l : List (List Int)} {k : Nat} (h : k < l.length) : part ((coC l).drop (k * 1)) 0 none = some (.sl (intsC (l.getD k [])) (l.getD k []).length .non) := by
  simp only [part, coC, List.getElem?_drop, Nat.mul_one, Nat.add_zero, List.getElem?_map, List.getElem?_eq_getElem h, Option.map_some, List.getD_eq_getElem?_getD, Option.getD_some]
theorem splice_ev (e : Ev) : splice (List.replicate 5 (AV.i .i64 0) ++ [.b false]) 0 (evC e) = evC e := rfl
theorem part_22 (a b : AV) : part [a, b] 0 (some 2) = some (.agg [a, b]) := rfl
theorem evC_len (e : Ev) : (evC e).length = 6 := rfl
theorem evC_one (e : Ev) : (evC e).all one = true := rfl
theorem evC_flat (e : Ev) : (evC e).all flat = true := rfl
theorem evC_all (e : Ev) : part (evC e) 0 (some 6) = some (.agg (evC e)) := rfl
theorem ev_th (e : Ev) : part (evC e) 0 none = some (.i .i64 e.th) := rfl
theorem ev_kd (e : Ev) : part (evC e) 1 none = some (.i .i64 e.kd) := rfl
theorem ev_md (e : Ev) : part (evC e) 2 none = some (.i .i64 e.md) := rfl
theorem ev_lc (e : Ev) : part (evC e) 3 none = some (.i .i64 e.lc) := rfl
theorem ev_vl (e : Ev) : part (evC e) 4 none = some (.i .i64 e.vl) := rfl
theorem ev_ex (e : Ev) : part (evC e) 5 none = some (.b e.ex) := rfl
theorem grC_len (g : Gr) : (grC g).length = 8 := rfl
theorem grC_one (g : Gr) : (grC g).all one = true := rfl
theorem grC_all (g : Gr) : part (grC g) 0 (some 8) = some (.agg (grC g)) := rfl
theorem gr_locs (g : Gr) : part (grC g) 0 none = some (.i .i64 g.locs) := rfl
theorem gr_evs (g : Gr) : part (grC g) 1 none = some (.sl (evsC g.evs) g.evs.length .non) := rfl
theorem gr_rf (g : Gr) : part (grC g) 2 none = some (.sl (intsC g.rf) g.rf.length .non) := rfl
theorem gr_co (g : Gr) : part (grC g) 3 none = some (.sl (coC g.co) g.co.length .non) := rfl
theorem gr_rmw (g : Gr) : part (grC g) 4 none = some (.sl (pairsC g.rmw) g.rmw.length .non) := rfl
theorem gr_data (g : Gr) : part (grC g) 5 none = some (.sl (pairsC g.data) g.data.length .non) := rfl
theorem gr_ctrl (g : Gr) : part (grC g) 6 none = some (.sl (pairsC g.ctrl) g.ctrl.length .non) := rfl
theorem gr_ctrli (g : Gr) : part (grC g) 7 none = some (.sl (pairsC g.ctrli) g.ctrli.length .non) := rfl
theorem frz_gr (hp) (g : Gr) : frz hp depth (.agg (grC g)) = some (.agg (grC g)) := by
  refine frz_d_agg ?_
  show frzL hp (7 + 1) _ = _
  simp only [grC, frzL, frz]
theorem frz_ev (hp) (e : Ev) : frz hp depth (.agg (evC e)) = some (.agg (evC e)) := frz_d_agg (frzL_flat (d := 7) (evC_flat e))
theorem vis_gr (hp) (g : Gr) : vis hp depth (.agg (grC g)) = [] := by
  show vis hp (8 + 1) _ = _
  simp only [vis, grC, List.flatMap_cons, List.flatMap_nil, List.nil_append, List.append_nil]
theorem vis_ev (hp) (e : Ev) : vis hp depth (.agg (evC e)) = [] := by
  show vis hp (8 + 1) _ = _
  simp only [vis, evC, List.flatMap_cons, List.flatMap_nil, List.nil_append, List.append_nil]
set_option maxRecDepth 10000 in
theorem gl : type_of% (And.intro (And.intro (And.intro (And.intro (And.intro @evC_len @evC_one) (And.intro @evC_flat (And.intro @evC_all @ev_th))) (And.intro (And.intro @ev_kd @ev_md) (And.intro @ev_lc (And.intro @ev_vl @ev_ex)))) (And.intro (And.intro (And.intro @grC_len @grC_one) (And.intro @grC_all (And.intro @gr_locs @gr_evs))) (And.intro (And.intro @gr_rf (And.intro @gr_co @gr_rmw)) (And.intro @gr_data (And.intro @gr_ctrl @gr_ctrli))))) (And.intro (And.intro (And.intro (And.intro @frz_gr @frz_ev) (And.intro @vis_gr (And.intro @vis_ev @splice_ev))) (And.intro (And.intro @evsC_len @coC_len) (And.intro @o_raw (And.intro @vRaw_fn @res_0)))) (And.intro (And.intro (And.intro @retP_nrm @retP_ret) (And.intro @o_mget (And.intro @vMget_S @mgS_map))) (And.intro (And.intro @o_mkmap (And.intro @o_mput @vMput_S)) (And.intro @mpS_map (And.intro @mpO_none @part_22)))))) := (And.intro (And.intro (And.intro (And.intro (And.intro @evC_len @evC_one) (And.intro @evC_flat (And.intro @evC_all @ev_th))) (And.intro (And.intro @ev_kd @ev_md) (And.intro @ev_lc (And.intro @ev_vl @ev_ex)))) (And.intro (And.intro (And.intro @grC_len @grC_one) (And.intro @grC_all (And.intro @gr_locs @gr_evs))) (And.intro (And.intro @gr_rf (And.intro @gr_co @gr_rmw)) (And.intro @gr_data (And.intro @gr_ctrl @gr_ctrli))))) (And.intro (And.intro (And.intro (And.intro @frz_gr @frz_ev) (And.intro @vis_gr (And.intro @vis_ev @splice_ev))) (And.intro (And.intro @evsC_len @coC_len) (And.intro @o_raw (And.intro @vRaw_fn @res_0)))) (And.intro (And.intro (And.intro @retP_nrm @retP_ret) (And.intro @o_mget (And.intro @vMget_S @mgS_map))) (And.intro (And.intro @o_mkmap (And.intro @o_mput @vMput_S)) (And.intro @mpS_map (And.intro @mpO_none @part_22))))))
end Go.Ab
end
section
set_option linter.unusedVariables false
set_option linter.unusedSimpArgs false
namespace Go.Ab
variable {F : Funs}
set_option maxRecDepth 100000 in
theorem sp_of (h81 : F 81 = some A_graph_Of) (pr : Pk_rel F) (G : Gr) (l : List (Int × Int)) (t : Tok) (hl : l.length < 9000000000000000000) : pureS F 81 [.agg (grC G), .sl (pairsC l) l.length t] = some (.ptr (relC (clamp G.evs.length) (newR (clamp G.evs.length) l))) := by
  refine pure_of h81 ?_
  simp (disch := omega) only [A_graph_Of, wp, Nat.reduceAdd, Nat.reduceMul, Nat.reduceSub, gl, sp_new pr _ l _ hl]
structure EcoSt (X : Gr) (l : List (Int × Int)) (g : G) : Prop where
  gr : g.hp 0 = some (.cells (grC X) false)
  put : ∃ t, g.hp 2 = some (.cells [.sl (pairsC l) l.length t] false) ∧ Live g 2 t
  f4 : g.hp 4 = some (.cells [.fn 92 [] [.mp 2 0]] false)
  f7 : g.hp 7 = some (.cells [.fn 93 [] [.mp 0 0, .mp 4 0]] false)
  m9 : g.hp 9 = some (.map [(.s ⟨#[114, 102]⟩, .fn 94 [] [.mp 4 0]), (.s ⟨#[99, 111]⟩, .fn 95 [] [.mp 7 0]), (.s ⟨#[102, 114]⟩, .fn 96 [] [.mp 7 0])])
  nx : 9 < g.nx
def Kept (g g' : G) : Prop := g.nx ≤ g'.nx ∧ ∀ i, 9 < i → i < g.nx → CM (g.hp i) → g'.hp i = g.hp i
theorem Kept.refl (g : G) : Kept g g := ⟨Nat.le_refl _, fun _ _ _ _ => rfl⟩
theorem Kept.trans {g g1 g2 : G} (h : Kept g g1) (k : Kept g1 g2) : Kept g g2 := ⟨Nat.le_trans h.1 k.1, fun i h1 h2 h3 => by
  have e := h.2 i h1 h2 h3
  rw [← e]
  exact k.2 i h1 (Nat.lt_of_lt_of_le h2 h.1) (by rw [e]; exact h3)⟩
theorem EcoSt.same {X : Gr} {l : List (Int × Int)} {g g' : G} (h : EcoSt X l g) (k : Kept g g') (h9 : ∀ i, i ≤ 9 → g'.hp i = g.hp i) (ht : ∀ i b, g.hp i = some (.tok b) → g'.hp i = g.hp i) : EcoSt X l g' := by
  obtain ⟨t, h1, h2⟩ := h.put
  refine ⟨by rw [h9 0 (by omega)]; exact h.gr, ⟨t, by rw [h9 2 (by omega)]; exact h1, ?_⟩, by rw [h9 4 (by omega)]; exact h.f4, by rw [h9 7 (by omega)]; exact h.f7, by rw [h9 9 (by omega)]; exact h.m9, Nat.lt_of_lt_of_le h.nx k.1⟩
  rcases h2 with rfl | ⟨τ, rfl, hτ, hlt⟩
  · exact .inl rfl
  · exact .inr ⟨τ, rfl, by rw [ht τ _ hτ]; exact hτ, Nat.lt_of_lt_of_le hlt k.1⟩
set_option maxRecDepth 100000 in
theorem sp_put (h92 : F 92 = some A_eco_pairs_1) {X : Gr} {l : List (Int × Int)} {g : G} (S : EcoSt X l g) (hl : l.length < 1099511627776) (a b : Int) :
    ∃ v g', callS F 92 [.i .i64 a, .i .i64 b, .mp 2 0] g = some (v, g') ∧ EcoSt X (l ++ [(a, b)]) g' ∧ Kept g g' := by
  refine raw_of (P := fun v g' => EcoSt X (l ++ [(a, b)]) g' ∧ Kept g g') h92 ?_
  obtain ⟨t, hp, ht⟩ := S.put
  have hnx := S.nx
  have h0 := S.gr; have h4 := S.f4; have h7 := S.f7; have h9 := S.m9
  rcases ht with rfl | ⟨τ, rfl, hτ, hlt⟩
  · simp (disch := omega) only [A_eco_pairs_1, wp, Nat.reduceAdd, Nat.reduceMul, Nat.reduceSub, gl, hp, pairsC_len]
    refine ⟨_, rfl, ?_, ?_⟩
    · refine ⟨?_, ⟨.own (g.nx + 5) 2, ?_, ?_⟩, ?_, ?_, ?_, by dsimp only; omega⟩
      · simp (disch := omega) only [upd_ne]; exact h0
      · simp (disch := omega) only [upd_same, pairsC_app, pairsC_one, List.length_append]; rfl
      · exact .inr ⟨_, rfl, by simp (disch := omega) only [upd_same, upd_ne], by dsimp only; omega⟩
      · simp (disch := omega) only [upd_ne]; exact h4
      · simp (disch := omega) only [upd_ne]; exact h7
      · simp (disch := omega) only [upd_ne]; exact h9
    · refine ⟨by dsimp only; omega, fun i i1 i2 i3 => ?_⟩
      simp (disch := omega) only [upd_ne]
  · have n0 : τ ≠ 0 := fun h => by rw [h, h0] at hτ; cases hτ
    have n2 : τ ≠ 2 := fun h => by rw [h, hp] at hτ; cases hτ
    have n4 : τ ≠ 4 := fun h => by rw [h, h4] at hτ; cases hτ
    have n7 : τ ≠ 7 := fun h => by rw [h, h7] at hτ; cases hτ
    have n9 : τ ≠ 9 := fun h => by rw [h, h9] at hτ; cases hτ
    simp (disch := omega) only [A_eco_pairs_1, wp, Nat.reduceAdd, Nat.reduceMul, Nat.reduceSub, gl, hp, pairsC_len, hτ]
    refine ⟨_, rfl, ?_, ?_⟩
    · refine ⟨?_, ⟨.own (g.nx + 5) 2, ?_, ?_⟩, ?_, ?_, ?_, by dsimp only; omega⟩
      · simp (disch := omega) only [upd_ne]; exact h0
      · simp (disch := omega) only [upd_same, pairsC_app, pairsC_one, List.length_append]; rfl
      · exact .inr ⟨_, rfl, by simp (disch := omega) only [upd_same, upd_ne], by dsimp only; omega⟩
      · simp (disch := omega) only [upd_ne]; exact h4
      · simp (disch := omega) only [upd_ne]; exact h7
      · simp (disch := omega) only [upd_ne]; exact h9
    · refine ⟨by dsimp only; omega, fun i i1 i2 i3 => ?_⟩
      have : i ≠ τ := fun h => by rw [h, hτ] at i3; exact i3
      simp (disch := omega) only [upd_ne]
end Go.Ab
end
section
set_option linter.unusedVariables false
set_option linter.unusedSimpArgs false
namespace Go.Ab
variable {F : Funs}
def aftS (w : Int) (p : List Int × Bool) (i : Int) : List Int × Bool := (if p.2 then p.1 ++ [i] else p.1, p.2 || i == w)
def aft (w : Int) (c : List Int) : List Int × Bool := c.foldl (aftS w) ([], false)
def behL (a w : Int) (co : List (List Int)) : List (Int × Int) := co.flatMap fun c => (aft w c).1.map fun i => (a, i)
theorem aft_take {w : Int} {c : List Int} {k : Nat} (h : k < c.length) : aft w (c.take (k + 1)) = aftS w (aft w (c.take k)) (c.getD k 0) := by
  unfold aft
  rw [List.take_add_one, List.foldl_append, List.getElem?_eq_getElem h, List.getD_eq_getElem?_getD, List.getElem?_eq_getElem h]
  rfl
theorem behL_take {a w : Int} {co : List (List Int)} {k : Nat} (h : k < co.length) : behL a w (co.take (k + 1)) = behL a w (co.take k) ++ (aft w (co.getD k [])).1.map (fun i => (a, i)) := by
  unfold behL
  rw [List.take_add_one, List.flatMap_append, List.getElem?_eq_getElem h, List.getD_eq_getElem?_getD, List.getElem?_eq_getElem h]
  simp
theorem aft_len (w : Int) (c : List Int) : (aft w c).1.length ≤ c.length := by
  have key : ∀ (c : List Int) (p : List Int × Bool), (c.foldl (aftS w) p).1.length ≤ p.1.length + c.length := by
    intro c
    induction c with
    | nil => intro p; simp
    | cons i c ih =>
      intro p
      rw [List.foldl_cons]
      have := ih (aftS w p i)
      have h2 : (aftS w p i).1.length ≤ p.1.length + 1 := by unfold aftS; split <;> simp
      simp only [List.length_cons]; omega
  have := key c ([], false)
  unfold aft
  simpa using this
theorem behL_len (a w : Int) (co : List (List Int)) {b : Nat} (h : ∀ c ∈ co, c.length ≤ b) : (behL a w co).length ≤ co.length * b := by
  induction co with
  | nil => simp [behL]
  | cons c co ih =>
    have h1 := ih fun d hd => h d (List.mem_cons_of_mem _ hd)
    have h2 := aft_len w c
    have h3 := h c (List.mem_cons_self ..)
    unfold behL at h1 ⊢
    rw [List.flatMap_cons, List.length_append, List.length_map, List.length_cons, Nat.succ_mul]
    omega
theorem EcoSt.on {X : Gr} {l : List (Int × Int)} {g : G} (h : EcoSt X l g) {n : Nat} (hn : g.nx ≤ n) : EcoSt X l ⟨g.hp, n⟩ :=
  h.same ⟨hn, fun _ _ _ _ => rfl⟩ (fun _ _ => rfl) (fun _ _ _ => rfl)
theorem Kept.on {g g' : G} (h : Kept g g') {n : Nat} (hn : g'.nx ≤ n) : Kept g ⟨g'.hp, n⟩ := ⟨Nat.le_trans h.1 hn, h.2⟩
theorem Kept.from {g g' : G} {n : Nat} (hn : g.nx ≤ n) (h : Kept ⟨g.hp, n⟩ g') : Kept g g' := ⟨Nat.le_trans hn h.1, fun i h1 h2 h3 => h.2 i h1 (Nat.lt_of_lt_of_le h2 hn) h3⟩
set_option maxRecDepth 100000 in
set_option maxHeartbeats 4000000 in
theorem sp_behind (h93 : F 93 = some A_eco_pairs_2) (h92 : F 92 = some A_eco_pairs_1) {X : Gr} {l : List (Int × Int)} {g : G} (S : EcoSt X l g) (hl : l.length < 1000000) (hco : X.co.length ≤ 1000 ∧ ∀ c ∈ X.co, c.length ≤ 1000) (a w : Int) :
    ∃ v g', callS F 93 [.i .i64 a, .i .i64 w, .mp 0 0, .mp 4 0] g = some (v, g') ∧ EcoSt X (l ++ behL a w X.co) g' ∧ Kept g g' := by
  refine raw_of (P := fun v g' => EcoSt X (l ++ behL a w X.co) g' ∧ Kept g g') h93 ?_
  have h0 := S.gr
  have hnx := S.nx
  simp (disch := omega) only [A_eco_pairs_2, wp, Nat.reduceAdd, Nat.reduceMul, Nat.reduceSub, gl, h0]
  refine W_loop (fun q e g1 => ∃ k, q = X.co.length - k ∧ k ≤ X.co.length ∧ e 0 = .i .i64 a ∧ e 1 = .i .i64 w ∧ e 3 = .mp 4 0 ∧ e 12 = .sl (coC X.co) X.co.length .non ∧ e 13 = .i .i64 X.co.length ∧ e 14 = .i .i64 k ∧ EcoSt X (l ++ behL a w (X.co.take k)) g1 ∧ Kept g g1) X.co.length ?_ ?_
  · refine ⟨0, rfl, Nat.zero_le _, ?_⟩
    simp (disch := omega) only [wp, Nat.reduceAdd, Nat.reduceMul, Nat.reduceSub]
    refine ⟨rfl, ?_, (Kept.refl g).on (by omega)⟩
    have : l ++ behL a w (List.take 0 X.co) = l := by simp [behL]
    rw [this]
    exact S.on (by omega)
  · rintro q e g1 ⟨k, rfl, hk, e0, e1, e3, e12, e13, e14, S1, K1⟩
    by_cases hk' : k < X.co.length
    · have hk1 : (k : Int) < X.co.length := by omega
      have hwk := succ_wrap (k := k) (by omega)
      have hcp := co_part hk'
      have hbt := behL_take (a := a) (w := w) hk'
      have hcl : (X.co.getD k []).length ≤ 1000 := hco.2 _ (by rw [List.getD_eq_getElem?_getD, List.getElem?_eq_getElem hk']; exact List.getElem_mem hk')
      have hbl : (behL a w (X.co.take k)).length ≤ 1000000 := by
        have h1 := behL_len a w (X.co.take k) (b := 1000) fun c hc => hco.2 c (List.mem_of_mem_take hc)
        rw [List.length_take] at h1
        have h2 : min k X.co.length * 1000 ≤ 1000 * 1000 := Nat.mul_le_mul (by omega) (Nat.le_refl _)
        omega
      generalize X.co.getD k [] = c at hcp hbt hcl
      generalize behL a w (X.co.take k) = B at S1 hbt hbl
      simp (disch := omega) only [wp, Nat.reduceAdd, Nat.reduceMul, Nat.reduceSub, gl, e0, e1, e3, e12, e13, e14, hk1, hcp]
      refine W_loop (fun q e g2 => ∃ j, q = c.length - j ∧ j ≤ c.length ∧ e 0 = .i .i64 a ∧ e 1 = .i .i64 w ∧ e 3 = .mp 4 0 ∧ e 12 = .sl (coC X.co) X.co.length .non ∧ e 13 = .i .i64 X.co.length ∧ e 14 = .i .i64 k ∧ e 18 = .sl (intsC c) c.length .non ∧ e 19 = .i .i64 c.length ∧ e 20 = .i .i64 j ∧ e 8 = .b (aft w (c.take j)).2 ∧ EcoSt X (l ++ B ++ (aft w (c.take j)).1.map fun i => (a, i)) g2 ∧ Kept g g2) c.length ?_ ?_
      · refine ⟨0, rfl, Nat.zero_le _, ?_⟩
        simp (disch := omega) only [wp, Nat.reduceAdd, Nat.reduceMul, Nat.reduceSub, e0, e1, e3, e12, e13, e14]
        refine ⟨rfl, rfl, ?_, K1.on (by omega)⟩
        have : l ++ B ++ (aft w (List.take 0 c)).1.map (fun i => (a, i)) = l ++ B := by simp [aft]
        rw [this]
        exact S1.on (by omega)
      · rintro q e g2 ⟨j, rfl, hj, e0, e1, e3, e12, e13, e14, e18, e19, e20, e8, S2, K2⟩
        by_cases hj' : j < c.length
        · have hj1 : (j : Int) < c.length := by omega
          have hwj := succ_wrap (k := j) (by omega)
          have hip := ints_part hj'
          have hat := aft_take (w := w) hj'
          have hal := aft_len w (c.take j)
          rw [List.length_take] at hal
          generalize c.getD j 0 = i at hip hat
          generalize aft w (c.take j) = p at hat e8 S2 hal
          obtain ⟨acc, s⟩ := p
          simp only at e8 S2 hal
          have hL : (l ++ B ++ acc.map fun i => (a, i)).length < 1099511627776 := by
            rw [List.length_append, List.length_append, List.length_map]; omega
          cases s with
          | true =>
            have f4 := S2.f4
            have n2 := S2.nx
            simp (disch := omega) only [wp, Nat.reduceAdd, Nat.reduceMul, Nat.reduceSub, gl, e0, e1, e3, e12, e13, e14, e18, e19, e20, e8, hj1, hip, f4]
            refine bindO_call _ (sp_put h92 (S2.on (n := _) (by omega)) hL a i) ?_
            rintro v g3 ⟨S3, K3⟩
            simp (disch := omega) only [wp, Nat.reduceAdd, Nat.reduceMul, Nat.reduceSub, gl, e0, e1, e3, e12, e13, e14, e18, e19, e20, e8, hwj]
            have n3 := K3.1
            dsimp only at n3
            refine ⟨c.length - (j + 1), by omega, j + 1, rfl, by omega, rfl, ?_, ?_, ((K2.trans (K3.from (by omega))).on (by first | omega | (dsimp only; omega)))⟩
            · rw [hat]; rfl
            · rw [hat]
              simp only [aftS, if_true, List.map_append, List.map_cons, List.map_nil]
              rw [← List.append_assoc]
              exact S3.on (by first | omega | (dsimp only; omega))
          | false =>
            simp (disch := omega) only [wp, Nat.reduceAdd, Nat.reduceMul, Nat.reduceSub, gl, e0, e1, e3, e12, e13, e14, e18, e19, e20, e8, hj1, hip, hwj]
            refine ⟨c.length - (j + 1), by omega, j + 1, rfl, by omega, rfl, ?_, ?_, K2.on (by first | omega | (dsimp only; omega))⟩
            · rw [hat]; simp [aftS]
            · rw [hat]
              simp only [aftS, Bool.false_eq_true, if_false]
              exact S2.on (by first | omega | (dsimp only; omega))
        · obtain rfl : j = c.length := by omega
          have hj1 : ¬ ((c.length : Int) < c.length) := by omega
          simp (disch := omega) only [wp, Nat.reduceAdd, Nat.reduceMul, Nat.reduceSub, gl, e0, e1, e3, e12, e13, e14, e18, e19, e20, e8, hj1, hwk]
          refine ⟨X.co.length - (k + 1), by omega, k + 1, rfl, by omega, rfl, ?_, K2.on (by first | omega | (dsimp only; omega))⟩
          rw [hbt, ← List.append_assoc]
          rw [List.take_length] at S2
          exact S2.on (by first | omega | (dsimp only; omega))
    · obtain rfl : k = X.co.length := by omega
      have hk1 : ¬ ((X.co.length : Int) < X.co.length) := by omega
      simp (disch := omega) only [wp, Nat.reduceAdd, Nat.reduceMul, Nat.reduceSub, gl, e0, e1, e3, e12, e13, e14, hk1]
      rw [List.take_length] at S1
      exact ⟨_, rfl, S1.on (by first | omega | (dsimp only; omega)), K1.on (by first | omega | (dsimp only; omega))⟩
end Go.Ab
end
section
set_option linter.unusedVariables false
set_option linter.unusedSimpArgs false
namespace Go.Ab
variable {F : Funs}
theorem EcoSt.grow {X : Gr} {l : List (Int × Int)} {g g' : G} (h : EcoSt X l g) (hn : g.nx ≤ g'.nx) (ho : ∀ i, i < g.nx → g'.hp i = g.hp i) : EcoSt X l g' ∧ Kept g g' := by
  have h9 := h.nx
  obtain ⟨t, h1, h2⟩ := h.put
  refine ⟨⟨by rw [ho 0 (by omega)]; exact h.gr, ⟨t, by rw [ho 2 (by omega)]; exact h1, ?_⟩, by rw [ho 4 (by omega)]; exact h.f4, by rw [ho 7 (by omega)]; exact h.f7, by rw [ho 9 (by omega)]; exact h.m9, by omega⟩, hn, fun i _ hi _ => ho i hi⟩
  rcases h2 with rfl | ⟨τ, rfl, hτ, hlt⟩
  · exact .inl rfl
  · exact .inr ⟨τ, rfl, by rw [ho τ hlt]; exact hτ, by omega⟩
def rfS (i w : Int) (e : Ev) : List (Int × Int) := if e.kd = 1 then [(w, i)] else []
def coS (co : List (List Int)) (i w : Int) (e : Ev) : List (Int × Int) := if e.kd = 2 then behL i i co else []
def frS (co : List (List Int)) (i w : Int) (e : Ev) : List (Int × Int) := if e.kd = 1 then behL i w co else []
set_option maxRecDepth 100000 in
theorem sp_94 (h94 : F 94 = some A_eco_pairs_3) (h92 : F 92 = some A_eco_pairs_1) {X : Gr} {l : List (Int × Int)} {g : G} (S : EcoSt X l g) (hl : l.length < 1000000) (i w : Int) (e : Ev) :
    ∃ v g', callS F 94 [.i .i64 i, .i .i64 w, .agg (evC e), .mp 4 0] g = some (v, g') ∧ EcoSt X (l ++ rfS i w e) g' ∧ Kept g g' := by
  refine raw_of (P := fun v g' => EcoSt X (l ++ rfS i w e) g' ∧ Kept g g') h94 ?_
  have hnx := S.nx
  have f4 := S.f4
  have grow := fun (n : Nat) (hn : g.nx ≤ n) => S.grow (g' := ⟨upd g.hp g.nx (some (.cells (evC e) false)), n⟩) hn fun i hi => by
    show upd _ _ _ _ = _
    rw [upd_ne _ _ (by omega)]
  by_cases hk : e.kd = 1
  · have hk1 : (e.kd == 1) = true := by simp [hk]
    simp (disch := omega) only [A_eco_pairs_3, wp, Nat.reduceAdd, Nat.reduceMul, Nat.reduceSub, gl, hk1, f4]
    obtain ⟨S1, K1⟩ := grow (g.nx + 1 + 3 + 4) (by omega)
    refine bindO_call _ (sp_put h92 S1 (by omega) w i) ?_
    rintro v g3 ⟨S3, K3⟩
    simp (disch := omega) only [wp, Nat.reduceAdd, Nat.reduceMul, Nat.reduceSub, gl]
    have : rfS i w e = [(w, i)] := if_pos hk
    rw [this]
    exact ⟨_, rfl, S3, K1.trans K3⟩
  · have hk1 : (e.kd == 1) = false := by simp [hk]
    simp (disch := omega) only [A_eco_pairs_3, wp, Nat.reduceAdd, Nat.reduceMul, Nat.reduceSub, gl, hk1, f4]
    have : l ++ rfS i w e = l := by rw [rfS, if_neg hk]; simp
    rw [this]
    exact ⟨_, rfl, (grow _ (by omega)).1, (grow _ (by omega)).2⟩
set_option maxRecDepth 100000 in
theorem sp_95 (h95 : F 95 = some A_eco_pairs_4) (h93 : F 93 = some A_eco_pairs_2) (h92 : F 92 = some A_eco_pairs_1) {X : Gr} {l : List (Int × Int)} {g : G} (S : EcoSt X l g) (hl : l.length < 1000000) (hco : X.co.length ≤ 1000 ∧ ∀ c ∈ X.co, c.length ≤ 1000) (i w : Int) (e : Ev) :
    ∃ v g', callS F 95 [.i .i64 i, .i .i64 w, .agg (evC e), .mp 7 0] g = some (v, g') ∧ EcoSt X (l ++ coS X.co i w e) g' ∧ Kept g g' := by
  refine raw_of (P := fun v g' => EcoSt X (l ++ coS X.co i w e) g' ∧ Kept g g') h95 ?_
  have hnx := S.nx
  have f7 := S.f7
  have grow := fun (n : Nat) (hn : g.nx ≤ n) => S.grow (g' := ⟨upd g.hp g.nx (some (.cells (evC e) false)), n⟩) hn fun i hi => by
    show upd _ _ _ _ = _
    rw [upd_ne _ _ (by omega)]
  by_cases hk : e.kd = 2
  · have hk1 : (e.kd == 2) = true := by simp [hk]
    simp (disch := omega) only [A_eco_pairs_4, wp, Nat.reduceAdd, Nat.reduceMul, Nat.reduceSub, gl, hk1, f7]
    obtain ⟨S1, K1⟩ := grow (g.nx + 1 + 3 + 4) (by omega)
    refine bindO_call _ (sp_behind h93 h92 S1 hl hco i i) ?_
    rintro v g3 ⟨S3, K3⟩
    simp (disch := omega) only [wp, Nat.reduceAdd, Nat.reduceMul, Nat.reduceSub, gl]
    have : coS X.co i w e = behL i i X.co := if_pos hk
    rw [this]
    exact ⟨_, rfl, S3, K1.trans K3⟩
  · have hk1 : (e.kd == 2) = false := by simp [hk]
    simp (disch := omega) only [A_eco_pairs_4, wp, Nat.reduceAdd, Nat.reduceMul, Nat.reduceSub, gl, hk1, f7]
    have : l ++ coS X.co i w e = l := by rw [coS, if_neg hk]; simp
    rw [this]
    exact ⟨_, rfl, (grow _ (by omega)).1, (grow _ (by omega)).2⟩
set_option maxRecDepth 100000 in
theorem sp_96 (h96 : F 96 = some A_eco_pairs_5) (h93 : F 93 = some A_eco_pairs_2) (h92 : F 92 = some A_eco_pairs_1) {X : Gr} {l : List (Int × Int)} {g : G} (S : EcoSt X l g) (hl : l.length < 1000000) (hco : X.co.length ≤ 1000 ∧ ∀ c ∈ X.co, c.length ≤ 1000) (i w : Int) (e : Ev) :
    ∃ v g', callS F 96 [.i .i64 i, .i .i64 w, .agg (evC e), .mp 7 0] g = some (v, g') ∧ EcoSt X (l ++ frS X.co i w e) g' ∧ Kept g g' := by
  refine raw_of (P := fun v g' => EcoSt X (l ++ frS X.co i w e) g' ∧ Kept g g') h96 ?_
  have hnx := S.nx
  have f7 := S.f7
  have grow := fun (n : Nat) (hn : g.nx ≤ n) => S.grow (g' := ⟨upd g.hp g.nx (some (.cells (evC e) false)), n⟩) hn fun i hi => by
    show upd _ _ _ _ = _
    rw [upd_ne _ _ (by omega)]
  by_cases hk : e.kd = 1
  · have hk1 : (e.kd == 1) = true := by simp [hk]
    simp (disch := omega) only [A_eco_pairs_5, wp, Nat.reduceAdd, Nat.reduceMul, Nat.reduceSub, gl, hk1, f7]
    obtain ⟨S1, K1⟩ := grow (g.nx + 1 + 3 + 4) (by omega)
    refine bindO_call _ (sp_behind h93 h92 S1 hl hco i w) ?_
    rintro v g3 ⟨S3, K3⟩
    simp (disch := omega) only [wp, Nat.reduceAdd, Nat.reduceMul, Nat.reduceSub, gl]
    have : frS X.co i w e = behL i w X.co := if_pos hk
    rw [this]
    exact ⟨_, rfl, S3, K1.trans K3⟩
  · have hk1 : (e.kd == 1) = false := by simp [hk]
    simp (disch := omega) only [A_eco_pairs_5, wp, Nat.reduceAdd, Nat.reduceMul, Nat.reduceSub, gl, hk1, f7]
    have : l ++ frS X.co i w e = l := by rw [frS, if_neg hk]; simp
    rw [this]
    exact ⟨_, rfl, (grow _ (by omega)).1, (grow _ (by omega)).2⟩
end Go.Ab
end
section
set_option linter.unusedVariables false
set_option linter.unusedSimpArgs false
namespace Go.Ab
variable {F : Funs}
def Few (X : Gr) : Prop := X.evs.length ≤ 60 ∧ X.co.length ≤ 6 ∧ ∀ c ∈ X.co, c.length ≤ 60
def wOf (X : Gr) (i : Nat) : Int := if i < X.rf.length then X.rf.getD i 0 else -1
def pairsE (stp : Int → Int → Ev → List (Int × Int)) (X : Gr) (k : Nat) : List (Int × Int) := (List.range k).flatMap fun (i : Nat) => stp (i : Int) (wOf X i) (X.evs.getD i ev0)
theorem pairsE_succ (stp X k) : pairsE stp X (k + 1) = pairsE stp X k ++ stp k (wOf X k) (X.evs.getD k ev0) := by simp [pairsE, List.range_succ]
theorem pairsE_len {stp X} (h : ∀ i w e, (stp i w e).length ≤ 1000) : ∀ k, (pairsE stp X k).length ≤ k * 1000
  | 0 => by simp [pairsE]
  | k + 1 => by
    rw [pairsE_succ, List.length_append, Nat.succ_mul]
    have h1 := pairsE_len (X := X) h k
    have h2 := h k (wOf X k) (X.evs.getD k ev0)
    omega
set_option maxRecDepth 100000 in
set_option maxHeartbeats 4000000 in
theorem sp_pairsE (h80 : F 80 = some A_eco_pairs) (h81 : F 81 = some A_graph_Of) (pr : Pk_rel F) {X : Gr} (hX : Few X) {s : ByteArray} {fid : Nat} {caps : List AV} {stp : Int → Int → Ev → List (Int × Int)}
    (hm : mlook [(.s ⟨#[114, 102]⟩, .fn 94 [] [.mp 4 0]), (.s ⟨#[99, 111]⟩, .fn 95 [] [.mp 7 0]), (.s ⟨#[102, 114]⟩, .fn 96 [] [.mp 7 0])] s = some (.fn fid [] caps))
    (hlen : ∀ i w e, (stp i w e).length ≤ 1000)
    (hstp : ∀ (l : List (Int × Int)) (g : G), EcoSt X l g → l.length < 1000000 → ∀ (i w : Int) (e : Ev), ∃ v g', callS F fid ([.i .i64 i, .i .i64 w, .agg (evC e)] ++ caps) g = some (v, g') ∧ EcoSt X (l ++ stp i w e) g' ∧ Kept g g') :
    pureS F 80 [.agg (grC X), .s s] = some (.ptr (relC (clamp X.evs.length) (newR (clamp X.evs.length) (pairsE stp X X.evs.length)))) := by
  refine pure_of h80 ?_
  have e1 : mlook [(AV.s ⟨#[114, 102]⟩, AV.fn 94 [] [.mp 4 0])] ⟨#[99, 111]⟩ = none := by rfl
  have e2 : mlook [(AV.s ⟨#[114, 102]⟩, AV.fn 94 [] [.mp 4 0]), (AV.s ⟨#[99, 111]⟩, AV.fn 95 [] [.mp 7 0])] ⟨#[102, 114]⟩ = none := by rfl
  have e0 : mlook [] (⟨#[114, 102]⟩ : ByteArray) = none := rfl
  have hev := hX.1
  simp (disch := omega) only [A_eco_pairs, wp, Nat.reduceAdd, Nat.reduceMul, Nat.reduceSub, gl, e0, e1, e2]
  refine W_loop (fun q e g => ∃ k, q = X.evs.length - k ∧ k ≤ X.evs.length ∧ e 1 = .s s ∧ e 2 = .mp 0 0 ∧ e 5 = .mp 2 0 ∧ e 8 = .mm 9 ∧ e 20 = .sl (evsC X.evs) X.evs.length .non ∧ e 21 = .i .i64 X.evs.length ∧ e 22 = .i .i64 k ∧ EcoSt X (pairsE stp X k) g) X.evs.length ?_ ?_
  · refine ⟨0, rfl, Nat.zero_le _, ?_⟩
    simp (disch := omega) only [wp, Nat.reduceAdd, Nat.reduceMul, Nat.reduceSub]
    refine ⟨rfl, ?_, ⟨.rig, ?_, .inl rfl⟩, ?_, ?_, ?_, ?_⟩
    · simp (disch := omega) only [upd_same, upd_ne]
    · simp (disch := omega) only [upd_same, upd_ne]; rfl
    · simp (disch := omega) only [upd_same, upd_ne]
    · simp (disch := omega) only [upd_same, upd_ne]
    · simp (disch := omega) only [upd_same, upd_ne]
    · first | omega | (dsimp only; omega)
  · rintro q e g ⟨k, rfl, hk, e1, e2, e5, e8, e20, e21, e22, S⟩
    have hnx := S.nx
    have h0 := S.gr
    have h9 := S.m9
    by_cases hk' : k < X.evs.length
    · have hk1 : (k : Int) < X.evs.length := by omega
      have hwk := succ_wrap (k := k) (by omega)
      have hp := ev_part hk'
      have hs := pairsE_succ stp X k
      have hl := pairsE_len (X := X) hlen k
      generalize hE : X.evs.getD k ev0 = ev at hp hs
      have grow : ∀ n, g.nx ≤ n → EcoSt X (pairsE stp X k) ⟨upd (upd g.hp (g.nx + 1 + 3) (some (.cells (List.replicate 5 (AV.i .i64 0) ++ [.b false]) false))) (g.nx + 1 + 3) (some (.cells (evC ev) false)), n⟩ := fun n hn =>
        (S.grow hn fun i hi => by
          show upd _ _ _ _ = _
          rw [upd_ne _ _ (by omega), upd_ne _ _ (by omega)]).1
      by_cases hr : k < X.rf.length
      · have hr1 : (k : Int) < X.rf.length := by omega
        have hip := ints_part hr
        have hw : wOf X k = X.rf.getD k 0 := if_pos hr
        rw [hw] at hs
        generalize X.rf.getD k 0 = w at hip hs
        simp (disch := omega) only [wp, Nat.reduceAdd, Nat.reduceMul, Nat.reduceSub, gl, e1, e2, e5, e8, e20, e21, e22, h0, h9, hk1, hp, hr1, hip, hm]
        refine bindO_call _ (hstp _ _ (grow _ (by omega)) (by omega) k w ev) ?_
        rintro v g3 ⟨S3, K3⟩
        simp (disch := omega) only [wp, Nat.reduceAdd, Nat.reduceMul, Nat.reduceSub, gl, e1, e2, e5, e8, e20, e21, e22, hwk]
        refine ⟨X.evs.length - (k + 1), by omega, k + 1, rfl, by omega, rfl, ?_⟩
        rw [hs]
        exact S3.on (by first | omega | (dsimp only; omega))
      · have hr1 : ¬ (k : Int) < X.rf.length := by omega
        have hw : wOf X k = -1 := if_neg hr
        rw [hw] at hs
        simp (disch := omega) only [wp, Nat.reduceAdd, Nat.reduceMul, Nat.reduceSub, gl, e1, e2, e5, e8, e20, e21, e22, h0, h9, hk1, hp, hr1, hm]
        refine bindO_call _ (hstp _ _ (grow _ (by omega)) (by omega) k (-1) ev) ?_
        rintro v g3 ⟨S3, K3⟩
        simp (disch := omega) only [wp, Nat.reduceAdd, Nat.reduceMul, Nat.reduceSub, gl, e1, e2, e5, e8, e20, e21, e22, hwk]
        refine ⟨X.evs.length - (k + 1), by omega, k + 1, rfl, by omega, rfl, ?_⟩
        rw [hs]
        exact S3.on (by first | omega | (dsimp only; omega))
    · obtain rfl : k = X.evs.length := by omega
      have hk1 : ¬ ((X.evs.length : Int) < X.evs.length) := by omega
      obtain ⟨t, hp, ht⟩ := S.put
      have hl := pairsE_len (X := X) hlen X.evs.length
      have hof := sp_of h81 pr X (pairsE stp X X.evs.length) .non (by omega)
      simp (disch := omega) only [wp, Nat.reduceAdd, Nat.reduceMul, Nat.reduceSub, gl, e1, e2, e5, e8, e20, e21, e22, h0, hk1, hp, hof]
end Go.Ab
end
section
set_option linter.unusedVariables false
set_option linter.unusedSimpArgs false
namespace Go.Ab
variable {F : Funs}
def nOf (X : Gr) : Nat := clamp X.evs.length
def relE (stp : Int → Int → Ev → List (Int × Int)) (X : Gr) : Rw := newR (nOf X) (pairsE stp X X.evs.length)
theorem few_beh {X : Gr} (hX : Few X) (i w : Int) : (behL i w X.co).length ≤ 1000 := by
  have h1 := behL_len i w X.co hX.2.2
  have h2 : X.co.length * 60 ≤ 6 * 60 := Nat.mul_le_mul hX.2.1 (Nat.le_refl _)
  omega
theorem few_co {X : Gr} (hX : Few X) : X.co.length ≤ 1000 ∧ ∀ c ∈ X.co, c.length ≤ 1000 := ⟨by have := hX.2.1; omega, fun c hc => by have := hX.2.2 c hc; omega⟩
set_option maxRecDepth 100000 in
theorem sp_Rf (pe : Pk_eco F) (h81 : F 81 = some A_graph_Of) (pr : Pk_rel F) {X : Gr} (hX : Few X) : pureS F 48 [.agg (grC X)] = some (.ptr (relC (nOf X) (relE rfS X))) := by
  refine pure_of pe.eco_Rf ?_
  have h := sp_pairsE pe.eco_pairs h81 pr hX (s := ⟨#[114, 102]⟩) (fid := 94) (caps := [.mp 4 0]) (stp := rfS) (by rfl) (fun i w e => by unfold rfS; split <;> simp) (fun l g S hl i w e => sp_94 pe.eco_pairs_3 pe.eco_pairs_1 S hl i w e)
  simp (disch := omega) only [A_eco_Rf, wp, Nat.reduceAdd, Nat.reduceMul, Nat.reduceSub, gl, h]
  rfl
set_option maxRecDepth 100000 in
theorem sp_Co (pe : Pk_eco F) (h81 : F 81 = some A_graph_Of) (pr : Pk_rel F) {X : Gr} (hX : Few X) : pureS F 49 [.agg (grC X)] = some (.ptr (relC (nOf X) (relE (coS X.co) X))) := by
  refine pure_of pe.eco_Co ?_
  have h := sp_pairsE pe.eco_pairs h81 pr hX (s := ⟨#[99, 111]⟩) (fid := 95) (caps := [.mp 7 0]) (stp := coS X.co) (by rfl) (fun i w e => by unfold coS; split; exact few_beh hX i i; simp) (fun l g S hl i w e => sp_95 pe.eco_pairs_4 pe.eco_pairs_2 pe.eco_pairs_1 S hl (few_co hX) i w e)
  simp (disch := omega) only [A_eco_Co, wp, Nat.reduceAdd, Nat.reduceMul, Nat.reduceSub, gl, h]
  rfl
set_option maxRecDepth 100000 in
theorem sp_Fr (pe : Pk_eco F) (h81 : F 81 = some A_graph_Of) (pr : Pk_rel F) {X : Gr} (hX : Few X) : pureS F 50 [.agg (grC X)] = some (.ptr (relC (nOf X) (relE (frS X.co) X))) := by
  refine pure_of pe.eco_Fr ?_
  have h := sp_pairsE pe.eco_pairs h81 pr hX (s := ⟨#[102, 114]⟩) (fid := 96) (caps := [.mp 7 0]) (stp := frS X.co) (by rfl) (fun i w e => by unfold frS; split; exact few_beh hX i w; simp) (fun l g S hl i w e => sp_96 pe.eco_pairs_5 pe.eco_pairs_2 pe.eco_pairs_1 S hl (few_co hX) i w e)
  simp (disch := omega) only [A_eco_Fr, wp, Nat.reduceAdd, Nat.reduceMul, Nat.reduceSub, gl, h]
  rfl
def ecoR (X : Gr) : Rw := plusR (nOf X) (orR (orR (relE rfS X) (relE (coS X.co) X)) (relE (frS X.co) X))
theorem nOf_le (X : Gr) : nOf X ≤ 40 := clamp_le _
set_option maxRecDepth 100000 in
theorem sp_Eco (pe : Pk_eco F) (h81 : F 81 = some A_graph_Of) (pr : Pk_rel F) {X : Gr} (hX : Few X) : pureS F 42 [.agg (grC X)] = some (.ptr (relC (nOf X) (ecoR X))) := by
  refine pure_of pe.eco_Eco ?_
  have hn := nOf_le X
  simp (disch := omega) only [A_eco_Eco, wp, Nat.reduceAdd, Nat.reduceMul, Nat.reduceSub, gl, sp_Rf pe h81 pr hX, sp_Co pe h81 pr hX, sp_Fr pe h81 pr hX, sp_or pr, Nat.max_self, sp_plus pr]
  rfl
def okP (so : Ev → Ev → Bool) (X : Gr) (p : Int × Int) : Bool := decide (p.1 < X.evs.length) && decide (p.2 < X.evs.length) && so (X.evs.getD p.1.toNat ev0) (X.evs.getD p.2.toNat ev0)
theorem filter_take {P : Int × Int → Bool} {l : List (Int × Int)} {k : Nat} (h : k < l.length) : (l.take (k + 1)).filter P = (l.take k).filter P ++ (if P (l.getD k (0, 0)) then [l.getD k (0, 0)] else []) := by
  rw [List.take_add_one, List.filter_append, List.getElem?_eq_getElem h, List.getD_eq_getElem?_getD, List.getElem?_eq_getElem h]
  simp only [Option.toList, Option.getD_some, List.filter_cons, List.filter_nil]
set_option maxRecDepth 100000 in
set_option maxHeartbeats 8000000 in
theorem sp_someE (pe : Pk_eco F) (h81 : F 81 = some A_graph_Of) (pr : Pk_rel F) {X : Gr} {n : Nat} (hn : n ≤ 40) (R : Rw) {fid : Nat} {so : Ev → Ev → Bool} (hso : ∀ x y, pureS F fid [.agg (evC x), .agg (evC y)] = some (.b (so x y))) :
    pureS F 57 [.agg (grC X), .ptr (relC n R), .fn fid [] []] = some (.ptr (relC (nOf X) (newR (nOf X) ((pairsR n R).filter (okP so X))))) := by
  refine pure_of pe.eco_some ?_
  have hlen := pairsR_len hn R
  simp (disch := omega) only [A_eco_some, wp, Nat.reduceAdd, Nat.reduceMul, Nat.reduceSub, gl, sp_pairs pr hn]
  generalize hL : pairsR n R = L at hlen
  refine W_loop (fun q e g => ∃ k t, q = L.length - k ∧ k ≤ L.length ∧ e 2 = .fn fid [] [] ∧ e 3 = .mp 0 0 ∧ e 11 = .sl (pairsC L) L.length .non ∧ e 12 = .i .i64 L.length ∧ e 13 = .i .i64 k ∧ e 7 = .sl (pairsC ((L.take k).filter (okP so X))) ((L.take k).filter (okP so X)).length t ∧ Live g 2 t ∧ g.hp 0 = some (.cells (grC X) false) ∧ 0 < g.nx) L.length ?_ ?_
  · refine ⟨0, .rig, rfl, Nat.zero_le _, ?_⟩
    simp (disch := omega) only [wp, Nat.reduceAdd, Nat.reduceMul, Nat.reduceSub]
    exact ⟨rfl, rfl, .inl rfl, by first | omega | (dsimp only; omega)⟩
  · rintro q e g ⟨k, t, rfl, hk, e2, e3, e11, e12, e13, e7, ht, h0, hnx⟩
    by_cases hk' : k < L.length
    · have hk1 : (k : Int) < L.length := by omega
      have hw := succ_wrap (k := k) (by omega)
      have hp := pairs_part hk'
      have hf := filter_take (P := okP so X) hk'
      have hfl : ((L.take k).filter (okP so X)).length ≤ 1600 := by
        have h1 := List.length_filter_le (okP so X) (L.take k)
        rw [List.length_take] at h1; omega
      have hmem : L.getD k (0, 0) ∈ pairsR n R := by
        rw [hL, List.getD_eq_getElem?_getD, List.getElem?_eq_getElem hk']
        exact List.getElem_mem hk'
      obtain ⟨m1, m2, m3, m4⟩ := pairsR_mem hmem
      generalize L.getD k (0, 0) = p at hp hf m1 m2 m3 m4
      generalize (L.take k).filter (okP so X) = B at e7 hf hfl
      obtain ⟨a, b⟩ := p
      simp only at m1 m2 m3 m4
      have n1 : 0 ≠ g.nx + 1 + 2 := by omega
      have hno : ∀ {x}, okP so X (a, b) = x → x = false → (L.take (k + 1)).filter (okP so X) = B := fun h1 h2 => by rw [hf, h1, h2]; simp
      by_cases iA : a < X.evs.length
      · by_cases iB : b < X.evs.length
        · have pA := ev_part (l := X.evs) (k := a.toNat) (by omega)
          have pB := ev_part (l := X.evs) (k := b.toNat) (by omega)
          cases hs : so (X.evs.getD a.toNat ev0) (X.evs.getD b.toNat ev0) with
          | true =>
            have hok : okP so X (a, b) = true := by simp only [okP, hs, decide_eq_true iA, decide_eq_true iB, Bool.and_true]
            rw [if_pos hok] at hf
            rcases ht with rfl | ⟨τ, rfl, hτ, hlt⟩
            · simp (disch := omega) only [wp, Nat.reduceAdd, Nat.reduceMul, Nat.reduceSub, gl, e2, e3, e11, e12, e13, e7, h0, hk1, hp, iA, iB, pA, pB, hso, hs, pairsC_len, hw]
              refine ⟨L.length - (k + 1), by omega, k + 1, ?_⟩
              rw [hf, pairsC_app, pairsC_one, List.length_append]
              exact ⟨_, rfl, by omega, rfl, rfl, .inr ⟨_, rfl, upd_same _ _ _, by first | omega | (dsimp only; omega)⟩, by first | omega | (dsimp only; omega)⟩
            · have n0 : τ ≠ 0 := fun h => by rw [h, h0] at hτ; cases hτ
              simp (disch := omega) only [wp, Nat.reduceAdd, Nat.reduceMul, Nat.reduceSub, gl, e2, e3, e11, e12, e13, e7, h0, hk1, hp, iA, iB, pA, pB, hso, hs, pairsC_len, hw, hτ]
              refine ⟨L.length - (k + 1), by omega, k + 1, ?_⟩
              rw [hf, pairsC_app, pairsC_one, List.length_append]
              exact ⟨_, rfl, by omega, rfl, rfl, .inr ⟨_, rfl, upd_same _ _ _, by first | omega | (dsimp only; omega)⟩, by first | omega | (dsimp only; omega)⟩
          | false =>
            have hB := hno (x := false) (by simp only [okP, hs, Bool.and_false]) rfl
            simp (disch := omega) only [wp, Nat.reduceAdd, Nat.reduceMul, Nat.reduceSub, gl, e2, e3, e11, e12, e13, e7, h0, hk1, hp, iA, iB, pA, pB, hso, hs, hw]
            refine ⟨L.length - (k + 1), by omega, k + 1, t, rfl, by omega, rfl, ?_⟩
            rw [hB]
            refine ⟨rfl, ?_, by first | omega | (dsimp only; omega)⟩
            rcases ht with rfl | ⟨τ, rfl, hτ, hlt⟩
            · exact .inl rfl
            · exact .inr ⟨τ, rfl, by simp (disch := omega) only [upd_ne]; exact hτ, by first | omega | (dsimp only; omega)⟩
        · have hB := hno (x := false) (by simp [okP, iB]) rfl
          simp (disch := omega) only [wp, Nat.reduceAdd, Nat.reduceMul, Nat.reduceSub, gl, e2, e3, e11, e12, e13, e7, h0, hk1, hp, iA, iB, hw]
          refine ⟨L.length - (k + 1), by omega, k + 1, t, rfl, by omega, rfl, ?_⟩
          rw [hB]
          refine ⟨rfl, ?_, by first | omega | (dsimp only; omega)⟩
          rcases ht with rfl | ⟨τ, rfl, hτ, hlt⟩
          · exact .inl rfl
          · exact .inr ⟨τ, rfl, by simp (disch := omega) only [upd_ne]; exact hτ, by first | omega | (dsimp only; omega)⟩
      · have hB := hno (x := false) (by simp [okP, iA]) rfl
        simp (disch := omega) only [wp, Nat.reduceAdd, Nat.reduceMul, Nat.reduceSub, gl, e2, e3, e11, e12, e13, e7, h0, hk1, hp, iA, hw]
        refine ⟨L.length - (k + 1), by omega, k + 1, t, rfl, by omega, rfl, ?_⟩
        rw [hB]
        refine ⟨rfl, ?_, by first | omega | (dsimp only; omega)⟩
        rcases ht with rfl | ⟨τ, rfl, hτ, hlt⟩
        · exact .inl rfl
        · exact .inr ⟨τ, rfl, by simp (disch := omega) only [upd_ne]; exact hτ, by first | omega | (dsimp only; omega)⟩
    · obtain rfl : k = L.length := by omega
      have hk1 : ¬ ((L.length : Int) < L.length) := by omega
      rw [List.take_length] at e7
      have hfl : (L.filter (okP so X)).length ≤ 1600 := by
        have h1 := List.length_filter_le (okP so X) L
        omega
      have hof := sp_of h81 pr X (L.filter (okP so X)) .non (by omega)
      simp (disch := omega) only [wp, Nat.reduceAdd, Nat.reduceMul, Nat.reduceSub, gl, e2, e3, e11, e12, e13, e7, h0, hk1, hof]
      rfl
end Go.Ab
end
section
set_option linter.unusedVariables false
set_option linter.unusedSimpArgs false
namespace Go.Ab
variable {F : Funs}
def inner (x y : Ev) : Bool := x.th == y.th
def outer (x y : Ev) : Bool := x.th != y.th
def locP (x y : Ev) : Bool := x.kd != 3 && y.kd != 3 && x.lc == y.lc
set_option maxRecDepth 100000 in
theorem sp_58 (h : F 58 = some A_eco_Inner_1) (x y : Ev) : pureS F 58 [.agg (evC x), .agg (evC y)] = some (.b (inner x y)) := by
  refine pure_of h ?_
  simp (disch := omega) only [A_eco_Inner_1, wp, Nat.reduceAdd, Nat.reduceMul, Nat.reduceSub, gl]
  rfl
set_option maxRecDepth 100000 in
theorem sp_59 (h : F 59 = some A_eco_Outer_1) (x y : Ev) : pureS F 59 [.agg (evC x), .agg (evC y)] = some (.b (outer x y)) := by
  refine pure_of h ?_
  simp (disch := omega) only [A_eco_Outer_1, wp, Nat.reduceAdd, Nat.reduceMul, Nat.reduceSub, gl]
  rfl
set_option maxRecDepth 100000 in
theorem sp_61 (h : F 61 = some A_eco_Loc_1) (x y : Ev) : pureS F 61 [.agg (evC x), .agg (evC y)] = some (.b (locP x y)) := by
  refine pure_of h ?_
  unfold locP
  cases h1 : (x.kd != 3) with
  | true =>
    cases h2 : (y.kd != 3) with
    | true => simp (disch := omega) only [A_eco_Loc_1, wp, Nat.reduceAdd, Nat.reduceMul, Nat.reduceSub, gl, h1, h2]
    | false => simp (disch := omega) only [A_eco_Loc_1, wp, Nat.reduceAdd, Nat.reduceMul, Nat.reduceSub, gl, h1, h2]
  | false => simp (disch := omega) only [A_eco_Loc_1, wp, Nat.reduceAdd, Nat.reduceMul, Nat.reduceSub, gl, h1]
def partR (so : Ev → Ev → Bool) (X : Gr) (n : Nat) (R : Rw) : Rw := newR (nOf X) ((pairsR n R).filter (okP so X))
set_option maxRecDepth 100000 in
theorem sp_Inner (pe : Pk_eco F) (h81 : F 81 = some A_graph_Of) (pr : Pk_rel F) {X : Gr} {n : Nat} (hn : n ≤ 40) (R : Rw) : pureS F 39 [.agg (grC X), .ptr (relC n R)] = some (.ptr (relC (nOf X) (partR inner X n R))) := by
  refine pure_of pe.eco_Inner ?_
  have h := sp_someE pe h81 pr (X := X) hn R (sp_58 pe.eco_Inner_1)
  simp (disch := omega) only [A_eco_Inner, wp, Nat.reduceAdd, Nat.reduceMul, Nat.reduceSub, gl, h]
  rfl
set_option maxRecDepth 100000 in
theorem sp_Outer (pe : Pk_eco F) (h81 : F 81 = some A_graph_Of) (pr : Pk_rel F) {X : Gr} {n : Nat} (hn : n ≤ 40) (R : Rw) : pureS F 40 [.agg (grC X), .ptr (relC n R)] = some (.ptr (relC (nOf X) (partR outer X n R))) := by
  refine pure_of pe.eco_Outer ?_
  have h := sp_someE pe h81 pr (X := X) hn R (sp_59 pe.eco_Outer_1)
  simp (disch := omega) only [A_eco_Outer, wp, Nat.reduceAdd, Nat.reduceMul, Nat.reduceSub, gl, h]
  rfl
end Go.Ab
end
section
set_option linter.unusedVariables false
set_option linter.unusedSimpArgs false
namespace Go.Ab
variable {F : Funs}
def poB (a b : Nat) (x y : Ev) : Bool := ((x.th == 0) && (y.th != 0)) || ((x.th == y.th) && ((x.th != 0) && decide (a < b)))
def poReg : ACode := match A_graph_Po.body with
  | .seq _ (.seq _ (.seq (.seq _ (.blk _ (.loop (.seq _ (.seq _ (.seq (.blk _ (.seq _ (.seq _ (.blk _ (.loop (.seq _ (.seq _ (.seq (.blk _ (.seq _ (.seq r _))) _)))))))) _)))))) _)) => r
  | _ => .skip
set_option maxRecDepth 100000 in
set_option maxHeartbeats 4000000 in
theorem po_reg {e : Env} {g : G} {a b i j : Nat} {x y : Ev} (h5 : e 5 = .mp i 0) (h7 : e 7 = .mp j 0) (h4 : e 4 = .i .i64 a) (h6 : e 6 = .i .i64 b) (hi : g.hp i = some (.cells (evC x) false)) (hj : g.hp j = some (.cells (evC y) false)) :
    W F poReg e g (midQ fun e' g' => e' 48 = .b (poB a b x y) ∧ (∀ t, t < 24 → e' t = e t) ∧ g' = ⟨g.hp, g.nx + 25⟩) := by
  have fin : ∀ {e' : Env}, (∀ t, t < 24 → e' t = e t) → True := fun _ => trivial
  unfold poB
  cases c1 : (x.th == 0) <;> cases c2 : (y.th != 0) <;> cases c3 : (x.th == y.th) <;> cases c4 : (x.th != 0) <;> cases c5 : decide ((a : Int) < b) <;>
    (have c5' : decide (a < b) = decide ((a : Int) < b) := by rw [decide_eq_decide]; omega) <;>
    rw [c5] at c5' <;>
    simp (disch := omega) only [poReg, A_graph_Po, wp, Nat.reduceAdd, Nat.reduceMul, Nat.reduceSub, gl, h5, h7, h4, h6, hi, hj, c1, c2, c3, c4, c5, c5'] <;>
    (intro t ht; simp (disch := omega) only [upd_ne])
def A_graph_Po' : AFun := { res := [.t 2], body := (.seq (.reg false [{ dst := some 1, op := .box (.t 0) },
  { dst := some 2, op := .mv (.c (.nilp)) }])
 (.seq (.reg false [{ dst := some 3, op := .mv (.c (.sl [] 0 .rig)) }])
 (.seq (.seq (.reg false [{ dst := some 8, op := .fa 1 (.t 1) },
  { dst := some 9, op := .ld none (.t 8) },
  { dst := some 10, op := .len (.t 9) },
  { dst := some 11, op := .mv (.c (.i .i64 0)) }])
 (.blk 0 (.loop (.seq (.reg false [{ dst := some 12, op := .bin .lss (.t 11) (.t 10) }])
 (.seq (.cond (.t 12) .skip
 (.ext 0))
 (.seq (.blk 1 (.seq (.reg false [{ dst := some 13, op := .mv (.t 11) },
  { dst := some 14, op := .ia 6 (.t 9) (.t 11) },
  { dst := some 15, op := .ld (some 6) (.t 14) },
  { dst := some 5, op := .new (List.replicate 5 (.i .i64 0) ++ [.b false]) },
  { dst := some 4, op := .mv (.t 13) },
  { dst := none, op := .st 6 (.t 5) (.t 15) }])
 (.seq (.reg false [{ dst := some 16, op := .fa 1 (.t 1) },
  { dst := some 17, op := .ld none (.t 16) },
  { dst := some 18, op := .len (.t 17) },
  { dst := some 19, op := .mv (.c (.i .i64 0)) }])
 (.blk 2 (.loop (.seq (.reg false [{ dst := some 20, op := .bin .lss (.t 19) (.t 18) }])
 (.seq (.cond (.t 20) .skip
 (.ext 2))
 (.seq (.blk 3 (.seq (.reg false [{ dst := some 21, op := .mv (.t 19) },
  { dst := some 22, op := .ia 6 (.t 17) (.t 19) },
  { dst := some 23, op := .ld (some 6) (.t 22) },
  { dst := some 7, op := .new (List.replicate 5 (.i .i64 0) ++ [.b false]) },
  { dst := some 6, op := .mv (.t 21) },
  { dst := none, op := .st 6 (.t 7) (.t 23) }])
 (.seq poReg
 (.cond (.t 48) (.reg false [{ dst := some 49, op := .mv (.t 3) },
  { dst := some 50, op := .mv (.t 4) },
  { dst := some 51, op := .mv (.t 6) },
  { dst := some 52, op := .build ([.i .i64 0, .i .i64 0]) [(0, 1, .t 50), (1, 1, .t 51)] },
  { dst := some 53, op := .bsl true 1 ([.i .i64 0, .i .i64 0]) [(0, 2, .t 52)] },
  { dst := some 54, op := .app 2 16 (.t 49) (.t 53) },
  { dst := some 3, op := .mv (.t 54) }])
 .skip))))
 (.reg false [{ dst := some 55, op := .bin .add (.t 19) (.c (.i .i64 1)) },
  { dst := some 19, op := .mv (.t 55) }])))))))))
 (.reg false [{ dst := some 56, op := .bin .add (.t 11) (.c (.i .i64 1)) },
  { dst := some 11, op := .mv (.t 56) }])))))))
 (.seq (.reg false [{ dst := some 57, op := .ld (some 8) (.t 1) },
  { dst := some 58, op := .mv (.t 3) },
  { dst := some 59, op := .call .pure (.c (.fn 81 [] [])) [.t 57, .t 58] },
  { dst := some 2, op := .mv (.t 59) }])
 .ret)))) }
theorem po_eq : A_graph_Po = A_graph_Po' := rfl
def poRow (X : Gr) (k j : Nat) : List (Int × Int) := ((List.range j).filter fun (b : Nat) => poB k b (X.evs.getD k ev0) (X.evs.getD b ev0)).map fun (b : Nat) => ((k : Int), (b : Int))
def poK (X : Gr) (k : Nat) : List (Int × Int) := (List.range k).flatMap fun a => poRow X a X.evs.length
def poL (X : Gr) (k j : Nat) : List (Int × Int) := poK X k ++ poRow X k j
theorem poK_succ (X k) : poK X (k + 1) = poL X k X.evs.length := by simp [poK, poL, List.range_succ]
theorem poL_0 (X k) : poL X k 0 = poK X k := by simp [poL, poRow]
theorem poL_succ (X k j) : poL X k (j + 1) = if poB k j (X.evs.getD k ev0) (X.evs.getD j ev0) then poL X k j ++ [((k : Int), (j : Int))] else poL X k j := by
  unfold poL poRow
  rw [List.range_succ, List.filter_append, List.filter_cons]
  split <;> simp
set_option maxRecDepth 100000 in
set_option maxHeartbeats 4000000 in
theorem sp_Po (h60 : F 60 = some A_graph_Po) (h81 : F 81 = some A_graph_Of) (pr : Pk_rel F) {X : Gr} (hX : X.evs.length ≤ 1000) : pureS F 60 [.agg (grC X)] = some (.ptr (relC (nOf X) (newR (nOf X) (poK X X.evs.length)))) := by
  rw [po_eq] at h60
  refine pure_of h60 ?_
  simp (disch := omega) only [A_graph_Po', wp, Nat.reduceAdd, Nat.reduceMul, Nat.reduceSub, gl]
  refine W_loop (fun q e g => ∃ k t, q = X.evs.length - k ∧ k ≤ X.evs.length ∧ e 1 = .mp 0 0 ∧ e 9 = .sl (evsC X.evs) X.evs.length .non ∧ e 10 = .i .i64 X.evs.length ∧ e 11 = .i .i64 k ∧ e 3 = .sl (pairsC (poK X k)) (poK X k).length t ∧ Live g 2 t ∧ (poK X k).length ≤ 1000 * k ∧ g.hp 0 = some (.cells (grC X) false) ∧ 0 < g.nx) X.evs.length ?_ ?_
  · refine ⟨0, .rig, rfl, Nat.zero_le _, ?_⟩
    simp (disch := omega) only [wp, Nat.reduceAdd, Nat.reduceMul, Nat.reduceSub]
    exact ⟨rfl, rfl, .inl rfl, Nat.zero_le _, by first | omega | (dsimp only; omega)⟩
  · rintro q e g ⟨k, t, rfl, hk, e1, e9, e10, e11, e3, ht, hl, h0, hnx⟩
    by_cases hk' : k < X.evs.length
    · have hk1 : (k : Int) < X.evs.length := by omega
      have hwk := succ_wrap (k := k) (by omega)
      have hpk := ev_part hk'
      have n1 : 0 ≠ g.nx + 1 + 3 := by omega
      simp (disch := omega) only [wp, Nat.reduceAdd, Nat.reduceMul, Nat.reduceSub, gl, e1, e9, e10, e11, e3, h0, hk1, hpk]
      refine W_loop (fun q e g2 => ∃ j t, q = X.evs.length - j ∧ j ≤ X.evs.length ∧ e 1 = .mp 0 0 ∧ e 9 = .sl (evsC X.evs) X.evs.length .non ∧ e 10 = .i .i64 X.evs.length ∧ e 11 = .i .i64 k ∧ e 4 = .i .i64 k ∧ e 5 = .mp (g.nx + 1 + 3) 0 ∧ e 17 = .sl (evsC X.evs) X.evs.length .non ∧ e 18 = .i .i64 X.evs.length ∧ e 19 = .i .i64 j ∧ e 3 = .sl (pairsC (poL X k j)) (poL X k j).length t ∧ Live g2 2 t ∧ (poL X k j).length ≤ 1000 * k + j ∧ g2.hp 0 = some (.cells (grC X) false) ∧ g2.hp (g.nx + 1 + 3) = some (.cells (evC (X.evs.getD k ev0)) false) ∧ g.nx + 1 + 3 < g2.nx) X.evs.length ?_ ?_
      · refine ⟨0, t, rfl, Nat.zero_le _, ?_⟩
        simp (disch := omega) only [wp, Nat.reduceAdd, Nat.reduceMul, Nat.reduceSub, e1, e9, e10, e11, e3, h0, poL_0]
        refine ⟨rfl, ?_, by first | omega | (dsimp only; omega), by first | omega | (dsimp only; omega)⟩
        rcases ht with rfl | ⟨τ, rfl, hτ, hlt⟩
        · exact .inl rfl
        · exact .inr ⟨τ, rfl, by simp (disch := omega) only [upd_ne]; exact hτ, by first | omega | (dsimp only; omega)⟩
      · rintro q e g2 ⟨j, t, rfl, hj, e1, e9, e10, e11, e4, e5, e17, e18, e19, e3, ht, hl, h0, hc, hn2⟩
        by_cases hj' : j < X.evs.length
        · have hj1 : (j : Int) < X.evs.length := by omega
          have hwj := succ_wrap (k := j) (by omega)
          have hpj := ev_part hj'
          have hLs := poL_succ X k j
          simp (disch := omega) only [wp, Nat.reduceAdd, Nat.reduceMul, Nat.reduceSub, gl, e1, e9, e10, e11, e4, e5, e17, e18, e19, e3, hj1, hpj]
          have m1 : g.nx + 1 + 3 ≠ g2.nx + 1 + 3 := by omega
          refine W_mono (po_reg (a := k) (b := j) (i := g.nx + 1 + 3) (j := g2.nx + 1 + 3) (x := X.evs.getD k ev0) (y := X.evs.getD j ev0) (by simp (disch := omega) only [upd_ne, e5]) (by simp (disch := omega) only [upd_ne, upd_same]) (by simp (disch := omega) only [upd_ne, e4]) (by simp (disch := omega) only [upd_ne, upd_same]) (by simp (disch := omega) only [upd_ne]; exact hc) (by simp (disch := omega) only [upd_same])) ?_
          intro o e' g' hm
          cases o with
          | ext n => exact hm.elim
          | ret => exact hm.elim
          | nrm =>
            obtain ⟨f48, hfr, rfl⟩ := hm
            have f1 := hfr 1 (by omega)
            have f3 := hfr 3 (by omega)
            have f4 := hfr 4 (by omega)
            have f5 := hfr 5 (by omega)
            have f6 := hfr 6 (by omega)
            have f9 := hfr 9 (by omega)
            have f10 := hfr 10 (by omega)
            have f11 := hfr 11 (by omega)
            have f17 := hfr 17 (by omega)
            have f18 := hfr 18 (by omega)
            have f19 := hfr 19 (by omega)
            simp (disch := omega) only [upd_ne, upd_same, e1, e3, e4, e5, e9, e10, e11, e17, e18, e19] at f1 f3 f4 f5 f6 f9 f10 f11 f17 f18 f19
            clear hfr
            cases hB : poB k j (X.evs.getD k ev0) (X.evs.getD j ev0) with
            | true =>
              rw [hB] at f48 hLs
              rw [if_pos rfl] at hLs
              rcases ht with rfl | ⟨τ, rfl, hτ, hlt⟩
              · simp (disch := omega) only [wp, Nat.reduceAdd, Nat.reduceMul, Nat.reduceSub, gl, f1, f3, f4, f5, f6, f9, f10, f11, f17, f18, f19, f48, pairsC_len, hwj]
                refine ⟨X.evs.length - (j + 1), by omega, j + 1, ?_⟩
                rw [hLs, pairsC_app, pairsC_one, List.length_append]
                exact ⟨_, rfl, by omega, rfl, rfl, .inr ⟨_, rfl, upd_same _ _ _, by first | omega | (dsimp only; omega)⟩, by simp; omega, h0, hc, by first | omega | (dsimp only; omega)⟩
              · have n0 : τ ≠ 0 := fun h => by rw [h, h0] at hτ; cases hτ
                have nc : τ ≠ g.nx + 1 + 3 := fun h => by rw [h, hc] at hτ; cases hτ
                simp (disch := omega) only [wp, Nat.reduceAdd, Nat.reduceMul, Nat.reduceSub, gl, f1, f3, f4, f5, f6, f9, f10, f11, f17, f18, f19, f48, pairsC_len, hwj, hτ]
                refine ⟨X.evs.length - (j + 1), by omega, j + 1, ?_⟩
                rw [hLs, pairsC_app, pairsC_one, List.length_append]
                exact ⟨_, rfl, by omega, rfl, rfl, .inr ⟨_, rfl, upd_same _ _ _, by first | omega | (dsimp only; omega)⟩, by simp; omega, h0, hc, by first | omega | (dsimp only; omega)⟩
            | false =>
              rw [hB] at f48 hLs
              rw [if_neg (by simp)] at hLs
              simp (disch := omega) only [wp, Nat.reduceAdd, Nat.reduceMul, Nat.reduceSub, gl, f1, f3, f4, f5, f6, f9, f10, f11, f17, f18, f19, f48, hwj]
              refine ⟨X.evs.length - (j + 1), by omega, j + 1, t, rfl, by omega, rfl, ?_⟩
              rw [hLs]
              refine ⟨rfl, ?_, by omega, by first | exact h0 | (simp (disch := omega) only [upd_ne]; exact h0), by first | exact hc | (simp (disch := omega) only [upd_ne]; exact hc), by first | omega | (dsimp only; omega)⟩
              rcases ht with rfl | ⟨τ, rfl, hτ, hlt⟩
              · exact .inl rfl
              · exact .inr ⟨τ, rfl, by simp (disch := omega) only [upd_ne]; exact hτ, by first | omega | (dsimp only; omega)⟩
        · obtain rfl : j = X.evs.length := by omega
          have hj1 : ¬ ((X.evs.length : Int) < X.evs.length) := by omega
          rw [← poK_succ] at e3 hl
          simp (disch := omega) only [wp, Nat.reduceAdd, Nat.reduceMul, Nat.reduceSub, gl, e1, e9, e10, e11, e4, e5, e17, e18, e19, e3, hj1, hwk]
          refine ⟨X.evs.length - (k + 1), by omega, k + 1, t, rfl, by omega, rfl, rfl, ?_, by omega, h0, by first | omega | (dsimp only; omega)⟩
          rcases ht with rfl | ⟨τ, rfl, hτ, hlt⟩
          · exact .inl rfl
          · exact .inr ⟨τ, rfl, hτ, by first | omega | (dsimp only; omega)⟩
    · obtain rfl : k = X.evs.length := by omega
      have hk1 : ¬ ((X.evs.length : Int) < X.evs.length) := by omega
      have hof := sp_of h81 pr X (poK X X.evs.length) .non (by omega)
      simp (disch := omega) only [wp, Nat.reduceAdd, Nat.reduceMul, Nat.reduceSub, gl, e1, e9, e10, e11, e3, h0, hk1, hof]
      rfl
def poR (X : Gr) : Rw := newR (nOf X) (poK X X.evs.length)
set_option maxRecDepth 100000 in
theorem sp_Loc (pe : Pk_eco F) (h60 : F 60 = some A_graph_Po) (h81 : F 81 = some A_graph_Of) (pr : Pk_rel F) {X : Gr} (hX : X.evs.length ≤ 1000) : pureS F 41 [.agg (grC X)] = some (.ptr (relC (nOf X) (partR locP X (nOf X) (poR X)))) := by
  refine pure_of pe.eco_Loc ?_
  have h1 := sp_Po h60 h81 pr hX
  have h := sp_someE pe h81 pr (X := X) (nOf_le X) (poR X) (sp_61 pe.eco_Loc_1)
  unfold poR at h
  simp (disch := omega) only [A_eco_Loc, wp, Nat.reduceAdd, Nat.reduceMul, Nat.reduceSub, gl, h1, h]
  rfl
end Go.Ab
end
section
set_option linter.unusedVariables false
set_option linter.unusedSimpArgs false
namespace Go.Ab
variable {F : Funs}
theorem evs_drop : ∀ {l : List Ev} {k : Nat} (h : k < l.length), (evsC l).drop (k * 6) = evC (l.getD k ev0) ++ evsC (l.drop (k + 1))
  | p :: l, 0, _ => by simp [evsC]
  | p :: l, k + 1, h => by
    have := evs_drop (l := l) (k := k) (by simpa using h)
    simp only [List.getD_cons_succ, List.drop_succ_cons]
    rw [← this]
    simp [evsC, Nat.succ_mul, evC]
theorem ev_th_at : ∀ {l : List Ev} {k : Nat} (h : k < l.length), part ((evsC l).drop (k * 6)) 0 none = some (.i .i64 (l.getD k ev0).th)
  | p :: l, 0, _ => by simp [evsC, part, evC]
  | p :: l, k + 1, h => by
    have := ev_th_at (l := l) (k := k) (by simpa using h)
    simp only [List.getD_cons_succ]
    rw [← this]
    simp [evsC, Nat.succ_mul, evC]
theorem ev_kd_at {l : List Ev} {k : Nat} (h : k < l.length) : part (((evsC l).drop (k * 6)).drop 1) 0 none = some (.i .i64 (l.getD k ev0).kd) := by
  rw [evs_drop h]; rfl
theorem ev_lc_at {l : List Ev} {k : Nat} (h : k < l.length) : part (((evsC l).drop (k * 6)).drop 3) 0 none = some (.i .i64 (l.getD k ev0).lc) := by
  rw [evs_drop h]; rfl
theorem ev_vl_at {l : List Ev} {k : Nat} (h : k < l.length) : part (((evsC l).drop (k * 6)).drop 4) 0 none = some (.i .i64 (l.getD k ev0).vl) := by
  rw [evs_drop h]; rfl
structure FewG (X : Gr) : Prop where
  evs : X.evs.length ≤ 50
  rf : X.rf.length ≤ 60
  co : X.co.length ≤ 6
  cos : ∀ c ∈ X.co, c.length ≤ 50
  rmw : X.rmw.length ≤ 50
  data : X.data.length ≤ 300
  ctrl : X.ctrl.length ≤ 300
  ctrli : X.ctrli.length ≤ 300
end Go.Ab
end
section
namespace Go.Ab
def A_xref06_Check : AFun := { res := [.t 2], body := (.seq (.reg false [{ dst := some 1, op := .box (.t 0) },
  { dst := some 2, op := .mv (.c (.b false)) }])
 (.seq (.reg false [{ dst := some 6, op := .fa 1 (.t 1) },
  { dst := some 7, op := .ld none (.t 6) },
  { dst := some 8, op := .len (.t 7) },
  { dst := some 3, op := .mv (.t 8) }])
 (.seq (.seq (.reg false [{ dst := some 9, op := .fa 0 (.t 1) },
  { dst := some 10, op := .ld none (.t 9) },
  { dst := some 11, op := .bin .lss (.t 10) (.c (.i .i64 1)) },
  { dst := some 12, op := .mv (.t 11) },
  { dst := some 13, op := .fa 0 (.t 1), grd := some (12, false) },
  { dst := some 14, op := .ld none (.t 13), grd := some (12, false) },
  { dst := some 15, op := .bin .gtr (.t 14) (.c (.i .i64 4)), grd := some (12, false) },
  { dst := some 16, op := .pick (.t 12) (.c (.b true)) (.t 15) },
  { dst := some 17, op := .mv (.t 16) },
  { dst := some 18, op := .mv (.t 3), grd := some (17, false) },
  { dst := some 19, op := .fa 0 (.t 1), grd := some (17, false) },
  { dst := some 20, op := .ld none (.t 19), grd := some (17, false) },
  { dst := some 21, op := .bin .lss (.t 18) (.t 20), grd := some (17, false) },
  { dst := some 22, op := .pick (.t 17) (.c (.b true)) (.t 21) },
  { dst := some 23, op := .mv (.t 22) },
  { dst := some 24, op := .mv (.t 3), grd := some (23, false) },
  { dst := some 25, op := .bin .gtr (.t 24) (.c (.i .i64 40)), grd := some (23, false) },
  { dst := some 26, op := .pick (.t 23) (.c (.b true)) (.t 25) },
  { dst := some 27, op := .mv (.t 26) },
  { dst := some 28, op := .fa 2 (.t 1), grd := some (27, false) },
  { dst := some 29, op := .ld none (.t 28), grd := some (27, false) },
  { dst := some 30, op := .len (.t 29), grd := some (27, false) },
  { dst := some 31, op := .mv (.t 3), grd := some (27, false) },
  { dst := some 32, op := .bin .neq (.t 30) (.t 31), grd := some (27, false) },
  { dst := some 33, op := .pick (.t 27) (.c (.b true)) (.t 32) },
  { dst := some 34, op := .mv (.t 33) },
  { dst := some 35, op := .fa 3 (.t 1), grd := some (34, false) },
  { dst := some 36, op := .ld none (.t 35), grd := some (34, false) },
  { dst := some 37, op := .len (.t 36), grd := some (34, false) },
  { dst := some 38, op := .fa 0 (.t 1), grd := some (34, false) },
  { dst := some 39, op := .ld none (.t 38), grd := some (34, false) },
  { dst := some 40, op := .bin .neq (.t 37) (.t 39), grd := some (34, false) },
  { dst := some 41, op := .pick (.t 34) (.c (.b true)) (.t 40) }])
 (.cond (.t 41) (.seq (.reg false [{ dst := some 2, op := .mv (.c (.b false)) }])
 .ret)
 .skip))
 (.seq (.seq (.reg false [{ dst := some 4, op := .mv (.c (.i .i64 0)) }])
 (.blk 0 (.loop (.seq (.seq (.reg false [{ dst := some 42, op := .mv (.t 4) },
  { dst := some 43, op := .mv (.t 3) },
  { dst := some 44, op := .bin .lss (.t 42) (.t 43) }])
 (.cond (.t 44) .skip
 (.ext 0)))
 (.seq (.blk 1 (.seq (.reg false [{ dst := some 47, op := .ld (some 8) (.t 1) },
  { dst := some 48, op := .mv (.t 4) },
  { dst := some 49, op := .call .pure (.c (.fn 63 [] [])) [.t 47, .t 48] },
  { dst := some 50, op := .un .not (.t 49) },
  { dst := some 51, op := .mv (.t 50) },
  { dst := some 52, op := .ld (some 8) (.t 1), grd := some (51, false) },
  { dst := some 53, op := .mv (.t 4), grd := some (51, false) },
  { dst := some 54, op := .call .pure (.c (.fn 64 [] [])) [.t 52, .t 53], grd := some (51, false) },
  { dst := some 55, op := .un .not (.t 54), grd := some (51, false) },
  { dst := some 56, op := .pick (.t 51) (.c (.b true)) (.t 55) }])
 (.cond (.t 56) (.seq (.reg false [{ dst := some 2, op := .mv (.c (.b false)) }])
 .ret)
 .skip)))
 (.reg false [{ dst := some 45, op := .mv (.t 4) },
  { dst := some 46, op := .bin .add (.t 45) (.c (.i .i64 1)) },
  { dst := some 4, op := .mv (.t 46) }]))))))
 (.seq (.seq (.reg false [{ dst := some 5, op := .mv (.c (.i .i64 0)) }])
 (.blk 2 (.loop (.seq (.seq (.reg false [{ dst := some 57, op := .mv (.t 5) },
  { dst := some 58, op := .fa 0 (.t 1) },
  { dst := some 59, op := .ld none (.t 58) },
  { dst := some 60, op := .bin .lss (.t 57) (.t 59) }])
 (.cond (.t 60) .skip
 (.ext 2)))
 (.seq (.blk 3 (.seq (.reg false [{ dst := some 63, op := .ld (some 8) (.t 1) },
  { dst := some 64, op := .mv (.t 5) },
  { dst := some 65, op := .call .pure (.c (.fn 65 [] [])) [.t 63, .t 64] },
  { dst := some 66, op := .un .not (.t 65) }])
 (.cond (.t 66) (.seq (.reg false [{ dst := some 2, op := .mv (.c (.b false)) }])
 .ret)
 .skip)))
 (.reg false [{ dst := some 61, op := .mv (.t 5) },
  { dst := some 62, op := .bin .add (.t 61) (.c (.i .i64 1)) },
  { dst := some 5, op := .mv (.t 62) }]))))))
 (.seq (.reg false [{ dst := some 67, op := .ld (some 8) (.t 1) },
  { dst := some 68, op := .call .pure (.c (.fn 66 [] [])) [.t 67] },
  { dst := some 69, op := .mv (.t 68) },
  { dst := some 70, op := .ld (some 8) (.t 1), grd := some (69, true) },
  { dst := some 71, op := .fa 5 (.t 1), grd := some (69, true) },
  { dst := some 72, op := .ld none (.t 71), grd := some (69, true) },
  { dst := some 73, op := .call .pure (.c (.fn 67 [] [])) [.t 70, .t 72], grd := some (69, true) },
  { dst := some 74, op := .pick (.t 69) (.t 73) (.c (.b false)) },
  { dst := some 75, op := .mv (.t 74) },
  { dst := some 76, op := .ld (some 8) (.t 1), grd := some (75, true) },
  { dst := some 77, op := .fa 6 (.t 1), grd := some (75, true) },
  { dst := some 78, op := .ld none (.t 77), grd := some (75, true) },
  { dst := some 79, op := .call .pure (.c (.fn 67 [] [])) [.t 76, .t 78], grd := some (75, true) },
  { dst := some 80, op := .pick (.t 75) (.t 79) (.c (.b false)) },
  { dst := some 81, op := .mv (.t 80) },
  { dst := some 82, op := .ld (some 8) (.t 1), grd := some (81, true) },
  { dst := some 83, op := .fa 7 (.t 1), grd := some (81, true) },
  { dst := some 84, op := .ld none (.t 83), grd := some (81, true) },
  { dst := some 85, op := .call .pure (.c (.fn 67 [] [])) [.t 82, .t 84], grd := some (81, true) },
  { dst := some 86, op := .pick (.t 81) (.t 85) (.c (.b false)) },
  { dst := some 2, op := .mv (.t 86) }])
 .ret)))))) }
def A_xref06_event : AFun := { res := [.t 4], body := (.seq (.reg false [{ dst := some 2, op := .box (.t 0) },
  { dst := some 4, op := .mv (.c (.b false)) }])
 (.seq (.reg false [{ dst := some 7, op := .fa 1 (.t 2) },
  { dst := some 8, op := .ld none (.t 7) },
  { dst := some 9, op := .mv (.t 1) },
  { dst := some 10, op := .ia 6 (.t 8) (.t 9) },
  { dst := some 11, op := .ld (some 6) (.t 10) },
  { dst := some 5, op := .new (List.replicate 5 (.i .i64 0) ++ [.b false]) },
  { dst := none, op := .st 6 (.t 5) (.t 11) }])
 (.seq (.seq (.reg false [{ dst := some 12, op := .mv (.t 1) },
  { dst := some 13, op := .fa 0 (.t 2) },
  { dst := some 14, op := .ld none (.t 13) },
  { dst := some 15, op := .bin .lss (.t 12) (.t 14) }])
 (.cond (.t 15) (.seq (.reg false [{ dst := some 16, op := .fa 0 (.t 5) },
  { dst := some 17, op := .ld none (.t 16) },
  { dst := some 18, op := .bin .eql (.t 17) (.c (.i .i64 0)) },
  { dst := some 19, op := .mv (.t 18) },
  { dst := some 20, op := .fa 1 (.t 5), grd := some (19, true) },
  { dst := some 21, op := .ld none (.t 20), grd := some (19, true) },
  { dst := some 22, op := .bin .eql (.t 21) (.c (.i .i64 2)), grd := some (19, true) },
  { dst := some 23, op := .pick (.t 19) (.t 22) (.c (.b false)) },
  { dst := some 24, op := .mv (.t 23) },
  { dst := some 25, op := .fa 2 (.t 5), grd := some (24, true) },
  { dst := some 26, op := .ld none (.t 25), grd := some (24, true) },
  { dst := some 27, op := .bin .eql (.t 26) (.c (.i .i64 0)), grd := some (24, true) },
  { dst := some 28, op := .pick (.t 24) (.t 27) (.c (.b false)) },
  { dst := some 29, op := .mv (.t 28) },
  { dst := some 30, op := .fa 3 (.t 5), grd := some (29, true) },
  { dst := some 31, op := .ld none (.t 30), grd := some (29, true) },
  { dst := some 32, op := .mv (.t 1), grd := some (29, true) },
  { dst := some 33, op := .bin .eql (.t 31) (.t 32), grd := some (29, true) },
  { dst := some 34, op := .pick (.t 29) (.t 33) (.c (.b false)) },
  { dst := some 35, op := .mv (.t 34) },
  { dst := some 36, op := .fa 4 (.t 5), grd := some (35, true) },
  { dst := some 37, op := .ld none (.t 36), grd := some (35, true) },
  { dst := some 38, op := .bin .eql (.t 37) (.c (.i .i64 0)), grd := some (35, true) },
  { dst := some 39, op := .pick (.t 35) (.t 38) (.c (.b false)) },
  { dst := some 40, op := .mv (.t 39) },
  { dst := some 41, op := .fa 5 (.t 5), grd := some (40, true) },
  { dst := some 42, op := .ld none (.t 41), grd := some (40, true) },
  { dst := some 43, op := .un .not (.t 42), grd := some (40, true) },
  { dst := some 44, op := .pick (.t 40) (.t 43) (.c (.b false)) },
  { dst := some 4, op := .mv (.t 44) }])
 .ret)
 .skip))
 (.seq (.seq (.reg true [{ dst := some 45, op := .fa 0 (.t 5) },
  { dst := some 46, op := .ld none (.t 45), pre := [] },
  { dst := some 47, op := .bin .lss (.t 46) (.c (.i .i64 1)) },
  { dst := some 48, op := .mv (.t 47) },
  { dst := some 49, op := .fa 0 (.t 5), grd := some (48, false) },
  { dst := some 50, op := .ld none (.t 49), grd := some (48, false), pre := [] },
  { dst := some 51, op := .bin .gtr (.t 50) (.c (.i .i64 4)), grd := some (48, false) },
  { dst := some 52, op := .pick (.t 48) (.c (.b true)) (.t 51) },
  { dst := some 53, op := .mv (.t 52) },
  { dst := some 54, op := .mv (.t 1), grd := some (53, false) },
  { dst := some 55, op := .bin .gtr (.t 54) (.c (.i .i64 0)), grd := some (53, false) },
  { dst := some 56, op := .mv (.t 55), grd := some (53, false) },
  { dst := some 57, op := .fa 0 (.t 5), grd := some (56, true) },
  { dst := some 58, op := .ld none (.t 57), grd := some (56, true), pre := [] },
  { dst := some 59, op := .fa 1 (.t 2), grd := some (56, true) },
  { dst := some 60, op := .ld none (.t 59), grd := some (56, true), pre := [] },
  { dst := some 61, op := .mv (.t 1), grd := some (56, true) },
  { dst := some 62, op := .bin .sub (.t 61) (.c (.i .i64 1)), grd := some (56, true) },
  { dst := some 63, op := .ia 6 (.t 60) (.t 62), grd := some (56, true) },
  { dst := some 64, op := .fa 0 (.t 63), grd := some (56, true) },
  { dst := some 65, op := .ld none (.t 64), grd := some (56, true), pre := [] },
  { dst := some 66, op := .bin .lss (.t 58) (.t 65), grd := some (56, true) },
  { dst := some 67, op := .pick (.t 56) (.t 66) (.c (.b false)), grd := some (53, false) },
  { dst := some 68, op := .pick (.t 53) (.c (.b true)) (.t 67) }])
 (.cond (.t 68) (.seq (.reg false [{ dst := some 4, op := .mv (.c (.b false)) }])
 .ret)
 .skip))
 (.seq (.reg false [{ dst := some 69, op := .fa 3 (.t 5) },
  { dst := some 70, op := .ld none (.t 69) },
  { dst := some 71, op := .bin .geq (.t 70) (.c (.i .i64 0)) },
  { dst := some 72, op := .mv (.t 71) },
  { dst := some 73, op := .fa 3 (.t 5), grd := some (72, true) },
  { dst := some 74, op := .ld none (.t 73), grd := some (72, true) },
  { dst := some 75, op := .fa 0 (.t 2), grd := some (72, true) },
  { dst := some 76, op := .ld none (.t 75), grd := some (72, true) },
  { dst := some 77, op := .bin .lss (.t 74) (.t 76), grd := some (72, true) },
  { dst := some 78, op := .pick (.t 72) (.t 77) (.c (.b false)) },
  { dst := some 6, op := .mv (.t 78) }])
 (.seq (.seq (.reg false [{ dst := some 79, op := .fa 1 (.t 5) },
  { dst := some 80, op := .ld none (.t 79) }])
 (.blk 0 (.seq (.reg false [{ dst := some 82, op := .bin .eql (.t 80) (.c (.i .i64 1)) },
  { dst := some 81, op := .mv (.t 82) }])
 (.cond (.t 81) (.seq (.reg false [{ dst := some 83, op := .mv (.t 6) },
  { dst := some 84, op := .mv (.t 83) },
  { dst := some 85, op := .fa 2 (.t 5), grd := some (84, true) },
  { dst := some 86, op := .ld none (.t 85), grd := some (84, true) },
  { dst := some 87, op := .bin .eql (.t 86) (.c (.i .i64 0)), grd := some (84, true) },
  { dst := some 88, op := .mv (.t 87), grd := some (84, true) },
  { dst := some 89, op := .fa 2 (.t 5), grd := some (88, false) },
  { dst := some 90, op := .ld none (.t 89), grd := some (88, false) },
  { dst := some 91, op := .bin .eql (.t 90) (.c (.i .i64 1)), grd := some (88, false) },
  { dst := some 92, op := .pick (.t 88) (.c (.b true)) (.t 91), grd := some (84, true) },
  { dst := some 93, op := .pick (.t 84) (.t 92) (.c (.b false)) },
  { dst := some 4, op := .mv (.t 93) }])
 .ret)
 (.seq (.reg false [{ dst := some 95, op := .bin .eql (.t 80) (.c (.i .i64 2)) },
  { dst := some 94, op := .mv (.t 95) }])
 (.cond (.t 94) (.seq (.reg false [{ dst := some 96, op := .mv (.t 6) },
  { dst := some 97, op := .mv (.t 96) },
  { dst := some 98, op := .fa 2 (.t 5), grd := some (97, true) },
  { dst := some 99, op := .ld none (.t 98), grd := some (97, true) },
  { dst := some 100, op := .bin .eql (.t 99) (.c (.i .i64 0)), grd := some (97, true) },
  { dst := some 101, op := .mv (.t 100), grd := some (97, true) },
  { dst := some 102, op := .fa 2 (.t 5), grd := some (101, false) },
  { dst := some 103, op := .ld none (.t 102), grd := some (101, false) },
  { dst := some 104, op := .bin .eql (.t 103) (.c (.i .i64 2)), grd := some (101, false) },
  { dst := some 105, op := .pick (.t 101) (.c (.b true)) (.t 104), grd := some (97, true) },
  { dst := some 106, op := .pick (.t 97) (.t 105) (.c (.b false)) },
  { dst := some 4, op := .mv (.t 106) }])
 .ret)
 (.seq (.reg false [{ dst := some 108, op := .bin .eql (.t 80) (.c (.i .i64 3)) },
  { dst := some 107, op := .mv (.t 108) }])
 (.cond (.t 107) (.seq (.reg false [{ dst := some 109, op := .fa 2 (.t 5) },
  { dst := some 110, op := .ld none (.t 109) },
  { dst := some 111, op := .bin .geq (.t 110) (.c (.i .i64 1)) },
  { dst := some 112, op := .mv (.t 111) },
  { dst := some 113, op := .fa 2 (.t 5), grd := some (112, true) },
  { dst := some 114, op := .ld none (.t 113), grd := some (112, true) },
  { dst := some 115, op := .bin .leq (.t 114) (.c (.i .i64 4)), grd := some (112, true) },
  { dst := some 116, op := .pick (.t 112) (.t 115) (.c (.b false)) },
  { dst := some 117, op := .mv (.t 116) },
  { dst := some 118, op := .fa 3 (.t 5), grd := some (117, true) },
  { dst := some 119, op := .ld none (.t 118), grd := some (117, true) },
  { dst := some 120, op := .bin .eql (.t 119) (.c (.i .i64 0)), grd := some (117, true) },
  { dst := some 121, op := .pick (.t 117) (.t 120) (.c (.b false)) },
  { dst := some 122, op := .mv (.t 121) },
  { dst := some 123, op := .fa 4 (.t 5), grd := some (122, true) },
  { dst := some 124, op := .ld none (.t 123), grd := some (122, true) },
  { dst := some 125, op := .bin .eql (.t 124) (.c (.i .i64 0)), grd := some (122, true) },
  { dst := some 126, op := .pick (.t 122) (.t 125) (.c (.b false)) },
  { dst := some 127, op := .mv (.t 126) },
  { dst := some 128, op := .fa 5 (.t 5), grd := some (127, true) },
  { dst := some 129, op := .ld none (.t 128), grd := some (127, true) },
  { dst := some 130, op := .un .not (.t 129), grd := some (127, true) },
  { dst := some 131, op := .pick (.t 127) (.t 130) (.c (.b false)) },
  { dst := some 4, op := .mv (.t 131) }])
 .ret)
 .skip))))))))
 (.seq (.reg false [{ dst := some 4, op := .mv (.c (.b false)) }])
 .ret))))))) }
def A_xref06_rf : AFun := { res := [.t 4], body := (.seq (.reg false [{ dst := some 2, op := .box (.t 0) },
  { dst := some 4, op := .mv (.c (.b false)) }])
 (.seq (.reg true [{ dst := some 8, op := .fa 1 (.t 2) },
  { dst := some 9, op := .ld none (.t 8), pre := [] },
  { dst := some 10, op := .mv (.t 1) },
  { dst := some 11, op := .ia 6 (.t 9) (.t 10) },
  { dst := some 12, op := .ld (some 6) (.t 11), pre := [] },
  { dst := some 13, op := .fa 2 (.t 2) },
  { dst := some 14, op := .ld none (.t 13), pre := [] },
  { dst := some 15, op := .mv (.t 1) },
  { dst := some 16, op := .ia 1 (.t 14) (.t 15) },
  { dst := some 17, op := .ld none (.t 16), pre := [] },
  { dst := some 5, op := .new (List.replicate 5 (.i .i64 0) ++ [.b false]) },
  { dst := none, op := .stL 6 (.t 5) (.t 12), pre := [10] },
  { dst := some 6, op := .mv (.t 17) }])
 (.seq (.seq (.reg false [{ dst := some 18, op := .fa 1 (.t 5) },
  { dst := some 19, op := .ld none (.t 18) },
  { dst := some 20, op := .bin .neq (.t 19) (.c (.i .i64 1)) }])
 (.cond (.t 20) (.seq (.reg false [{ dst := some 21, op := .mv (.t 6) },
  { dst := some 22, op := .bin .eql (.t 21) (.c (.i .i64 (-1))) },
  { dst := some 4, op := .mv (.t 22) }])
 .ret)
 .skip))
 (.seq (.seq (.reg false [{ dst := some 23, op := .mv (.t 6) },
  { dst := some 24, op := .bin .lss (.t 23) (.c (.i .i64 0)) },
  { dst := some 25, op := .mv (.t 24) },
  { dst := some 26, op := .mv (.t 6), grd := some (25, false) },
  { dst := some 27, op := .fa 1 (.t 2), grd := some (25, false) },
  { dst := some 28, op := .ld none (.t 27), grd := some (25, false) },
  { dst := some 29, op := .len (.t 28), grd := some (25, false) },
  { dst := some 30, op := .bin .geq (.t 26) (.t 29), grd := some (25, false) },
  { dst := some 31, op := .pick (.t 25) (.c (.b true)) (.t 30) }])
 (.cond (.t 31) (.seq (.reg false [{ dst := some 4, op := .mv (.c (.b false)) }])
 .ret)
 .skip))
 (.seq (.reg false [{ dst := some 32, op := .fa 1 (.t 2) },
  { dst := some 33, op := .ld none (.t 32) },
  { dst := some 34, op := .mv (.t 6) },
  { dst := some 35, op := .ia 6 (.t 33) (.t 34) },
  { dst := some 36, op := .ld (some 6) (.t 35) },
  { dst := some 7, op := .new (List.replicate 5 (.i .i64 0) ++ [.b false]) },
  { dst := none, op := .st 6 (.t 7) (.t 36) }])
 (.seq (.reg false [{ dst := some 37, op := .fa 1 (.t 7) },
  { dst := some 38, op := .ld none (.t 37) },
  { dst := some 39, op := .bin .eql (.t 38) (.c (.i .i64 2)) },
  { dst := some 40, op := .mv (.t 39) },
  { dst := some 41, op := .fa 3 (.t 7), grd := some (40, true) },
  { dst := some 42, op := .ld none (.t 41), grd := some (40, true) },
  { dst := some 43, op := .fa 3 (.t 5), grd := some (40, true) },
  { dst := some 44, op := .ld none (.t 43), grd := some (40, true) },
  { dst := some 45, op := .bin .eql (.t 42) (.t 44), grd := some (40, true) },
  { dst := some 46, op := .pick (.t 40) (.t 45) (.c (.b false)) },
  { dst := some 47, op := .mv (.t 46) },
  { dst := some 48, op := .fa 4 (.t 7), grd := some (47, true) },
  { dst := some 49, op := .ld none (.t 48), grd := some (47, true) },
  { dst := some 50, op := .fa 4 (.t 5), grd := some (47, true) },
  { dst := some 51, op := .ld none (.t 50), grd := some (47, true) },
  { dst := some 52, op := .bin .eql (.t 49) (.t 51), grd := some (47, true) },
  { dst := some 53, op := .pick (.t 47) (.t 52) (.c (.b false)) },
  { dst := some 4, op := .mv (.t 53) }])
 .ret)))))) }
def A_xref06_co : AFun := { res := [.t 4], body := (.seq (.reg false [{ dst := some 2, op := .box (.t 0) },
  { dst := some 4, op := .mv (.c (.b false)) }])
 (.seq (.reg false [{ dst := some 10, op := .fa 3 (.t 2) },
  { dst := some 11, op := .ld none (.t 10) },
  { dst := some 12, op := .mv (.t 1) },
  { dst := some 13, op := .ia 1 (.t 11) (.t 12) },
  { dst := some 14, op := .ld none (.t 13) },
  { dst := some 5, op := .mv (.t 14) }])
 (.seq (.reg false [{ dst := some 6, op := .mv (.c (.i .i64 0)) }])
 (.seq (.seq (.reg false [{ dst := some 7, op := .mv (.c (.i .i64 0)) }])
 (.blk 0 (.loop (.seq (.seq (.reg false [{ dst := some 15, op := .mv (.t 7) },
  { dst := some 16, op := .fa 1 (.t 2) },
  { dst := some 17, op := .ld none (.t 16) },
  { dst := some 18, op := .len (.t 17) },
  { dst := some 19, op := .bin .lss (.t 15) (.t 18) }])
 (.cond (.t 19) .skip
 (.ext 0)))
 (.seq (.blk 1 (.seq (.reg false [{ dst := some 22, op := .fa 1 (.t 2) },
  { dst := some 23, op := .ld none (.t 22) },
  { dst := some 24, op := .mv (.t 7) },
  { dst := some 25, op := .ia 6 (.t 23) (.t 24) },
  { dst := some 26, op := .fa 1 (.t 25) },
  { dst := some 27, op := .ld none (.t 26) },
  { dst := some 28, op := .bin .eql (.t 27) (.c (.i .i64 2)) },
  { dst := some 29, op := .mv (.t 28) },
  { dst := some 30, op := .fa 1 (.t 2), grd := some (29, true) },
  { dst := some 31, op := .ld none (.t 30), grd := some (29, true) },
  { dst := some 32, op := .mv (.t 7), grd := some (29, true) },
  { dst := some 33, op := .ia 6 (.t 31) (.t 32), grd := some (29, true) },
  { dst := some 34, op := .fa 3 (.t 33), grd := some (29, true) },
  { dst := some 35, op := .ld none (.t 34), grd := some (29, true) },
  { dst := some 36, op := .mv (.t 1), grd := some (29, true) },
  { dst := some 37, op := .bin .eql (.t 35) (.t 36), grd := some (29, true) },
  { dst := some 38, op := .pick (.t 29) (.t 37) (.c (.b false)) }])
 (.cond (.t 38) (.reg false [{ dst := some 39, op := .mv (.t 6) },
  { dst := some 40, op := .bin .add (.t 39) (.c (.i .i64 1)) },
  { dst := some 6, op := .mv (.t 40) }])
 .skip)))
 (.reg false [{ dst := some 20, op := .mv (.t 7) },
  { dst := some 21, op := .bin .add (.t 20) (.c (.i .i64 1)) },
  { dst := some 7, op := .mv (.t 21) }]))))))
 (.seq (.seq (.reg false [{ dst := some 8, op := .mv (.c (.i .i64 0)) }])
 (.blk 2 (.loop (.seq (.seq (.reg false [{ dst := some 41, op := .mv (.t 8) },
  { dst := some 42, op := .mv (.t 5) },
  { dst := some 43, op := .len (.t 42) },
  { dst := some 44, op := .bin .lss (.t 41) (.t 43) }])
 (.cond (.t 44) .skip
 (.ext 2)))
 (.seq (.blk 3 (.seq (.seq (.reg true [{ dst := some 47, op := .mv (.t 5) },
  { dst := some 48, op := .mv (.t 8) },
  { dst := some 49, op := .ia 1 (.t 47) (.t 48) },
  { dst := some 50, op := .ld none (.t 49), pre := [] },
  { dst := some 51, op := .bin .lss (.t 50) (.c (.i .i64 0)) },
  { dst := some 52, op := .mv (.t 51) },
  { dst := some 53, op := .mv (.t 5), grd := some (52, false) },
  { dst := some 54, op := .mv (.t 8), grd := some (52, false) },
  { dst := some 55, op := .ia 1 (.t 53) (.t 54), grd := some (52, false) },
  { dst := some 56, op := .ld none (.t 55), grd := some (52, false), pre := [] },
  { dst := some 57, op := .fa 1 (.t 2), grd := some (52, false) },
  { dst := some 58, op := .ld none (.t 57), grd := some (52, false), pre := [] },
  { dst := some 59, op := .len (.t 58), grd := some (52, false) },
  { dst := some 60, op := .bin .geq (.t 56) (.t 59), grd := some (52, false) },
  { dst := some 61, op := .pick (.t 52) (.c (.b true)) (.t 60) },
  { dst := some 62, op := .mv (.t 61) },
  { dst := some 63, op := .fa 1 (.t 2), grd := some (62, false) },
  { dst := some 64, op := .ld none (.t 63), grd := some (62, false), pre := [] },
  { dst := some 65, op := .mv (.t 5), grd := some (62, false) },
  { dst := some 66, op := .mv (.t 8), grd := some (62, false) },
  { dst := some 67, op := .ia 1 (.t 65) (.t 66), grd := some (62, false) },
  { dst := some 68, op := .ld none (.t 67), grd := some (62, false), pre := [] },
  { dst := some 69, op := .ia 6 (.t 64) (.t 68), grd := some (62, false) },
  { dst := some 70, op := .fa 1 (.t 69), grd := some (62, false) },
  { dst := some 71, op := .ld none (.t 70), grd := some (62, false), pre := [] },
  { dst := some 72, op := .bin .neq (.t 71) (.c (.i .i64 2)), grd := some (62, false) },
  { dst := some 73, op := .pick (.t 62) (.c (.b true)) (.t 72) },
  { dst := some 74, op := .mv (.t 73) },
  { dst := some 75, op := .fa 1 (.t 2), grd := some (74, false) },
  { dst := some 76, op := .ld none (.t 75), grd := some (74, false), pre := [] },
  { dst := some 77, op := .mv (.t 5), grd := some (74, false) },
  { dst := some 78, op := .mv (.t 8), grd := some (74, false) },
  { dst := some 79, op := .ia 1 (.t 77) (.t 78), grd := some (74, false) },
  { dst := some 80, op := .ld none (.t 79), grd := some (74, false), pre := [] },
  { dst := some 81, op := .ia 6 (.t 76) (.t 80), grd := some (74, false) },
  { dst := some 82, op := .fa 3 (.t 81), grd := some (74, false) },
  { dst := some 83, op := .ld none (.t 82), grd := some (74, false), pre := [] },
  { dst := some 84, op := .mv (.t 1), grd := some (74, false) },
  { dst := some 85, op := .bin .neq (.t 83) (.t 84), grd := some (74, false) },
  { dst := some 86, op := .pick (.t 74) (.c (.b true)) (.t 85) }])
 (.cond (.t 86) (.seq (.reg false [{ dst := some 4, op := .mv (.c (.b false)) }])
 .ret)
 .skip))
 (.seq (.reg false [{ dst := some 9, op := .mv (.c (.i .i64 0)) }])
 (.blk 4 (.loop (.seq (.seq (.reg false [{ dst := some 87, op := .mv (.t 9) },
  { dst := some 88, op := .mv (.t 8) },
  { dst := some 89, op := .bin .lss (.t 87) (.t 88) }])
 (.cond (.t 89) .skip
 (.ext 4)))
 (.seq (.blk 5 (.seq (.reg true [{ dst := some 92, op := .mv (.t 5) },
  { dst := some 93, op := .mv (.t 9) },
  { dst := some 94, op := .ia 1 (.t 92) (.t 93) },
  { dst := some 95, op := .ld none (.t 94), pre := [] },
  { dst := some 96, op := .mv (.t 5) },
  { dst := some 97, op := .mv (.t 8) },
  { dst := some 98, op := .ia 1 (.t 96) (.t 97) },
  { dst := some 99, op := .ld none (.t 98), pre := [] },
  { dst := some 100, op := .bin .eql (.t 95) (.t 99) }])
 (.cond (.t 100) (.seq (.reg false [{ dst := some 4, op := .mv (.c (.b false)) }])
 .ret)
 .skip)))
 (.reg false [{ dst := some 90, op := .mv (.t 9) },
  { dst := some 91, op := .bin .add (.t 90) (.c (.i .i64 1)) },
  { dst := some 9, op := .mv (.t 91) }]))))))))
 (.reg false [{ dst := some 45, op := .mv (.t 8) },
  { dst := some 46, op := .bin .add (.t 45) (.c (.i .i64 1)) },
  { dst := some 8, op := .mv (.t 46) }]))))))
 (.seq (.reg false [{ dst := some 101, op := .mv (.t 5) },
  { dst := some 102, op := .len (.t 101) },
  { dst := some 103, op := .mv (.t 6) },
  { dst := some 104, op := .bin .eql (.t 102) (.t 103) },
  { dst := some 105, op := .mv (.t 104) },
  { dst := some 106, op := .mv (.t 6), grd := some (105, true) },
  { dst := some 107, op := .bin .gtr (.t 106) (.c (.i .i64 0)), grd := some (105, true) },
  { dst := some 108, op := .pick (.t 105) (.t 107) (.c (.b false)) },
  { dst := some 109, op := .mv (.t 108) },
  { dst := some 110, op := .mv (.t 5), grd := some (109, true) },
  { dst := some 111, op := .ia 1 (.t 110) (.c (.i .i64 0)), grd := some (109, true) },
  { dst := some 112, op := .ld none (.t 111), grd := some (109, true) },
  { dst := some 113, op := .mv (.t 1), grd := some (109, true) },
  { dst := some 114, op := .bin .eql (.t 112) (.t 113), grd := some (109, true) },
  { dst := some 115, op := .pick (.t 109) (.t 114) (.c (.b false)) },
  { dst := some 4, op := .mv (.t 115) }])
 .ret)))))) }
def A_xref06_rmw : AFun := { res := [.t 2], body := (.seq (.reg false [{ dst := some 1, op := .box (.t 0) },
  { dst := some 2, op := .mv (.c (.b false)) }])
 (.seq (.reg false [{ dst := some 3, op := .new (List.replicate 40 (.i .i64 0)) }])
 (.seq (.seq (.reg false [{ dst := some 4, op := .mv (.c (.i .i64 0)) }])
 (.blk 0 (.loop (.seq (.seq (.reg false [{ dst := some 10, op := .mv (.t 4) },
  { dst := some 11, op := .fa 4 (.t 1) },
  { dst := some 12, op := .ld none (.t 11) },
  { dst := some 13, op := .len (.t 12) },
  { dst := some 14, op := .bin .lss (.t 10) (.t 13) }])
 (.cond (.t 14) .skip
 (.ext 0)))
 (.seq (.blk 1 (.seq (.reg true [{ dst := some 17, op := .fa 4 (.t 1) },
  { dst := some 18, op := .ld none (.t 17), pre := [] },
  { dst := some 19, op := .mv (.t 4) },
  { dst := some 20, op := .ia 2 (.t 18) (.t 19) },
  { dst := some 21, op := .fa 0 (.t 20) },
  { dst := some 22, op := .ld none (.t 21), pre := [] },
  { dst := some 23, op := .fa 4 (.t 1) },
  { dst := some 24, op := .ld none (.t 23), pre := [] },
  { dst := some 25, op := .mv (.t 4) },
  { dst := some 26, op := .ia 2 (.t 24) (.t 25) },
  { dst := some 27, op := .fa 1 (.t 26) },
  { dst := some 28, op := .ld none (.t 27), pre := [] },
  { dst := some 5, op := .mv (.t 22) },
  { dst := some 6, op := .mv (.t 28) }])
 (.seq (.seq (.reg false [{ dst := some 29, op := .mv (.t 5) },
  { dst := some 30, op := .bin .lss (.t 29) (.c (.i .i64 0)) },
  { dst := some 31, op := .mv (.t 30) },
  { dst := some 32, op := .mv (.t 5), grd := some (31, false) },
  { dst := some 33, op := .fa 1 (.t 1), grd := some (31, false) },
  { dst := some 34, op := .ld none (.t 33), grd := some (31, false) },
  { dst := some 35, op := .len (.t 34), grd := some (31, false) },
  { dst := some 36, op := .bin .sub (.t 35) (.c (.i .i64 1)), grd := some (31, false) },
  { dst := some 37, op := .bin .geq (.t 32) (.t 36), grd := some (31, false) },
  { dst := some 38, op := .pick (.t 31) (.c (.b true)) (.t 37) },
  { dst := some 39, op := .mv (.t 38) },
  { dst := some 40, op := .mv (.t 6), grd := some (39, false) },
  { dst := some 41, op := .mv (.t 5), grd := some (39, false) },
  { dst := some 42, op := .bin .add (.t 41) (.c (.i .i64 1)), grd := some (39, false) },
  { dst := some 43, op := .bin .neq (.t 40) (.t 42), grd := some (39, false) },
  { dst := some 44, op := .pick (.t 39) (.c (.b true)) (.t 43) }])
 (.cond (.t 44) (.seq (.reg false [{ dst := some 2, op := .mv (.c (.b false)) }])
 .ret)
 .skip))
 (.seq (.reg true [{ dst := some 45, op := .fa 1 (.t 1) },
  { dst := some 46, op := .ld none (.t 45), pre := [] },
  { dst := some 47, op := .mv (.t 5) },
  { dst := some 48, op := .ia 6 (.t 46) (.t 47) },
  { dst := some 49, op := .ld (some 6) (.t 48), pre := [] },
  { dst := some 50, op := .fa 1 (.t 1) },
  { dst := some 51, op := .ld none (.t 50), pre := [] },
  { dst := some 52, op := .mv (.t 6) },
  { dst := some 53, op := .ia 6 (.t 51) (.t 52) },
  { dst := some 54, op := .ld (some 6) (.t 53), pre := [] },
  { dst := some 7, op := .new (List.replicate 5 (.i .i64 0) ++ [.b false]) },
  { dst := some 8, op := .new (List.replicate 5 (.i .i64 0) ++ [.b false]) },
  { dst := none, op := .stL 6 (.t 7) (.t 49), pre := [10] },
  { dst := none, op := .stL 6 (.t 8) (.t 54), pre := [11] }])
 (.seq (.seq (.reg false [{ dst := some 55, op := .fa 0 (.t 7) },
  { dst := some 56, op := .ld none (.t 55) },
  { dst := some 57, op := .fa 0 (.t 8) },
  { dst := some 58, op := .ld none (.t 57) },
  { dst := some 59, op := .bin .neq (.t 56) (.t 58) },
  { dst := some 60, op := .mv (.t 59) },
  { dst := some 61, op := .fa 1 (.t 7), grd := some (60, false) },
  { dst := some 62, op := .ld none (.t 61), grd := some (60, false) },
  { dst := some 63, op := .bin .neq (.t 62) (.c (.i .i64 1)), grd := some (60, false) },
  { dst := some 64, op := .pick (.t 60) (.c (.b true)) (.t 63) },
  { dst := some 65, op := .mv (.t 64) },
  { dst := some 66, op := .fa 1 (.t 8), grd := some (65, false) },
  { dst := some 67, op := .ld none (.t 66), grd := some (65, false) },
  { dst := some 68, op := .bin .neq (.t 67) (.c (.i .i64 2)), grd := some (65, false) },
  { dst := some 69, op := .pick (.t 65) (.c (.b true)) (.t 68) },
  { dst := some 70, op := .mv (.t 69) },
  { dst := some 71, op := .fa 3 (.t 7), grd := some (70, false) },
  { dst := some 72, op := .ld none (.t 71), grd := some (70, false) },
  { dst := some 73, op := .fa 3 (.t 8), grd := some (70, false) },
  { dst := some 74, op := .ld none (.t 73), grd := some (70, false) },
  { dst := some 75, op := .bin .neq (.t 72) (.t 74), grd := some (70, false) },
  { dst := some 76, op := .pick (.t 70) (.c (.b true)) (.t 75) },
  { dst := some 77, op := .mv (.t 76) },
  { dst := some 78, op := .fa 5 (.t 7), grd := some (77, false) },
  { dst := some 79, op := .ld none (.t 78), grd := some (77, false) },
  { dst := some 80, op := .un .not (.t 79), grd := some (77, false) },
  { dst := some 81, op := .pick (.t 77) (.c (.b true)) (.t 80) },
  { dst := some 82, op := .mv (.t 81) },
  { dst := some 83, op := .fa 5 (.t 8), grd := some (82, false) },
  { dst := some 84, op := .ld none (.t 83), grd := some (82, false) },
  { dst := some 85, op := .un .not (.t 84), grd := some (82, false) },
  { dst := some 86, op := .pick (.t 82) (.c (.b true)) (.t 85) }])
 (.cond (.t 86) (.seq (.reg false [{ dst := some 2, op := .mv (.c (.b false)) }])
 .ret)
 .skip))
 (.seq (.reg false [{ dst := some 87, op := .mv (.t 5) },
  { dst := some 88, op := .iaa 40 1 (.t 3) (.t 87) },
  { dst := some 89, op := .ld none (.t 88) },
  { dst := some 90, op := .bin .add (.t 89) (.c (.i .i64 1)) },
  { dst := some 91, op := .iaa 40 1 (.t 3) (.t 87) },
  { dst := none, op := .st 1 (.t 91) (.t 90) }])
 (.reg false [{ dst := some 92, op := .mv (.t 6) },
  { dst := some 93, op := .iaa 40 1 (.t 3) (.t 92) },
  { dst := some 94, op := .ld none (.t 93) },
  { dst := some 95, op := .bin .add (.t 94) (.c (.i .i64 1)) },
  { dst := some 96, op := .iaa 40 1 (.t 3) (.t 92) },
  { dst := none, op := .st 1 (.t 96) (.t 95) }])))))))
 (.reg false [{ dst := some 15, op := .mv (.t 4) },
  { dst := some 16, op := .bin .add (.t 15) (.c (.i .i64 1)) },
  { dst := some 4, op := .mv (.t 16) }]))))))
 (.seq (.seq (.reg false [{ dst := some 9, op := .mv (.c (.i .i64 0)) }])
 (.blk 2 (.loop (.seq (.seq (.reg false [{ dst := some 97, op := .mv (.t 9) },
  { dst := some 98, op := .fa 1 (.t 1) },
  { dst := some 99, op := .ld none (.t 98) },
  { dst := some 100, op := .len (.t 99) },
  { dst := some 101, op := .bin .lss (.t 97) (.t 100) }])
 (.cond (.t 101) .skip
 (.ext 2)))
 (.seq (.blk 3 (.seq (.reg true [{ dst := some 104, op := .mv (.t 9) },
  { dst := some 105, op := .iaa 40 1 (.t 3) (.t 104) },
  { dst := some 106, op := .ld none (.t 105), pre := [] },
  { dst := some 107, op := .bin .gtr (.t 106) (.c (.i .i64 1)) },
  { dst := some 108, op := .mv (.t 107) },
  { dst := some 109, op := .fa 1 (.t 1), grd := some (108, false) },
  { dst := some 110, op := .ld none (.t 109), grd := some (108, false), pre := [] },
  { dst := some 111, op := .mv (.t 9), grd := some (108, false) },
  { dst := some 112, op := .ia 6 (.t 110) (.t 111), grd := some (108, false) },
  { dst := some 113, op := .fa 5 (.t 112), grd := some (108, false) },
  { dst := some 114, op := .ld none (.t 113), grd := some (108, false), pre := [] },
  { dst := some 115, op := .mv (.t 9), grd := some (108, false) },
  { dst := some 116, op := .iaa 40 1 (.t 3) (.t 115), grd := some (108, false) },
  { dst := some 117, op := .ld none (.t 116), grd := some (108, false), pre := [] },
  { dst := some 118, op := .bin .eql (.t 117) (.c (.i .i64 1)), grd := some (108, false) },
  { dst := some 119, op := .eqb true (.t 114) (.t 118), grd := some (108, false) },
  { dst := some 120, op := .pick (.t 108) (.c (.b true)) (.t 119) }])
 (.cond (.t 120) (.seq (.reg false [{ dst := some 2, op := .mv (.c (.b false)) }])
 .ret)
 .skip)))
 (.reg false [{ dst := some 102, op := .mv (.t 9) },
  { dst := some 103, op := .bin .add (.t 102) (.c (.i .i64 1)) },
  { dst := some 9, op := .mv (.t 103) }]))))))
 (.seq (.reg false [{ dst := some 121, op := .fa 4 (.t 1) },
  { dst := some 122, op := .ld none (.t 121) },
  { dst := some 123, op := .call .pure (.c (.fn 82 [] [])) [.t 122] },
  { dst := some 2, op := .mv (.t 123) }])
 .ret))))) }
def A_xref06_deps : AFun := { res := [.t 4], body := (.seq (.reg false [{ dst := some 2, op := .box (.t 0) },
  { dst := some 4, op := .mv (.c (.b false)) }])
 (.seq (.seq (.reg false [{ dst := some 5, op := .mv (.c (.i .i64 0)) }])
 (.blk 0 (.loop (.seq (.seq (.reg false [{ dst := some 8, op := .mv (.t 5) },
  { dst := some 9, op := .mv (.t 1) },
  { dst := some 10, op := .len (.t 9) },
  { dst := some 11, op := .bin .lss (.t 8) (.t 10) }])
 (.cond (.t 11) .skip
 (.ext 0)))
 (.seq (.blk 1 (.seq (.reg true [{ dst := some 14, op := .mv (.t 1) },
  { dst := some 15, op := .mv (.t 5) },
  { dst := some 16, op := .ia 2 (.t 14) (.t 15) },
  { dst := some 17, op := .fa 0 (.t 16) },
  { dst := some 18, op := .ld none (.t 17), pre := [] },
  { dst := some 19, op := .mv (.t 1) },
  { dst := some 20, op := .mv (.t 5) },
  { dst := some 21, op := .ia 2 (.t 19) (.t 20) },
  { dst := some 22, op := .fa 1 (.t 21) },
  { dst := some 23, op := .ld none (.t 22), pre := [] },
  { dst := some 6, op := .mv (.t 18) },
  { dst := some 7, op := .mv (.t 23) }])
 (.seq (.reg true [{ dst := some 24, op := .mv (.t 6) },
  { dst := some 25, op := .bin .lss (.t 24) (.c (.i .i64 0)) },
  { dst := some 26, op := .mv (.t 25) },
  { dst := some 27, op := .mv (.t 7), grd := some (26, false) },
  { dst := some 28, op := .mv (.t 6), grd := some (26, false) },
  { dst := some 29, op := .bin .leq (.t 27) (.t 28), grd := some (26, false) },
  { dst := some 30, op := .pick (.t 26) (.c (.b true)) (.t 29) },
  { dst := some 31, op := .mv (.t 30) },
  { dst := some 32, op := .mv (.t 7), grd := some (31, false) },
  { dst := some 33, op := .fa 1 (.t 2), grd := some (31, false) },
  { dst := some 34, op := .ld none (.t 33), grd := some (31, false), pre := [] },
  { dst := some 35, op := .len (.t 34), grd := some (31, false) },
  { dst := some 36, op := .bin .geq (.t 32) (.t 35), grd := some (31, false) },
  { dst := some 37, op := .pick (.t 31) (.c (.b true)) (.t 36) },
  { dst := some 38, op := .mv (.t 37) },
  { dst := some 39, op := .fa 1 (.t 2), grd := some (38, false) },
  { dst := some 40, op := .ld none (.t 39), grd := some (38, false), pre := [] },
  { dst := some 41, op := .mv (.t 6), grd := some (38, false) },
  { dst := some 42, op := .ia 6 (.t 40) (.t 41), grd := some (38, false) },
  { dst := some 43, op := .fa 1 (.t 42), grd := some (38, false) },
  { dst := some 44, op := .ld none (.t 43), grd := some (38, false), pre := [] },
  { dst := some 45, op := .bin .neq (.t 44) (.c (.i .i64 1)), grd := some (38, false) },
  { dst := some 46, op := .pick (.t 38) (.c (.b true)) (.t 45) },
  { dst := some 47, op := .mv (.t 46) },
  { dst := some 48, op := .fa 1 (.t 2), grd := some (47, false) },
  { dst := some 49, op := .ld none (.t 48), grd := some (47, false), pre := [] },
  { dst := some 50, op := .mv (.t 6), grd := some (47, false) },
  { dst := some 51, op := .ia 6 (.t 49) (.t 50), grd := some (47, false) },
  { dst := some 52, op := .fa 0 (.t 51), grd := some (47, false) },
  { dst := some 53, op := .ld none (.t 52), grd := some (47, false), pre := [] },
  { dst := some 54, op := .fa 1 (.t 2), grd := some (47, false) },
  { dst := some 55, op := .ld none (.t 54), grd := some (47, false), pre := [] },
  { dst := some 56, op := .mv (.t 7), grd := some (47, false) },
  { dst := some 57, op := .ia 6 (.t 55) (.t 56), grd := some (47, false) },
  { dst := some 58, op := .fa 0 (.t 57), grd := some (47, false) },
  { dst := some 59, op := .ld none (.t 58), grd := some (47, false), pre := [] },
  { dst := some 60, op := .bin .neq (.t 53) (.t 59), grd := some (47, false) },
  { dst := some 61, op := .pick (.t 47) (.c (.b true)) (.t 60) }])
 (.cond (.t 61) (.seq (.reg false [{ dst := some 4, op := .mv (.c (.b false)) }])
 .ret)
 .skip))))
 (.reg false [{ dst := some 12, op := .mv (.t 5) },
  { dst := some 13, op := .bin .add (.t 12) (.c (.i .i64 1)) },
  { dst := some 5, op := .mv (.t 13) }]))))))
 (.seq (.reg false [{ dst := some 62, op := .mv (.t 1) },
  { dst := some 63, op := .call .pure (.c (.fn 82 [] [])) [.t 62] },
  { dst := some 4, op := .mv (.t 63) }])
 .ret))) }
def A_xref06_rising : AFun := { res := [.t 2], body := (.seq (.reg false [{ dst := some 2, op := .mv (.c (.b false)) }])
 (.seq (.seq (.reg false [{ dst := some 3, op := .mv (.c (.i .i64 1)) }])
 (.blk 0 (.loop (.seq (.seq (.reg false [{ dst := some 4, op := .mv (.t 3) },
  { dst := some 5, op := .mv (.t 0) },
  { dst := some 6, op := .len (.t 5) },
  { dst := some 7, op := .bin .lss (.t 4) (.t 6) }])
 (.cond (.t 7) .skip
 (.ext 0)))
 (.seq (.blk 1 (.seq (.reg true [{ dst := some 10, op := .mv (.t 0) },
  { dst := some 11, op := .mv (.t 3) },
  { dst := some 12, op := .ia 2 (.t 10) (.t 11) },
  { dst := some 13, op := .fa 0 (.t 12) },
  { dst := some 14, op := .ld none (.t 13), pre := [] },
  { dst := some 15, op := .mv (.t 0) },
  { dst := some 16, op := .mv (.t 3) },
  { dst := some 17, op := .bin .sub (.t 16) (.c (.i .i64 1)) },
  { dst := some 18, op := .ia 2 (.t 15) (.t 17) },
  { dst := some 19, op := .fa 0 (.t 18) },
  { dst := some 20, op := .ld none (.t 19), pre := [] },
  { dst := some 21, op := .bin .lss (.t 14) (.t 20) },
  { dst := some 22, op := .mv (.t 21) },
  { dst := some 23, op := .mv (.t 0), grd := some (22, false) },
  { dst := some 24, op := .mv (.t 3), grd := some (22, false) },
  { dst := some 25, op := .ia 2 (.t 23) (.t 24), grd := some (22, false) },
  { dst := some 26, op := .fa 0 (.t 25), grd := some (22, false) },
  { dst := some 27, op := .ld none (.t 26), grd := some (22, false), pre := [] },
  { dst := some 28, op := .mv (.t 0), grd := some (22, false) },
  { dst := some 29, op := .mv (.t 3), grd := some (22, false) },
  { dst := some 30, op := .bin .sub (.t 29) (.c (.i .i64 1)), grd := some (22, false) },
  { dst := some 31, op := .ia 2 (.t 28) (.t 30), grd := some (22, false) },
  { dst := some 32, op := .fa 0 (.t 31), grd := some (22, false) },
  { dst := some 33, op := .ld none (.t 32), grd := some (22, false), pre := [] },
  { dst := some 34, op := .bin .eql (.t 27) (.t 33), grd := some (22, false) },
  { dst := some 35, op := .mv (.t 34), grd := some (22, false) },
  { dst := some 36, op := .mv (.t 0), grd := some (35, true) },
  { dst := some 37, op := .mv (.t 3), grd := some (35, true) },
  { dst := some 38, op := .ia 2 (.t 36) (.t 37), grd := some (35, true) },
  { dst := some 39, op := .fa 1 (.t 38), grd := some (35, true) },
  { dst := some 40, op := .ld none (.t 39), grd := some (35, true), pre := [] },
  { dst := some 41, op := .mv (.t 0), grd := some (35, true) },
  { dst := some 42, op := .mv (.t 3), grd := some (35, true) },
  { dst := some 43, op := .bin .sub (.t 42) (.c (.i .i64 1)), grd := some (35, true) },
  { dst := some 44, op := .ia 2 (.t 41) (.t 43), grd := some (35, true) },
  { dst := some 45, op := .fa 1 (.t 44), grd := some (35, true) },
  { dst := some 46, op := .ld none (.t 45), grd := some (35, true), pre := [] },
  { dst := some 47, op := .bin .leq (.t 40) (.t 46), grd := some (35, true) },
  { dst := some 48, op := .pick (.t 35) (.t 47) (.c (.b false)), grd := some (22, false) },
  { dst := some 49, op := .pick (.t 22) (.c (.b true)) (.t 48) }])
 (.cond (.t 49) (.seq (.reg false [{ dst := some 2, op := .mv (.c (.b false)) }])
 .ret)
 .skip)))
 (.reg false [{ dst := some 8, op := .mv (.t 3) },
  { dst := some 9, op := .bin .add (.t 8) (.c (.i .i64 1)) },
  { dst := some 3, op := .mv (.t 9) }]))))))
 (.seq (.reg false [{ dst := some 2, op := .mv (.c (.b true)) }])
 .ret))) }
def A_xref06_Po : AFun := { res := [.t 2], body := (.seq (.reg false [{ dst := some 1, op := .box (.t 0) },
  { dst := some 2, op := .mv (.c (.nilp)) }])
 (.seq (.reg false [{ dst := some 8, op := .fa 1 (.t 1) },
  { dst := some 9, op := .ld none (.t 8) },
  { dst := some 10, op := .len (.t 9) },
  { dst := some 11, op := .call .thaw (.c (.fn 27 [] [])) [.t 10, .c (.sl [] 0 .rig)] },
  { dst := some 3, op := .mv (.t 11) }])
 (.seq (.seq (.reg false [{ dst := some 4, op := .mv (.c (.i .i64 0)) }])
 (.blk 0 (.loop (.seq (.seq (.reg false [{ dst := some 12, op := .mv (.t 4) },
  { dst := some 13, op := .mv (.t 3) },
  { dst := some 14, op := .nilck (.t 13) },
  { dst := some 15, op := .fa 0 (.t 14) },
  { dst := some 16, op := .ld none (.t 15) },
  { dst := some 17, op := .bin .lss (.t 12) (.t 16) }])
 (.cond (.t 17) .skip
 (.ext 0)))
 (.seq (.blk 1 (.seq (.reg false [{ dst := some 20, op := .mv (.t 4) },
  { dst := some 21, op := .bin .add (.t 20) (.c (.i .i64 1)) },
  { dst := some 5, op := .mv (.t 21) }])
 (.blk 2 (.loop (.seq (.seq (.reg false [{ dst := some 22, op := .mv (.t 5) },
  { dst := some 23, op := .mv (.t 3) },
  { dst := some 24, op := .nilck (.t 23) },
  { dst := some 25, op := .fa 0 (.t 24) },
  { dst := some 26, op := .ld none (.t 25) },
  { dst := some 27, op := .bin .lss (.t 22) (.t 26) }])
 (.cond (.t 27) .skip
 (.ext 2)))
 (.seq (.blk 3 (.seq (.reg true [{ dst := some 30, op := .fa 1 (.t 1) },
  { dst := some 31, op := .ld none (.t 30), pre := [] },
  { dst := some 32, op := .mv (.t 4) },
  { dst := some 33, op := .ia 6 (.t 31) (.t 32) },
  { dst := some 34, op := .fa 0 (.t 33) },
  { dst := some 35, op := .ld none (.t 34), pre := [] },
  { dst := some 36, op := .fa 1 (.t 1) },
  { dst := some 37, op := .ld none (.t 36), pre := [] },
  { dst := some 38, op := .mv (.t 5) },
  { dst := some 39, op := .ia 6 (.t 37) (.t 38) },
  { dst := some 40, op := .fa 0 (.t 39) },
  { dst := some 41, op := .ld none (.t 40), pre := [] },
  { dst := some 6, op := .mv (.t 35) },
  { dst := some 7, op := .mv (.t 41) }])
 (.reg false [{ dst := some 42, op := .mv (.t 3) },
  { dst := some 43, op := .mv (.t 4) },
  { dst := some 44, op := .mv (.t 5) },
  { dst := some 45, op := .mv (.t 6) },
  { dst := some 46, op := .bin .eql (.t 45) (.c (.i .i64 0)) },
  { dst := some 47, op := .mv (.t 46) },
  { dst := some 48, op := .mv (.t 7), grd := some (47, true) },
  { dst := some 49, op := .bin .gtr (.t 48) (.c (.i .i64 0)), grd := some (47, true) },
  { dst := some 50, op := .pick (.t 47) (.t 49) (.c (.b false)) },
  { dst := some 51, op := .mv (.t 50) },
  { dst := some 52, op := .mv (.t 6), grd := some (51, false) },
  { dst := some 53, op := .bin .gtr (.t 52) (.c (.i .i64 0)), grd := some (51, false) },
  { dst := some 54, op := .mv (.t 53), grd := some (51, false) },
  { dst := some 55, op := .mv (.t 6), grd := some (54, true) },
  { dst := some 56, op := .mv (.t 7), grd := some (54, true) },
  { dst := some 57, op := .bin .eql (.t 55) (.t 56), grd := some (54, true) },
  { dst := some 58, op := .pick (.t 54) (.t 57) (.c (.b false)), grd := some (51, false) },
  { dst := some 59, op := .pick (.t 51) (.c (.b true)) (.t 58) },
  { dst := some 60, op := .nilck (.t 42) },
  { dst := some 61, op := .fa 1 (.t 60) },
  { dst := some 62, op := .iaa 40 40 (.t 61) (.t 43) },
  { dst := some 63, op := .iaa 40 1 (.t 62) (.t 44) },
  { dst := none, op := .st 1 (.t 63) (.t 59) }])))
 (.reg false [{ dst := some 28, op := .mv (.t 5) },
  { dst := some 29, op := .bin .add (.t 28) (.c (.i .i64 1)) },
  { dst := some 5, op := .mv (.t 29) }])))))))
 (.reg false [{ dst := some 18, op := .mv (.t 4) },
  { dst := some 19, op := .bin .add (.t 18) (.c (.i .i64 1)) },
  { dst := some 4, op := .mv (.t 19) }]))))))
 (.seq (.reg false [{ dst := some 64, op := .mv (.t 3) },
  { dst := some 2, op := .mv (.t 64) }])
 .ret)))) }
def A_xref06_Of : AFun := { res := [.t 4], body := (.seq (.reg false [{ dst := some 2, op := .box (.t 0) },
  { dst := some 4, op := .mv (.c (.nilp)) }])
 (.seq (.reg false [{ dst := some 5, op := .fa 1 (.t 2) },
  { dst := some 6, op := .ld none (.t 5) },
  { dst := some 7, op := .len (.t 6) },
  { dst := some 8, op := .mv (.t 1) },
  { dst := some 9, op := .call .pure (.c (.fn 27 [] [])) [.t 7, .t 8] },
  { dst := some 4, op := .mv (.t 9) }])
 .ret)) }
def A_xref06_Kind : AFun := { res := [.t 8], body := (.seq (.reg false [{ dst := some 4, op := .box (.t 0) },
  { dst := some 8, op := .mv (.c (.nilp)) }])
 (.seq (.reg false [{ dst := some 12, op := .fa 1 (.t 4) },
  { dst := some 13, op := .ld none (.t 12) },
  { dst := some 14, op := .len (.t 13) },
  { dst := some 15, op := .call .thaw (.c (.fn 27 [] [])) [.t 14, .c (.sl [] 0 .rig)] },
  { dst := some 9, op := .mv (.t 15) }])
 (.seq (.seq (.reg false [{ dst := some 10, op := .mv (.c (.i .i64 0)) }])
 (.blk 0 (.loop (.seq (.seq (.reg false [{ dst := some 16, op := .mv (.t 10) },
  { dst := some 17, op := .mv (.t 9) },
  { dst := some 18, op := .nilck (.t 17) },
  { dst := some 19, op := .fa 0 (.t 18) },
  { dst := some 20, op := .ld none (.t 19) },
  { dst := some 21, op := .bin .lss (.t 16) (.t 20) }])
 (.cond (.t 21) .skip
 (.ext 0)))
 (.seq (.blk 1 (.seq (.reg false [{ dst := some 24, op := .fa 1 (.t 4) },
  { dst := some 25, op := .ld none (.t 24) },
  { dst := some 26, op := .mv (.t 10) },
  { dst := some 27, op := .ia 6 (.t 25) (.t 26) },
  { dst := some 28, op := .ld (some 6) (.t 27) },
  { dst := some 11, op := .new (List.replicate 5 (.i .i64 0) ++ [.b false]) },
  { dst := none, op := .st 6 (.t 11) (.t 28) }])
 (.reg true [{ dst := some 29, op := .mv (.t 9) },
  { dst := some 30, op := .mv (.t 10) },
  { dst := some 31, op := .mv (.t 10) },
  { dst := some 32, op := .fa 1 (.t 11) },
  { dst := some 33, op := .ld none (.t 32), pre := [] },
  { dst := some 34, op := .mv (.t 1) },
  { dst := some 35, op := .bin .eql (.t 33) (.t 34) },
  { dst := some 36, op := .mv (.t 35) },
  { dst := some 37, op := .fa 2 (.t 11), grd := some (36, true) },
  { dst := some 38, op := .ld none (.t 37), grd := some (36, true), pre := [] },
  { dst := some 39, op := .mv (.t 2), grd := some (36, true) },
  { dst := some 40, op := .bin .geq (.t 38) (.t 39), grd := some (36, true) },
  { dst := some 41, op := .pick (.t 36) (.t 40) (.c (.b false)) },
  { dst := some 42, op := .mv (.t 41) },
  { dst := some 43, op := .fa 2 (.t 11), grd := some (42, true) },
  { dst := some 44, op := .ld none (.t 43), grd := some (42, true), pre := [] },
  { dst := some 45, op := .mv (.t 3), grd := some (42, true) },
  { dst := some 46, op := .bin .leq (.t 44) (.t 45), grd := some (42, true) },
  { dst := some 47, op := .pick (.t 42) (.t 46) (.c (.b false)) },
  { dst := some 48, op := .nilck (.t 29) },
  { dst := some 49, op := .fa 1 (.t 48) },
  { dst := some 50, op := .iaa 40 40 (.t 49) (.t 30) },
  { dst := some 51, op := .iaa 40 1 (.t 50) (.t 31) },
  { dst := none, op := .st 1 (.t 51) (.t 47), pre := [] }])))
 (.reg false [{ dst := some 22, op := .mv (.t 10) },
  { dst := some 23, op := .bin .add (.t 22) (.c (.i .i64 1)) },
  { dst := some 10, op := .mv (.t 23) }]))))))
 (.seq (.reg false [{ dst := some 52, op := .mv (.t 9) },
  { dst := some 8, op := .mv (.t 52) }])
 .ret)))) }
structure Pk_xref06 (F : Funs) : Prop where
  xref06_Check : F 45 = some A_xref06_Check
  xref06_event : F 63 = some A_xref06_event
  xref06_rf : F 64 = some A_xref06_rf
  xref06_co : F 65 = some A_xref06_co
  xref06_rmw : F 66 = some A_xref06_rmw
  xref06_deps : F 67 = some A_xref06_deps
  xref06_rising : F 82 = some A_xref06_rising
  xref06_Po : F 84 = some A_xref06_Po
end Go.Ab
end
section
set_option linter.unusedVariables false
set_option linter.unusedSimpArgs false
namespace Go.Ab
variable {F : Funs}
def EvOk (locs i : Int) (p e : Ev) : Prop :=
  (i < locs → e.th = 0 ∧ e.kd = 2 ∧ e.md = 0 ∧ e.lc = i ∧ e.vl = 0 ∧ e.ex = false) ∧
  (¬ i < locs → 1 ≤ e.th ∧ e.th ≤ 4 ∧ p.th ≤ e.th ∧ ((e.kd = 1 ∧ 0 ≤ e.lc ∧ e.lc < locs ∧ (e.md = 0 ∨ e.md = 1)) ∨ (e.kd = 2 ∧ 0 ≤ e.lc ∧ e.lc < locs ∧ (e.md = 0 ∨ e.md = 2)) ∨ (e.kd = 3 ∧ 1 ≤ e.md ∧ e.md ≤ 4 ∧ e.lc = 0 ∧ e.vl = 0 ∧ e.ex = false)))
end Go.Ab
end
section
set_option linter.unusedVariables false
set_option linter.unusedSimpArgs false
namespace Go.Ab
variable {F : Funs}
def RfOk (X : Gr) (i : Nat) : Prop := ((X.evs.getD i ev0).kd ≠ 1 → X.rf.getD i 0 = -1) ∧
  ((X.evs.getD i ev0).kd = 1 → 0 ≤ X.rf.getD i 0 ∧ X.rf.getD i 0 < X.evs.length ∧ (X.evs.getD (X.rf.getD i 0).toNat ev0).kd = 2 ∧ (X.evs.getD (X.rf.getD i 0).toNat ev0).lc = (X.evs.getD i ev0).lc ∧ (X.evs.getD (X.rf.getD i 0).toNat ev0).vl = (X.evs.getD i ev0).vl)
def isWr (loc : Int) (e : Ev) : Bool := e.kd == 2 && e.lc == loc
def cntW (X : Gr) (loc : Int) (k : Nat) : Nat := ((X.evs.take k).filter (isWr loc)).length
structure CoOk (X : Gr) (loc : Nat) : Prop where
  wr : ∀ i, i < (X.co.getD loc []).length → 0 ≤ (X.co.getD loc []).getD i 0 ∧ (X.co.getD loc []).getD i 0 < X.evs.length ∧ (X.evs.getD ((X.co.getD loc []).getD i 0).toNat ev0).kd = 2 ∧ (X.evs.getD ((X.co.getD loc []).getD i 0).toNat ev0).lc = loc
  ne : ∀ i, i < (X.co.getD loc []).length → ∀ k, k < i → (X.co.getD loc []).getD k 0 ≠ (X.co.getD loc []).getD i 0
  len : (X.co.getD loc []).length = cntW X loc X.evs.length
  pos : 0 < (X.co.getD loc []).length
  hd : (X.co.getD loc []).getD 0 0 = loc
end Go.Ab
end
section
namespace Go.Ab
def A_xref01_New : AFun := { res := [.t 4], body := (.seq (.reg false [{ dst := some 4, op := .mv (.c (.nilp)) }])
 (.seq (.reg false [{ dst := some 9, op := .mv (.t 0) },
  { dst := some 10, op := .mx (.t 9) (.c (.i .i64 0)) },
  { dst := some 11, op := .mn (.t 10) (.c (.i .i64 40)) },
  { dst := some 12, op := .build ([.i .i64 0] ++ List.replicate 1600 (.b false)) [(0, 1, .t 11)] },
  { dst := some 13, op := .box (.t 12) },
  { dst := some 5, op := .mv (.t 13) }])
 (.seq (.seq (.reg false [{ dst := some 6, op := .mv (.c (.i .i64 0)) }])
 (.blk 0 (.loop (.seq (.seq (.reg false [{ dst := some 14, op := .mv (.t 6) },
  { dst := some 15, op := .mv (.t 1) },
  { dst := some 16, op := .len (.t 15) },
  { dst := some 17, op := .bin .lss (.t 14) (.t 16) }])
 (.cond (.t 17) .skip
 (.ext 0)))
 (.seq (.blk 1 (.seq (.reg true [{ dst := some 20, op := .mv (.t 1) },
  { dst := some 21, op := .mv (.t 6) },
  { dst := some 22, op := .ia 2 (.t 20) (.t 21) },
  { dst := some 23, op := .fa 0 (.t 22) },
  { dst := some 24, op := .ld none (.t 23), pre := [] },
  { dst := some 25, op := .mv (.t 1) },
  { dst := some 26, op := .mv (.t 6) },
  { dst := some 27, op := .ia 2 (.t 25) (.t 26) },
  { dst := some 28, op := .fa 1 (.t 27) },
  { dst := some 29, op := .ld none (.t 28), pre := [] },
  { dst := some 7, op := .mv (.t 24) },
  { dst := some 8, op := .mv (.t 29) }])
 (.seq (.reg false [{ dst := some 30, op := .mv (.t 7) },
  { dst := some 31, op := .bin .geq (.t 30) (.c (.i .i64 0)) },
  { dst := some 32, op := .mv (.t 31) },
  { dst := some 33, op := .mv (.t 8), grd := some (32, true) },
  { dst := some 34, op := .bin .geq (.t 33) (.c (.i .i64 0)), grd := some (32, true) },
  { dst := some 35, op := .pick (.t 32) (.t 34) (.c (.b false)) },
  { dst := some 36, op := .mv (.t 35) },
  { dst := some 37, op := .mv (.t 7), grd := some (36, true) },
  { dst := some 38, op := .mv (.t 5), grd := some (36, true) },
  { dst := some 39, op := .nilck (.t 38), grd := some (36, true) },
  { dst := some 40, op := .fa 0 (.t 39), grd := some (36, true) },
  { dst := some 41, op := .ld none (.t 40), grd := some (36, true) },
  { dst := some 42, op := .bin .lss (.t 37) (.t 41), grd := some (36, true) },
  { dst := some 43, op := .pick (.t 36) (.t 42) (.c (.b false)) },
  { dst := some 44, op := .mv (.t 43) },
  { dst := some 45, op := .mv (.t 8), grd := some (44, true) },
  { dst := some 46, op := .mv (.t 5), grd := some (44, true) },
  { dst := some 47, op := .nilck (.t 46), grd := some (44, true) },
  { dst := some 48, op := .fa 0 (.t 47), grd := some (44, true) },
  { dst := some 49, op := .ld none (.t 48), grd := some (44, true) },
  { dst := some 50, op := .bin .lss (.t 45) (.t 49), grd := some (44, true) },
  { dst := some 51, op := .pick (.t 44) (.t 50) (.c (.b false)) }])
 (.cond (.t 51) (.reg false [{ dst := some 52, op := .mv (.t 5) },
  { dst := some 53, op := .mv (.t 7) },
  { dst := some 54, op := .mv (.t 8) },
  { dst := some 55, op := .nilck (.t 52) },
  { dst := some 56, op := .fa 1 (.t 55) },
  { dst := some 57, op := .iaa 40 40 (.t 56) (.t 53) },
  { dst := some 58, op := .iaa 40 1 (.t 57) (.t 54) },
  { dst := none, op := .st 1 (.t 58) (.c (.b true)) }])
 .skip))))
 (.reg false [{ dst := some 18, op := .mv (.t 6) },
  { dst := some 19, op := .bin .add (.t 18) (.c (.i .i64 1)) },
  { dst := some 6, op := .mv (.t 19) }]))))))
 (.seq (.reg false [{ dst := some 59, op := .mv (.t 5) },
  { dst := some 4, op := .mv (.t 59) }])
 .ret)))) }
def A_xref01_R_Or : AFun := { res := [.t 4], body := (.seq (.reg false [{ dst := some 4, op := .mv (.c (.nilp)) }])
 (.seq (.reg true [{ dst := some 8, op := .mv (.t 0) },
  { dst := some 9, op := .nilck (.t 8) },
  { dst := some 10, op := .fa 0 (.t 9) },
  { dst := some 11, op := .ld none (.t 10), pre := [] },
  { dst := some 12, op := .mv (.t 1) },
  { dst := some 13, op := .nilck (.t 12) },
  { dst := some 14, op := .fa 0 (.t 13) },
  { dst := some 15, op := .ld none (.t 14), pre := [] },
  { dst := some 16, op := .mx (.t 11) (.t 15) },
  { dst := some 17, op := .call .thaw (.c (.fn 27 [] [])) [.t 16, .c (.sl [] 0 .rig)], pre := [] },
  { dst := some 5, op := .mv (.t 17) }])
 (.seq (.seq (.reg false [{ dst := some 6, op := .mv (.c (.i .i64 0)) }])
 (.blk 0 (.loop (.seq (.seq (.reg false [{ dst := some 18, op := .mv (.t 6) },
  { dst := some 19, op := .mv (.t 5) },
  { dst := some 20, op := .nilck (.t 19) },
  { dst := some 21, op := .fa 0 (.t 20) },
  { dst := some 22, op := .ld none (.t 21) },
  { dst := some 23, op := .bin .lss (.t 18) (.t 22) }])
 (.cond (.t 23) .skip
 (.ext 0)))
 (.seq (.blk 1 (.seq (.reg false [{ dst := some 7, op := .mv (.c (.i .i64 0)) }])
 (.blk 2 (.loop (.seq (.seq (.reg false [{ dst := some 26, op := .mv (.t 7) },
  { dst := some 27, op := .mv (.t 5) },
  { dst := some 28, op := .nilck (.t 27) },
  { dst := some 29, op := .fa 0 (.t 28) },
  { dst := some 30, op := .ld none (.t 29) },
  { dst := some 31, op := .bin .lss (.t 26) (.t 30) }])
 (.cond (.t 31) .skip
 (.ext 2)))
 (.seq (.blk 3 (.reg true [{ dst := some 34, op := .mv (.t 5) },
  { dst := some 35, op := .mv (.t 6) },
  { dst := some 36, op := .mv (.t 7) },
  { dst := some 37, op := .mv (.t 0) },
  { dst := some 38, op := .mv (.t 6) },
  { dst := some 39, op := .mv (.t 7) },
  { dst := some 40, op := .nilck (.t 37) },
  { dst := some 41, op := .fa 1 (.t 40) },
  { dst := some 42, op := .iaa 40 40 (.t 41) (.t 38) },
  { dst := some 43, op := .iaa 40 1 (.t 42) (.t 39) },
  { dst := some 44, op := .ld none (.t 43), pre := [] },
  { dst := some 45, op := .mv (.t 44) },
  { dst := some 46, op := .mv (.t 1), grd := some (45, false) },
  { dst := some 47, op := .mv (.t 6), grd := some (45, false) },
  { dst := some 48, op := .mv (.t 7), grd := some (45, false) },
  { dst := some 49, op := .nilck (.t 46), grd := some (45, false) },
  { dst := some 50, op := .fa 1 (.t 49), grd := some (45, false) },
  { dst := some 51, op := .iaa 40 40 (.t 50) (.t 47), grd := some (45, false) },
  { dst := some 52, op := .iaa 40 1 (.t 51) (.t 48), grd := some (45, false) },
  { dst := some 53, op := .ld none (.t 52), grd := some (45, false), pre := [] },
  { dst := some 54, op := .pick (.t 45) (.c (.b true)) (.t 53) },
  { dst := some 55, op := .nilck (.t 34) },
  { dst := some 56, op := .fa 1 (.t 55) },
  { dst := some 57, op := .iaa 40 40 (.t 56) (.t 35) },
  { dst := some 58, op := .iaa 40 1 (.t 57) (.t 36) },
  { dst := none, op := .st 1 (.t 58) (.t 54), pre := [] }]))
 (.reg false [{ dst := some 32, op := .mv (.t 7) },
  { dst := some 33, op := .bin .add (.t 32) (.c (.i .i64 1)) },
  { dst := some 7, op := .mv (.t 33) }])))))))
 (.reg false [{ dst := some 24, op := .mv (.t 6) },
  { dst := some 25, op := .bin .add (.t 24) (.c (.i .i64 1)) },
  { dst := some 6, op := .mv (.t 25) }]))))))
 (.seq (.reg false [{ dst := some 59, op := .mv (.t 5) },
  { dst := some 4, op := .mv (.t 59) }])
 .ret)))) }
def A_xref01_R_And : AFun := { res := [.t 4], body := (.seq (.reg false [{ dst := some 4, op := .mv (.c (.nilp)) }])
 (.seq (.reg true [{ dst := some 8, op := .mv (.t 0) },
  { dst := some 9, op := .nilck (.t 8) },
  { dst := some 10, op := .fa 0 (.t 9) },
  { dst := some 11, op := .ld none (.t 10), pre := [] },
  { dst := some 12, op := .mv (.t 1) },
  { dst := some 13, op := .nilck (.t 12) },
  { dst := some 14, op := .fa 0 (.t 13) },
  { dst := some 15, op := .ld none (.t 14), pre := [] },
  { dst := some 16, op := .mx (.t 11) (.t 15) },
  { dst := some 17, op := .call .thaw (.c (.fn 27 [] [])) [.t 16, .c (.sl [] 0 .rig)], pre := [] },
  { dst := some 5, op := .mv (.t 17) }])
 (.seq (.seq (.reg false [{ dst := some 6, op := .mv (.c (.i .i64 0)) }])
 (.blk 0 (.loop (.seq (.seq (.reg false [{ dst := some 18, op := .mv (.t 6) },
  { dst := some 19, op := .mv (.t 5) },
  { dst := some 20, op := .nilck (.t 19) },
  { dst := some 21, op := .fa 0 (.t 20) },
  { dst := some 22, op := .ld none (.t 21) },
  { dst := some 23, op := .bin .lss (.t 18) (.t 22) }])
 (.cond (.t 23) .skip
 (.ext 0)))
 (.seq (.blk 1 (.seq (.reg false [{ dst := some 7, op := .mv (.c (.i .i64 0)) }])
 (.blk 2 (.loop (.seq (.seq (.reg false [{ dst := some 26, op := .mv (.t 7) },
  { dst := some 27, op := .mv (.t 5) },
  { dst := some 28, op := .nilck (.t 27) },
  { dst := some 29, op := .fa 0 (.t 28) },
  { dst := some 30, op := .ld none (.t 29) },
  { dst := some 31, op := .bin .lss (.t 26) (.t 30) }])
 (.cond (.t 31) .skip
 (.ext 2)))
 (.seq (.blk 3 (.reg true [{ dst := some 34, op := .mv (.t 5) },
  { dst := some 35, op := .mv (.t 6) },
  { dst := some 36, op := .mv (.t 7) },
  { dst := some 37, op := .mv (.t 0) },
  { dst := some 38, op := .mv (.t 6) },
  { dst := some 39, op := .mv (.t 7) },
  { dst := some 40, op := .nilck (.t 37) },
  { dst := some 41, op := .fa 1 (.t 40) },
  { dst := some 42, op := .iaa 40 40 (.t 41) (.t 38) },
  { dst := some 43, op := .iaa 40 1 (.t 42) (.t 39) },
  { dst := some 44, op := .ld none (.t 43), pre := [] },
  { dst := some 45, op := .mv (.t 44) },
  { dst := some 46, op := .mv (.t 1), grd := some (45, true) },
  { dst := some 47, op := .mv (.t 6), grd := some (45, true) },
  { dst := some 48, op := .mv (.t 7), grd := some (45, true) },
  { dst := some 49, op := .nilck (.t 46), grd := some (45, true) },
  { dst := some 50, op := .fa 1 (.t 49), grd := some (45, true) },
  { dst := some 51, op := .iaa 40 40 (.t 50) (.t 47), grd := some (45, true) },
  { dst := some 52, op := .iaa 40 1 (.t 51) (.t 48), grd := some (45, true) },
  { dst := some 53, op := .ld none (.t 52), grd := some (45, true), pre := [] },
  { dst := some 54, op := .pick (.t 45) (.t 53) (.c (.b false)) },
  { dst := some 55, op := .nilck (.t 34) },
  { dst := some 56, op := .fa 1 (.t 55) },
  { dst := some 57, op := .iaa 40 40 (.t 56) (.t 35) },
  { dst := some 58, op := .iaa 40 1 (.t 57) (.t 36) },
  { dst := none, op := .st 1 (.t 58) (.t 54), pre := [] }]))
 (.reg false [{ dst := some 32, op := .mv (.t 7) },
  { dst := some 33, op := .bin .add (.t 32) (.c (.i .i64 1)) },
  { dst := some 7, op := .mv (.t 33) }])))))))
 (.reg false [{ dst := some 24, op := .mv (.t 6) },
  { dst := some 25, op := .bin .add (.t 24) (.c (.i .i64 1)) },
  { dst := some 6, op := .mv (.t 25) }]))))))
 (.seq (.reg false [{ dst := some 59, op := .mv (.t 5) },
  { dst := some 4, op := .mv (.t 59) }])
 .ret)))) }
def A_xref01_R_Then : AFun := { res := [.t 4], body := (.seq (.reg false [{ dst := some 4, op := .mv (.c (.nilp)) }])
 (.seq (.reg true [{ dst := some 9, op := .mv (.t 0) },
  { dst := some 10, op := .nilck (.t 9) },
  { dst := some 11, op := .fa 0 (.t 10) },
  { dst := some 12, op := .ld none (.t 11), pre := [] },
  { dst := some 13, op := .mv (.t 1) },
  { dst := some 14, op := .nilck (.t 13) },
  { dst := some 15, op := .fa 0 (.t 14) },
  { dst := some 16, op := .ld none (.t 15), pre := [] },
  { dst := some 17, op := .mx (.t 12) (.t 16) },
  { dst := some 18, op := .call .thaw (.c (.fn 27 [] [])) [.t 17, .c (.sl [] 0 .rig)], pre := [] },
  { dst := some 5, op := .mv (.t 18) }])
 (.seq (.seq (.reg false [{ dst := some 6, op := .mv (.c (.i .i64 0)) }])
 (.blk 0 (.loop (.seq (.seq (.reg false [{ dst := some 19, op := .mv (.t 6) },
  { dst := some 20, op := .mv (.t 5) },
  { dst := some 21, op := .nilck (.t 20) },
  { dst := some 22, op := .fa 0 (.t 21) },
  { dst := some 23, op := .ld none (.t 22) },
  { dst := some 24, op := .bin .lss (.t 19) (.t 23) }])
 (.cond (.t 24) .skip
 (.ext 0)))
 (.seq (.blk 1 (.seq (.reg false [{ dst := some 7, op := .mv (.c (.i .i64 0)) }])
 (.blk 2 (.loop (.seq (.seq (.reg false [{ dst := some 27, op := .mv (.t 7) },
  { dst := some 28, op := .mv (.t 5) },
  { dst := some 29, op := .nilck (.t 28) },
  { dst := some 30, op := .fa 0 (.t 29) },
  { dst := some 31, op := .ld none (.t 30) },
  { dst := some 32, op := .bin .lss (.t 27) (.t 31) }])
 (.cond (.t 32) .skip
 (.ext 2)))
 (.seq (.blk 3 (.seq (.reg false [{ dst := some 8, op := .mv (.c (.i .i64 0)) }])
 (.blk 4 (.loop (.seq (.seq (.reg false [{ dst := some 35, op := .mv (.t 8) },
  { dst := some 36, op := .mv (.t 5) },
  { dst := some 37, op := .nilck (.t 36) },
  { dst := some 38, op := .fa 0 (.t 37) },
  { dst := some 39, op := .ld none (.t 38) },
  { dst := some 40, op := .bin .lss (.t 35) (.t 39) },
  { dst := some 41, op := .mv (.t 40) },
  { dst := some 42, op := .mv (.t 0), grd := some (41, true) },
  { dst := some 43, op := .mv (.t 6), grd := some (41, true) },
  { dst := some 44, op := .mv (.t 7), grd := some (41, true) },
  { dst := some 45, op := .nilck (.t 42), grd := some (41, true) },
  { dst := some 46, op := .fa 1 (.t 45), grd := some (41, true) },
  { dst := some 47, op := .iaa 40 40 (.t 46) (.t 43), grd := some (41, true) },
  { dst := some 48, op := .iaa 40 1 (.t 47) (.t 44), grd := some (41, true) },
  { dst := some 49, op := .ld none (.t 48), grd := some (41, true) },
  { dst := some 50, op := .pick (.t 41) (.t 49) (.c (.b false)) }])
 (.cond (.t 50) .skip
 (.ext 4)))
 (.seq (.blk 5 (.reg true [{ dst := some 53, op := .mv (.t 5) },
  { dst := some 54, op := .mv (.t 6) },
  { dst := some 55, op := .mv (.t 8) },
  { dst := some 56, op := .mv (.t 5) },
  { dst := some 57, op := .mv (.t 6) },
  { dst := some 58, op := .mv (.t 8) },
  { dst := some 59, op := .nilck (.t 56) },
  { dst := some 60, op := .fa 1 (.t 59) },
  { dst := some 61, op := .iaa 40 40 (.t 60) (.t 57) },
  { dst := some 62, op := .iaa 40 1 (.t 61) (.t 58) },
  { dst := some 63, op := .ld none (.t 62), pre := [] },
  { dst := some 64, op := .mv (.t 63) },
  { dst := some 65, op := .mv (.t 1), grd := some (64, false) },
  { dst := some 66, op := .mv (.t 7), grd := some (64, false) },
  { dst := some 67, op := .mv (.t 8), grd := some (64, false) },
  { dst := some 68, op := .nilck (.t 65), grd := some (64, false) },
  { dst := some 69, op := .fa 1 (.t 68), grd := some (64, false) },
  { dst := some 70, op := .iaa 40 40 (.t 69) (.t 66), grd := some (64, false) },
  { dst := some 71, op := .iaa 40 1 (.t 70) (.t 67), grd := some (64, false) },
  { dst := some 72, op := .ld none (.t 71), grd := some (64, false), pre := [] },
  { dst := some 73, op := .pick (.t 64) (.c (.b true)) (.t 72) },
  { dst := some 74, op := .nilck (.t 53) },
  { dst := some 75, op := .fa 1 (.t 74) },
  { dst := some 76, op := .iaa 40 40 (.t 75) (.t 54) },
  { dst := some 77, op := .iaa 40 1 (.t 76) (.t 55) },
  { dst := none, op := .st 1 (.t 77) (.t 73), pre := [] }]))
 (.reg false [{ dst := some 51, op := .mv (.t 8) },
  { dst := some 52, op := .bin .add (.t 51) (.c (.i .i64 1)) },
  { dst := some 8, op := .mv (.t 52) }])))))))
 (.reg false [{ dst := some 33, op := .mv (.t 7) },
  { dst := some 34, op := .bin .add (.t 33) (.c (.i .i64 1)) },
  { dst := some 7, op := .mv (.t 34) }])))))))
 (.reg false [{ dst := some 25, op := .mv (.t 6) },
  { dst := some 26, op := .bin .add (.t 25) (.c (.i .i64 1)) },
  { dst := some 6, op := .mv (.t 26) }]))))))
 (.seq (.reg false [{ dst := some 78, op := .mv (.t 5) },
  { dst := some 4, op := .mv (.t 78) }])
 .ret)))) }
def A_xref01_R_Back : AFun := { res := [.t 2], body := (.seq (.reg false [{ dst := some 2, op := .mv (.c (.nilp)) }])
 (.seq (.reg false [{ dst := some 6, op := .mv (.t 0) },
  { dst := some 7, op := .nilck (.t 6) },
  { dst := some 8, op := .fa 0 (.t 7) },
  { dst := some 9, op := .ld none (.t 8) },
  { dst := some 10, op := .call .thaw (.c (.fn 27 [] [])) [.t 9, .c (.sl [] 0 .rig)] },
  { dst := some 3, op := .mv (.t 10) }])
 (.seq (.seq (.reg false [{ dst := some 4, op := .mv (.c (.i .i64 0)) }])
 (.blk 0 (.loop (.seq (.seq (.reg false [{ dst := some 11, op := .mv (.t 4) },
  { dst := some 12, op := .mv (.t 3) },
  { dst := some 13, op := .nilck (.t 12) },
  { dst := some 14, op := .fa 0 (.t 13) },
  { dst := some 15, op := .ld none (.t 14) },
  { dst := some 16, op := .bin .lss (.t 11) (.t 15) }])
 (.cond (.t 16) .skip
 (.ext 0)))
 (.seq (.blk 1 (.seq (.reg false [{ dst := some 5, op := .mv (.c (.i .i64 0)) }])
 (.blk 2 (.loop (.seq (.seq (.reg false [{ dst := some 19, op := .mv (.t 5) },
  { dst := some 20, op := .mv (.t 3) },
  { dst := some 21, op := .nilck (.t 20) },
  { dst := some 22, op := .fa 0 (.t 21) },
  { dst := some 23, op := .ld none (.t 22) },
  { dst := some 24, op := .bin .lss (.t 19) (.t 23) }])
 (.cond (.t 24) .skip
 (.ext 2)))
 (.seq (.blk 3 (.reg true [{ dst := some 27, op := .mv (.t 3) },
  { dst := some 28, op := .mv (.t 5) },
  { dst := some 29, op := .mv (.t 4) },
  { dst := some 30, op := .mv (.t 0) },
  { dst := some 31, op := .mv (.t 4) },
  { dst := some 32, op := .mv (.t 5) },
  { dst := some 33, op := .nilck (.t 30) },
  { dst := some 34, op := .fa 1 (.t 33) },
  { dst := some 35, op := .iaa 40 40 (.t 34) (.t 31) },
  { dst := some 36, op := .iaa 40 1 (.t 35) (.t 32) },
  { dst := some 37, op := .ld none (.t 36), pre := [] },
  { dst := some 38, op := .nilck (.t 27) },
  { dst := some 39, op := .fa 1 (.t 38) },
  { dst := some 40, op := .iaa 40 40 (.t 39) (.t 28) },
  { dst := some 41, op := .iaa 40 1 (.t 40) (.t 29) },
  { dst := none, op := .st 1 (.t 41) (.t 37), pre := [] }]))
 (.reg false [{ dst := some 25, op := .mv (.t 5) },
  { dst := some 26, op := .bin .add (.t 25) (.c (.i .i64 1)) },
  { dst := some 5, op := .mv (.t 26) }])))))))
 (.reg false [{ dst := some 17, op := .mv (.t 4) },
  { dst := some 18, op := .bin .add (.t 17) (.c (.i .i64 1)) },
  { dst := some 4, op := .mv (.t 18) }]))))))
 (.seq (.reg false [{ dst := some 42, op := .mv (.t 3) },
  { dst := some 2, op := .mv (.t 42) }])
 .ret)))) }
def A_xref01_R_Plus : AFun := { res := [.t 2], body := (.seq (.reg false [{ dst := some 2, op := .mv (.c (.nilp)) }])
 (.seq (.reg false [{ dst := some 7, op := .mv (.t 0) },
  { dst := some 8, op := .nilck (.t 7) },
  { dst := some 9, op := .fa 0 (.t 8) },
  { dst := some 10, op := .ld none (.t 9) },
  { dst := some 11, op := .call .thaw (.c (.fn 27 [] [])) [.t 10, .c (.sl [] 0 .rig)] },
  { dst := some 3, op := .mv (.t 11) }])
 (.seq (.reg false [{ dst := some 12, op := .mv (.t 3) },
  { dst := some 13, op := .mv (.t 0) },
  { dst := some 14, op := .nilck (.t 13) },
  { dst := some 15, op := .fa 1 (.t 14) },
  { dst := some 16, op := .ld (some 1600) (.t 15) },
  { dst := some 17, op := .nilck (.t 12) },
  { dst := some 18, op := .fa 1 (.t 17) },
  { dst := none, op := .st 1600 (.t 18) (.t 16) }])
 (.seq (.seq (.reg false [{ dst := some 4, op := .mv (.c (.i .i64 0)) }])
 (.blk 0 (.loop (.seq (.seq (.reg false [{ dst := some 19, op := .mv (.t 4) },
  { dst := some 20, op := .mv (.t 3) },
  { dst := some 21, op := .nilck (.t 20) },
  { dst := some 22, op := .fa 0 (.t 21) },
  { dst := some 23, op := .ld none (.t 22) },
  { dst := some 24, op := .bin .lss (.t 19) (.t 23) }])
 (.cond (.t 24) .skip
 (.ext 0)))
 (.seq (.blk 1 (.seq (.reg false [{ dst := some 5, op := .mv (.c (.i .i64 0)) }])
 (.blk 2 (.loop (.seq (.seq (.reg false [{ dst := some 27, op := .mv (.t 5) },
  { dst := some 28, op := .mv (.t 3) },
  { dst := some 29, op := .nilck (.t 28) },
  { dst := some 30, op := .fa 0 (.t 29) },
  { dst := some 31, op := .ld none (.t 30) },
  { dst := some 32, op := .bin .lss (.t 27) (.t 31) }])
 (.cond (.t 32) .skip
 (.ext 2)))
 (.seq (.blk 3 (.seq (.reg false [{ dst := some 6, op := .mv (.c (.i .i64 0)) }])
 (.blk 4 (.loop (.seq (.seq (.reg false [{ dst := some 35, op := .mv (.t 6) },
  { dst := some 36, op := .mv (.t 3) },
  { dst := some 37, op := .nilck (.t 36) },
  { dst := some 38, op := .fa 0 (.t 37) },
  { dst := some 39, op := .ld none (.t 38) },
  { dst := some 40, op := .bin .lss (.t 35) (.t 39) },
  { dst := some 41, op := .mv (.t 40) },
  { dst := some 42, op := .mv (.t 3), grd := some (41, true) },
  { dst := some 43, op := .mv (.t 5), grd := some (41, true) },
  { dst := some 44, op := .mv (.t 4), grd := some (41, true) },
  { dst := some 45, op := .nilck (.t 42), grd := some (41, true) },
  { dst := some 46, op := .fa 1 (.t 45), grd := some (41, true) },
  { dst := some 47, op := .iaa 40 40 (.t 46) (.t 43), grd := some (41, true) },
  { dst := some 48, op := .iaa 40 1 (.t 47) (.t 44), grd := some (41, true) },
  { dst := some 49, op := .ld none (.t 48), grd := some (41, true) },
  { dst := some 50, op := .pick (.t 41) (.t 49) (.c (.b false)) }])
 (.cond (.t 50) .skip
 (.ext 4)))
 (.seq (.blk 5 (.reg true [{ dst := some 53, op := .mv (.t 3) },
  { dst := some 54, op := .mv (.t 5) },
  { dst := some 55, op := .mv (.t 6) },
  { dst := some 56, op := .mv (.t 3) },
  { dst := some 57, op := .mv (.t 5) },
  { dst := some 58, op := .mv (.t 6) },
  { dst := some 59, op := .nilck (.t 56) },
  { dst := some 60, op := .fa 1 (.t 59) },
  { dst := some 61, op := .iaa 40 40 (.t 60) (.t 57) },
  { dst := some 62, op := .iaa 40 1 (.t 61) (.t 58) },
  { dst := some 63, op := .ld none (.t 62), pre := [] },
  { dst := some 64, op := .mv (.t 63) },
  { dst := some 65, op := .mv (.t 3), grd := some (64, false) },
  { dst := some 66, op := .mv (.t 4), grd := some (64, false) },
  { dst := some 67, op := .mv (.t 6), grd := some (64, false) },
  { dst := some 68, op := .nilck (.t 65), grd := some (64, false) },
  { dst := some 69, op := .fa 1 (.t 68), grd := some (64, false) },
  { dst := some 70, op := .iaa 40 40 (.t 69) (.t 66), grd := some (64, false) },
  { dst := some 71, op := .iaa 40 1 (.t 70) (.t 67), grd := some (64, false) },
  { dst := some 72, op := .ld none (.t 71), grd := some (64, false), pre := [] },
  { dst := some 73, op := .pick (.t 64) (.c (.b true)) (.t 72) },
  { dst := some 74, op := .nilck (.t 53) },
  { dst := some 75, op := .fa 1 (.t 74) },
  { dst := some 76, op := .iaa 40 40 (.t 75) (.t 54) },
  { dst := some 77, op := .iaa 40 1 (.t 76) (.t 55) },
  { dst := none, op := .st 1 (.t 77) (.t 73), pre := [] }]))
 (.reg false [{ dst := some 51, op := .mv (.t 6) },
  { dst := some 52, op := .bin .add (.t 51) (.c (.i .i64 1)) },
  { dst := some 6, op := .mv (.t 52) }])))))))
 (.reg false [{ dst := some 33, op := .mv (.t 5) },
  { dst := some 34, op := .bin .add (.t 33) (.c (.i .i64 1)) },
  { dst := some 5, op := .mv (.t 34) }])))))))
 (.reg false [{ dst := some 25, op := .mv (.t 4) },
  { dst := some 26, op := .bin .add (.t 25) (.c (.i .i64 1)) },
  { dst := some 4, op := .mv (.t 26) }]))))))
 (.seq (.reg false [{ dst := some 78, op := .mv (.t 3) },
  { dst := some 2, op := .mv (.t 78) }])
 .ret))))) }
def A_xref01_R_Maybe : AFun := { res := [.t 2], body := (.seq (.reg false [{ dst := some 2, op := .mv (.c (.nilp)) }])
 (.seq (.reg false [{ dst := some 5, op := .mv (.t 0) },
  { dst := some 6, op := .nilck (.t 5) },
  { dst := some 7, op := .fa 0 (.t 6) },
  { dst := some 8, op := .ld none (.t 7) },
  { dst := some 9, op := .call .thaw (.c (.fn 27 [] [])) [.t 8, .c (.sl [] 0 .rig)] },
  { dst := some 3, op := .mv (.t 9) }])
 (.seq (.reg false [{ dst := some 10, op := .mv (.t 3) },
  { dst := some 11, op := .mv (.t 0) },
  { dst := some 12, op := .nilck (.t 11) },
  { dst := some 13, op := .fa 1 (.t 12) },
  { dst := some 14, op := .ld (some 1600) (.t 13) },
  { dst := some 15, op := .nilck (.t 10) },
  { dst := some 16, op := .fa 1 (.t 15) },
  { dst := none, op := .st 1600 (.t 16) (.t 14) }])
 (.seq (.seq (.reg false [{ dst := some 4, op := .mv (.c (.i .i64 0)) }])
 (.blk 0 (.loop (.seq (.seq (.reg false [{ dst := some 17, op := .mv (.t 4) },
  { dst := some 18, op := .mv (.t 3) },
  { dst := some 19, op := .nilck (.t 18) },
  { dst := some 20, op := .fa 0 (.t 19) },
  { dst := some 21, op := .ld none (.t 20) },
  { dst := some 22, op := .bin .lss (.t 17) (.t 21) }])
 (.cond (.t 22) .skip
 (.ext 0)))
 (.seq (.blk 1 (.reg false [{ dst := some 25, op := .mv (.t 3) },
  { dst := some 26, op := .mv (.t 4) },
  { dst := some 27, op := .mv (.t 4) },
  { dst := some 28, op := .nilck (.t 25) },
  { dst := some 29, op := .fa 1 (.t 28) },
  { dst := some 30, op := .iaa 40 40 (.t 29) (.t 26) },
  { dst := some 31, op := .iaa 40 1 (.t 30) (.t 27) },
  { dst := none, op := .st 1 (.t 31) (.c (.b true)) }]))
 (.reg false [{ dst := some 23, op := .mv (.t 4) },
  { dst := some 24, op := .bin .add (.t 23) (.c (.i .i64 1)) },
  { dst := some 4, op := .mv (.t 24) }]))))))
 (.seq (.reg false [{ dst := some 32, op := .mv (.t 3) },
  { dst := some 2, op := .mv (.t 32) }])
 .ret))))) }
def A_xref01_R_Loops : AFun := { res := [.t 2], body := (.seq (.reg false [{ dst := some 2, op := .mv (.c (.b false)) }])
 (.seq (.reg false [{ dst := some 5, op := .mv (.t 0) },
  { dst := some 6, op := .call .pure (.c (.fn 34 [] [])) [.t 5] },
  { dst := some 3, op := .mv (.t 6) }])
 (.seq (.seq (.reg false [{ dst := some 4, op := .mv (.c (.i .i64 0)) }])
 (.blk 0 (.loop (.seq (.seq (.reg false [{ dst := some 7, op := .mv (.t 4) },
  { dst := some 8, op := .mv (.t 3) },
  { dst := some 9, op := .nilck (.t 8) },
  { dst := some 10, op := .fa 0 (.t 9) },
  { dst := some 11, op := .ld none (.t 10) },
  { dst := some 12, op := .bin .lss (.t 7) (.t 11) }])
 (.cond (.t 12) .skip
 (.ext 0)))
 (.seq (.blk 1 (.seq (.reg false [{ dst := some 15, op := .mv (.t 3) },
  { dst := some 16, op := .mv (.t 4) },
  { dst := some 17, op := .mv (.t 4) },
  { dst := some 18, op := .nilck (.t 15) },
  { dst := some 19, op := .fa 1 (.t 18) },
  { dst := some 20, op := .iaa 40 40 (.t 19) (.t 16) },
  { dst := some 21, op := .iaa 40 1 (.t 20) (.t 17) },
  { dst := some 22, op := .ld none (.t 21) }])
 (.cond (.t 22) (.seq (.reg false [{ dst := some 2, op := .mv (.c (.b true)) }])
 .ret)
 .skip)))
 (.reg false [{ dst := some 13, op := .mv (.t 4) },
  { dst := some 14, op := .bin .add (.t 13) (.c (.i .i64 1)) },
  { dst := some 4, op := .mv (.t 14) }]))))))
 (.seq (.reg false [{ dst := some 2, op := .mv (.c (.b false)) }])
 .ret)))) }
def A_xref01_SamePairs : AFun := { res := [.t 4], body := (.seq (.reg false [{ dst := some 4, op := .mv (.c (.b false)) }])
 (.seq (.seq (.reg false [{ dst := some 6, op := .mv (.t 0) },
  { dst := some 7, op := .len (.t 6) },
  { dst := some 8, op := .mv (.t 1) },
  { dst := some 9, op := .len (.t 8) },
  { dst := some 10, op := .bin .neq (.t 7) (.t 9) }])
 (.cond (.t 10) (.seq (.reg false [{ dst := some 4, op := .mv (.c (.b false)) }])
 .ret)
 .skip))
 (.seq (.seq (.reg false [{ dst := some 5, op := .mv (.c (.i .i64 0)) }])
 (.blk 0 (.loop (.seq (.seq (.reg false [{ dst := some 11, op := .mv (.t 5) },
  { dst := some 12, op := .mv (.t 0) },
  { dst := some 13, op := .len (.t 12) },
  { dst := some 14, op := .bin .lss (.t 11) (.t 13) }])
 (.cond (.t 14) .skip
 (.ext 0)))
 (.seq (.blk 1 (.seq (.reg true [{ dst := some 17, op := .mv (.t 0) },
  { dst := some 18, op := .mv (.t 5) },
  { dst := some 19, op := .ia 2 (.t 17) (.t 18) },
  { dst := some 20, op := .fa 0 (.t 19) },
  { dst := some 21, op := .ld none (.t 20), pre := [] },
  { dst := some 22, op := .mv (.t 1) },
  { dst := some 23, op := .mv (.t 5) },
  { dst := some 24, op := .ia 2 (.t 22) (.t 23) },
  { dst := some 25, op := .fa 0 (.t 24) },
  { dst := some 26, op := .ld none (.t 25), pre := [] },
  { dst := some 27, op := .bin .neq (.t 21) (.t 26) },
  { dst := some 28, op := .mv (.t 27) },
  { dst := some 29, op := .mv (.t 0), grd := some (28, false) },
  { dst := some 30, op := .mv (.t 5), grd := some (28, false) },
  { dst := some 31, op := .ia 2 (.t 29) (.t 30), grd := some (28, false) },
  { dst := some 32, op := .fa 1 (.t 31), grd := some (28, false) },
  { dst := some 33, op := .ld none (.t 32), grd := some (28, false), pre := [] },
  { dst := some 34, op := .mv (.t 1), grd := some (28, false) },
  { dst := some 35, op := .mv (.t 5), grd := some (28, false) },
  { dst := some 36, op := .ia 2 (.t 34) (.t 35), grd := some (28, false) },
  { dst := some 37, op := .fa 1 (.t 36), grd := some (28, false) },
  { dst := some 38, op := .ld none (.t 37), grd := some (28, false), pre := [] },
  { dst := some 39, op := .bin .neq (.t 33) (.t 38), grd := some (28, false) },
  { dst := some 40, op := .pick (.t 28) (.c (.b true)) (.t 39) }])
 (.cond (.t 40) (.seq (.reg false [{ dst := some 4, op := .mv (.c (.b false)) }])
 .ret)
 .skip)))
 (.reg false [{ dst := some 15, op := .mv (.t 5) },
  { dst := some 16, op := .bin .add (.t 15) (.c (.i .i64 1)) },
  { dst := some 5, op := .mv (.t 16) }]))))))
 (.seq (.reg false [{ dst := some 4, op := .mv (.c (.b true)) }])
 .ret)))) }
def A_xref01_R_Pairs : AFun := { res := [.t 2], body := (.seq (.reg false [{ dst := some 2, op := .mv (.c (.sl [] 0 .rig)) }])
 (.seq (.reg false [{ dst := some 3, op := .mv (.c (.sl [] 0 .rig)) }])
 (.seq (.seq (.reg false [{ dst := some 4, op := .mv (.c (.i .i64 0)) }])
 (.blk 0 (.loop (.seq (.seq (.reg false [{ dst := some 6, op := .mv (.t 4) },
  { dst := some 7, op := .mv (.t 0) },
  { dst := some 8, op := .nilck (.t 7) },
  { dst := some 9, op := .fa 0 (.t 8) },
  { dst := some 10, op := .ld none (.t 9) },
  { dst := some 11, op := .bin .lss (.t 6) (.t 10) }])
 (.cond (.t 11) .skip
 (.ext 0)))
 (.seq (.blk 1 (.seq (.reg false [{ dst := some 5, op := .mv (.c (.i .i64 0)) }])
 (.blk 2 (.loop (.seq (.seq (.reg false [{ dst := some 14, op := .mv (.t 5) },
  { dst := some 15, op := .mv (.t 0) },
  { dst := some 16, op := .nilck (.t 15) },
  { dst := some 17, op := .fa 0 (.t 16) },
  { dst := some 18, op := .ld none (.t 17) },
  { dst := some 19, op := .bin .lss (.t 14) (.t 18) }])
 (.cond (.t 19) .skip
 (.ext 2)))
 (.seq (.blk 3 (.seq (.reg false [{ dst := some 22, op := .mv (.t 0) },
  { dst := some 23, op := .mv (.t 4) },
  { dst := some 24, op := .mv (.t 5) },
  { dst := some 25, op := .nilck (.t 22) },
  { dst := some 26, op := .fa 1 (.t 25) },
  { dst := some 27, op := .iaa 40 40 (.t 26) (.t 23) },
  { dst := some 28, op := .iaa 40 1 (.t 27) (.t 24) },
  { dst := some 29, op := .ld none (.t 28) }])
 (.cond (.t 29) (.reg false [{ dst := some 30, op := .mv (.t 3) },
  { dst := some 31, op := .mv (.t 4) },
  { dst := some 32, op := .mv (.t 5) },
  { dst := some 33, op := .build ([.i .i64 0, .i .i64 0]) [(0, 1, .t 31), (1, 1, .t 32)] },
  { dst := some 34, op := .bsl true 1 ([.i .i64 0, .i .i64 0]) [(0, 2, .t 33)] },
  { dst := some 35, op := .app 2 16 (.t 30) (.t 34) },
  { dst := some 3, op := .mv (.t 35) }])
 .skip)))
 (.reg false [{ dst := some 20, op := .mv (.t 5) },
  { dst := some 21, op := .bin .add (.t 20) (.c (.i .i64 1)) },
  { dst := some 5, op := .mv (.t 21) }])))))))
 (.reg false [{ dst := some 12, op := .mv (.t 4) },
  { dst := some 13, op := .bin .add (.t 12) (.c (.i .i64 1)) },
  { dst := some 4, op := .mv (.t 13) }]))))))
 (.seq (.reg false [{ dst := some 36, op := .mv (.t 3) },
  { dst := some 2, op := .mv (.t 36) }])
 .ret)))) }
def A_xref01_R_Star : AFun := { res := [.t 2], body := (.seq (.reg false [{ dst := some 2, op := .mv (.c (.nilp)) }])
 (.seq (.reg false [{ dst := some 3, op := .mv (.t 0) },
  { dst := some 4, op := .call .pure (.c (.fn 34 [] [])) [.t 3] },
  { dst := some 5, op := .call .pure (.c (.fn 35 [] [])) [.t 4] },
  { dst := some 2, op := .mv (.t 5) }])
 .ret)) }
def A_xref01_R_Self : AFun := { res := [.t 2], body := (.seq (.reg false [{ dst := some 2, op := .mv (.c (.b false)) }])
 (.seq (.seq (.reg false [{ dst := some 3, op := .mv (.c (.i .i64 0)) }])
 (.blk 0 (.loop (.seq (.seq (.reg false [{ dst := some 4, op := .mv (.t 3) },
  { dst := some 5, op := .mv (.t 0) },
  { dst := some 6, op := .nilck (.t 5) },
  { dst := some 7, op := .fa 0 (.t 6) },
  { dst := some 8, op := .ld none (.t 7) },
  { dst := some 9, op := .bin .lss (.t 4) (.t 8) }])
 (.cond (.t 9) .skip
 (.ext 0)))
 (.seq (.blk 1 (.seq (.reg false [{ dst := some 12, op := .mv (.t 0) },
  { dst := some 13, op := .mv (.t 3) },
  { dst := some 14, op := .mv (.t 3) },
  { dst := some 15, op := .nilck (.t 12) },
  { dst := some 16, op := .fa 1 (.t 15) },
  { dst := some 17, op := .iaa 40 40 (.t 16) (.t 13) },
  { dst := some 18, op := .iaa 40 1 (.t 17) (.t 14) },
  { dst := some 19, op := .ld none (.t 18) }])
 (.cond (.t 19) (.seq (.reg false [{ dst := some 2, op := .mv (.c (.b true)) }])
 .ret)
 .skip)))
 (.reg false [{ dst := some 10, op := .mv (.t 3) },
  { dst := some 11, op := .bin .add (.t 10) (.c (.i .i64 1)) },
  { dst := some 3, op := .mv (.t 11) }]))))))
 (.seq (.reg false [{ dst := some 2, op := .mv (.c (.b false)) }])
 .ret))) }
structure Pk_xref01 (F : Funs) : Prop where
  xref01_New : F 27 = some A_xref01_New
  xref01_R_Or : F 29 = some A_xref01_R_Or
  xref01_R_And : F 30 = some A_xref01_R_And
  xref01_R_Then : F 32 = some A_xref01_R_Then
  xref01_R_Back : F 33 = some A_xref01_R_Back
  xref01_R_Plus : F 34 = some A_xref01_R_Plus
  xref01_R_Maybe : F 35 = some A_xref01_R_Maybe
  xref01_SamePairs : F 55 = some A_xref01_SamePairs
  xref01_R_Pairs : F 56 = some A_xref01_R_Pairs
end Go.Ab
end
section
set_option linter.unusedVariables false
set_option linter.unusedSimpArgs false
namespace Go.Ab
abbrev Mx := Nat → Nat → Bool
def matR (M : Mx) : List AV := (List.range 1600).map fun i => .b (M (i / 40) (i % 40))
def matC (n : Nat) (M : Mx) : List AV := .i .i64 n :: matR M
theorem matR_len (M : Mx) : (matR M).length = 1600 := by simp [matR]
theorem matC_len (n : Nat) (M : Mx) : (matC n M).length = 1601 := by simp [matC, matR_len]
theorem matR_get {M : Mx} {a b : Nat} (ha : a < 40) (hb : b < 40) : (matR M)[a * 40 + b]? = some (.b (M a b)) := by
  have h : a * 40 + b < 1600 := by omega
  simp only [matR, List.getElem?_map, List.getElem?_range h, Option.map_some]
  rw [show (a * 40 + b) / 40 = a by omega, show (a * 40 + b) % 40 = b by omega]
theorem matC_n (n : Nat) (M : Mx) : part (matC n M) 0 none = some (.i .i64 n) := rfl
theorem matC_drop1 (n : Nat) (M : Mx) : (matC n M).drop 1 = matR M := rfl
theorem matC_at {n : Nat} {M : Mx} {a b : Nat} (h : a < 40 ∧ b < 40) : part (matC n M) (0 + 1 + a * 40 + b * 1) none = some (.b (M a b)) := by
  rw [show 0 + 1 + a * 40 + b * 1 = (a * 40 + b) + 1 by omega]
  simp only [part, matC, List.getElem?_cons_succ, matR_get h.1 h.2]
theorem matR_at {M : Mx} {a b : Nat} (h : a < 40 ∧ b < 40) : part (((matR M).drop (a * 40)).drop (b * 1)) 0 none = some (.b (M a b)) := by
  simp only [part, List.getElem?_drop, Nat.mul_one, Nat.add_zero, matR_get h.1 h.2]
def upd2 (M : Mx) (a b : Nat) (x : Bool) : Mx := fun i j => if i = a ∧ j = b then x else M i j
theorem matC_set {n : Nat} {M : Mx} {a b : Nat} {x : Bool} (h : a < 40 ∧ b < 40) : (matC n M).set (0 + 1 + a * 40 + b * 1) (.b x) = matC n (upd2 M a b x) := by
  rw [show 0 + 1 + a * 40 + b * 1 = (a * 40 + b) + 1 by omega]
  simp only [matC, List.set_cons_succ]
  refine congrArg (List.cons _) ?_
  refine List.ext_getElem? fun i => ?_
  rw [List.getElem?_set, matR_len]
  by_cases hi : i < 1600
  · have e1 : (matR M)[i]? = some (.b (M (i / 40) (i % 40))) := by simp [matR, hi]
    have e2 : (matR (upd2 M a b x))[i]? = some (.b (upd2 M a b x (i / 40) (i % 40))) := by simp [matR, hi]
    rw [e1, e2]
    by_cases hab : a * 40 + b = i
    · rw [if_pos hab, if_pos (by omega)]
      unfold upd2
      rw [if_pos (by omega)]
    · rw [if_neg hab]
      unfold upd2
      rw [if_neg (by omega)]
  · have e1 : (matR M)[i]? = none := by rw [List.getElem?_eq_none]; rw [matR_len]; omega
    have e2 : (matR (upd2 M a b x))[i]? = none := by rw [List.getElem?_eq_none]; rw [matR_len]; omega
    rw [e1, e2, if_neg (by omega)]
theorem matC_flat (n : Nat) (M : Mx) : (matC n M).all flat = true := by simp [matC, matR, flat]
theorem matC_one (n : Nat) (M : Mx) : (matC n M).all one = true := by simp [matC, matR, one]
theorem matR_one (M : Mx) : (matR M).all one = true := by simp [matR, one]
theorem part_matR (M : Mx) : part (matR M) 0 (some 1600) = some (.agg (matR M)) := by
  simp [part, matR_len]
  rw [List.take_of_length_le (by rw [matR_len]; omega)]
theorem splice_mat (n : Nat) (M M' : Mx) : splice (matC n M) 1 (matR M') = matC n M' := by
  have h : ∀ (vs : List AV) (a : AV) (cs : List AV), 2 ≤ vs.length → vs.length = cs.length → splice (a :: cs) 1 vs = a :: vs := by
    intro vs a cs h2 h
    match vs, h2 with
    | u :: v :: vs, _ =>
      show List.take 1 (a :: cs) ++ (u :: v :: vs) ++ List.drop (1 + (u :: v :: vs).length) (a :: cs) = _
      rw [List.drop_eq_nil_of_le (by simp at h ⊢; omega)]
      simp
  exact h _ _ _ (by rw [matR_len]; omega) (by rw [matR_len, matR_len])
theorem zero_mat (n : Nat) : AV.i .i64 n :: List.replicate 1600 (.b false) = matC n (fun _ _ => false) := by
  unfold matC matR
  refine congrArg (List.cons _) ?_
  refine List.ext_getElem? fun i => ?_
  by_cases hi : i < 1600
  · rw [List.getElem?_replicate, if_pos hi, List.getElem?_map, List.getElem?_range hi]; rfl
  · rw [List.getElem?_eq_none (by rw [List.length_replicate]; omega), List.getElem?_eq_none (by rw [List.length_map, List.length_range]; omega)]
set_option maxRecDepth 10000 in
theorem ml : type_of% (And.intro (And.intro (And.intro @matC_n (And.intro @matC_at @matR_at)) (And.intro (And.intro @matC_drop1 @matC_len) (And.intro @matR_len @matC_one))) (And.intro (And.intro (And.intro @matR_one @matC_flat) (And.intro @part_matR @splice_mat)) (And.intro (And.intro @matC_set @retT_nrm) (And.intro @retT_ret @o_thaw)))) := (And.intro (And.intro (And.intro @matC_n (And.intro @matC_at @matR_at)) (And.intro (And.intro @matC_drop1 @matC_len) (And.intro @matR_len @matC_one))) (And.intro (And.intro (And.intro @matR_one @matC_flat) (And.intro @part_matR @splice_mat)) (And.intro (And.intro @matC_set @retT_nrm) (And.intro @retT_ret @o_thaw))))
end Go.Ab
end
section
set_option linter.unusedVariables false
set_option linter.unusedSimpArgs false
namespace Go.Ab
variable {F : Funs}
theorem pairs_a : ∀ {l : List (Int × Int)} {k : Nat} (h : k < l.length), part ((pairsC l).drop (k * 2)) 0 none = some (.i .i64 (l.getD k (0, 0)).1)
  | p :: l, 0, _ => by simp [pairsC, part]
  | p :: l, k + 1, h => by
    have := pairs_a (l := l) (k := k) (by simpa using h)
    simp only [List.getD_cons_succ]
    rw [← this]
    simp [pairsC, Nat.succ_mul]
theorem pairs_b : ∀ {l : List (Int × Int)} {k : Nat} (h : k < l.length), part (((pairsC l).drop (k * 2)).drop 1) 0 none = some (.i .i64 (l.getD k (0, 0)).2)
  | p :: l, 0, _ => by simp [pairsC, part]
  | p :: l, k + 1, h => by
    have := pairs_b (l := l) (k := k) (by simpa using h)
    simp only [List.getD_cons_succ]
    rw [← this]
    simp [pairsC, Nat.succ_mul]
def addM (n : Nat) (M : Mx) (p : Int × Int) : Mx := if inR n p then upd2 M p.1.toNat p.2.toNat true else M
def newM (n : Nat) (l : List (Int × Int)) : Mx := l.foldl (addM n) (fun _ _ => false)
theorem newM_take {n : Nat} {l : List (Int × Int)} {k : Nat} (h : k < l.length) : newM n (l.take (k + 1)) = addM n (newM n (l.take k)) (l.getD k (0, 0)) := by
  unfold newM
  rw [List.take_add_one, List.foldl_append, List.getElem?_eq_getElem h, List.getD_eq_getElem?_getD, List.getElem?_eq_getElem h]
  rfl
set_option maxHeartbeats 4000000 in
set_option maxRecDepth 100000 in
theorem new_W (n : Int) (l : List (Int × Int)) (t : Tok) (hlen : l.length < 9000000000000000000) : W F A_xref01_New.body (argEnv [.i .i64 n, .sl (pairsC l) l.length t]) g0 (retT A_xref01_New.res (matC (clamp n) (newM (clamp n) l))) := by
  have c1 : (if (40 : Int) < (if n < 0 then (0 : Int) else n) then (40 : Int) else (if n < 0 then (0 : Int) else n)) = clamp n := by unfold clamp; split <;> split <;> omega
  have hcl := clamp_le n
  simp (disch := omega) only [A_xref01_New, wp, Nat.reduceAdd, Nat.reduceMul, Nat.reduceSub, c1, List.all_append, List.all_replicate, zero_mat, ml]
  generalize clamp n = N at hcl
  refine W_loop (fun m e g => ∃ k, m = l.length - k ∧ k ≤ l.length ∧ e 1 = .sl (pairsC l) l.length t ∧ e 6 = .i .i64 k ∧ e 5 = .mp 5 0 ∧ g.hp 5 = some (.cells (matC N (newM N (l.take k))) false) ∧ 5 < g.nx) l.length ?_ ?_
  · refine ⟨0, rfl, Nat.zero_le _, ?_⟩
    simp (disch := omega) only [wp, Nat.reduceAdd, Nat.reduceMul, Nat.reduceSub]
    exact ⟨rfl, rfl, by omega⟩
  · rintro m e g ⟨k, rfl, hk, h1, h6, h5, hg, hn⟩
    by_cases hk' : k < l.length
    · have hk1 : (k : Int) < l.length := by omega
      have hpa := pairs_a hk'
      have hpb := pairs_b hk'
      have hw := succ_wrap (k := k) (by omega)
      have ht := newM_take (n := N) hk'
      generalize l.getD k (0, 0) = p at hpa hpb ht
      obtain ⟨a, b⟩ := p
      by_cases i1 : 0 ≤ a
      · by_cases i2 : 0 ≤ b
        · by_cases i3 : a < N
          · by_cases i4 : b < N
            · have hset := matC_set (n := N) (M := newM N (l.take k)) (a := a.toNat) (b := b.toNat) (x := true) (by omega)
              simp (disch := omega) only [wp, Nat.reduceAdd, Nat.reduceMul, Nat.reduceSub, h1, h5, h6, hk1, hpa, hpb, hg, i1, i2, i3, i4, hw, ml, List.length_drop, pairsC_len, hset]
              refine ⟨_, ?_, k + 1, rfl, by omega, rfl, ?_, by first | omega | (dsimp only; omega)⟩
              · omega
              · rw [ht]; simp [addM, inR, i1, i2, i3, i4]
            · simp (disch := omega) only [wp, Nat.reduceAdd, Nat.reduceMul, Nat.reduceSub, h1, h5, h6, hk1, hpa, hpb, hg, i1, i2, i3, i4, hw, ml, List.length_drop, pairsC_len]
              refine ⟨_, ?_, k + 1, rfl, by omega, rfl, ?_, by first | omega | (dsimp only; omega)⟩
              · omega
              · rw [ht]; simp [addM, inR, i4]
          · simp (disch := omega) only [wp, Nat.reduceAdd, Nat.reduceMul, Nat.reduceSub, h1, h5, h6, hk1, hpa, hpb, hg, i1, i2, i3, hw, ml, List.length_drop, pairsC_len]
            refine ⟨_, ?_, k + 1, rfl, by omega, rfl, ?_, by first | omega | (dsimp only; omega)⟩
            · omega
            · rw [ht]; simp [addM, inR, i3]
        · simp (disch := omega) only [wp, Nat.reduceAdd, Nat.reduceMul, Nat.reduceSub, h1, h5, h6, hk1, hpa, hpb, hg, i1, i2, hw, ml, List.length_drop, pairsC_len]
          refine ⟨_, ?_, k + 1, rfl, by omega, rfl, ?_, by first | omega | (dsimp only; omega)⟩
          · omega
          · rw [ht]; simp [addM, inR, i2]
      · simp (disch := omega) only [wp, Nat.reduceAdd, Nat.reduceMul, Nat.reduceSub, h1, h5, h6, hk1, hpa, hpb, hg, i1, hw, ml, List.length_drop, pairsC_len]
        refine ⟨_, ?_, k + 1, rfl, by omega, rfl, ?_, by first | omega | (dsimp only; omega)⟩
        · omega
        · rw [ht]; simp [addM, inR, i1]
    · obtain rfl : k = l.length := by omega
      have hk1 : ¬ ((l.length : Int) < l.length) := by omega
      simp (disch := omega) only [wp, Nat.reduceAdd, Nat.reduceMul, Nat.reduceSub, h1, h5, h6, hk1, hg, retT_ret, List.take_length]
      exact ⟨5, rfl, hg.trans (by rw [List.take_length])⟩
theorem sp_newT (h27 : F 27 = some A_xref01_New) {n : Nat} (hn : n ≤ 40) (t : Tok) : thawS F 27 [.i .i64 n, .sl [] 0 t] = some (matC n fun _ _ => false) := by
  have := thaw_of h27 (matC_flat _ _) (new_W (F := F) (n : Int) [] t (by simp))
  rw [show clamp (n : Int) = n by unfold clamp; omega] at this
  exact this
end Go.Ab
end
section
set_option linter.unusedVariables false
set_option linter.unusedSimpArgs false
namespace Go.Ab
variable {F : Funs}
def lessP (p q : Int × Int) : Prop := p.1 < q.1 ∨ (p.1 = q.1 ∧ p.2 < q.2)
def Rising (l : List (Int × Int)) : Prop := ∀ i, i + 1 < l.length → lessP (l.getD i (0, 0)) (l.getD (i + 1) (0, 0))
def DepOk (X : Gr) (p : Int × Int) : Prop := 0 ≤ p.1 ∧ p.1 < p.2 ∧ p.2 < X.evs.length ∧ (X.evs.getD p.1.toNat ev0).kd = 1 ∧ (X.evs.getD p.1.toNat ev0).th = (X.evs.getD p.2.toNat ev0).th
def DepsOk (X : Gr) (l : List (Int × Int)) : Prop := (∀ i, i < l.length → DepOk X (l.getD i (0, 0))) ∧ Rising l
end Go.Ab
end
section
set_option linter.unusedVariables false
set_option linter.unusedSimpArgs false
namespace Go.Ab
variable {F : Funs}
def inB (i : Nat) (p : Int × Int) : Bool := p.1 == (i : Int) || p.2 == (i : Int)
def inC (l : List (Int × Int)) (i : Nat) : Nat := (l.filter (inB i)).length
def PairOk (X : Gr) (p : Int × Int) : Prop := 0 ≤ p.1 ∧ p.1 < X.evs.length - 1 ∧ p.2 = p.1 + 1 ∧ (X.evs.getD p.1.toNat ev0).th = (X.evs.getD p.2.toNat ev0).th ∧ (X.evs.getD p.1.toNat ev0).kd = 1 ∧ (X.evs.getD p.2.toNat ev0).kd = 2 ∧ (X.evs.getD p.1.toNat ev0).lc = (X.evs.getD p.2.toNat ev0).lc ∧ (X.evs.getD p.1.toNat ev0).ex = true ∧ (X.evs.getD p.2.toNat ev0).ex = true
structure RmwOk (X : Gr) : Prop where
  pairs : ∀ j, j < X.rmw.length → PairOk X (X.rmw.getD j (0, 0))
  once : ∀ i, i < X.evs.length → inC X.rmw i ≤ 1 ∧ (X.evs.getD i ev0).ex = ((inC X.rmw i : Int) == 1)
  rise : Rising X.rmw
end Go.Ab
end
section
set_option linter.unusedVariables false
set_option linter.unusedSimpArgs false
namespace Go.Ab
variable {F : Funs}
structure GraphOk (X : Gr) : Prop where
  locs1 : 1 ≤ X.locs
  locs4 : X.locs ≤ 4
  nl : X.locs ≤ X.evs.length
  n40 : X.evs.length ≤ 40
  rfl : X.rf.length = X.evs.length
  col : (X.co.length : Int) = X.locs
  ev : ∀ i, i < X.evs.length → EvOk X.locs i (X.evs.getD (i - 1) ev0) (X.evs.getD i ev0)
  rf : ∀ i, i < X.evs.length → RfOk X i
  co : ∀ i, i < X.co.length → CoOk X i
  rmw : RmwOk X
  data : DepsOk X X.data
  ctrl : DepsOk X X.ctrl
  ctrli : DepsOk X X.ctrli
end Go.Ab
end
section
set_option linter.unusedVariables false
set_option linter.unusedSimpArgs false
namespace Go.Ab
variable {F : Funs}
def allN (n : Nat) (p : Nat → Bool) : Bool := (List.range n).all p
theorem allN_iff {n : Nat} {p : Nat → Bool} : allN n p = true ↔ ∀ i, i < n → p i = true := by
  unfold allN
  rw [List.all_eq_true]
  exact ⟨fun h i hi => h i (List.mem_range.2 hi), fun h i hi => h i (List.mem_range.1 hi)⟩
theorem allN_t {n : Nat} {p : Nat → Bool} (h : ∀ i, i < n → p i = true) : allN n p = true := allN_iff.2 h
theorem allN_f {n : Nat} {p : Nat → Bool} {k : Nat} (hk : k < n) (h : p k = false) : allN n p = false := by
  cases c : allN n p with
  | false => rfl
  | true => rw [allN_iff.1 c k hk] at h; cases h
def cmpI (a b : Int) : Int := if a < b then -1 else if b < a then 1 else 0
def ordP (p q : Int × Int) : Int := if cmpI p.1 q.1 != 0 then cmpI p.1 q.1 else cmpI p.2 q.2
def gEv (locs : Int) (e : Ev) : Bool :=
  if e.kd == 1 then (decide (0 ≤ e.lc) && decide (e.lc < locs)) && (e.md == 0 || e.md == 1)
  else if e.kd == 2 then (decide (0 ≤ e.lc) && decide (e.lc < locs)) && (e.md == 0 || e.md == 2)
  else e.kd == 3 && decide (1 ≤ e.md) && decide (e.md ≤ 4) && e.lc == 0 && e.vl == 0 && !e.ex
def gWr (X : Gr) (i loc : Int) : Bool := decide (0 ≤ i) && decide (i < X.evs.length) && (X.evs.getD i.toNat ev0).kd == 2 && (X.evs.getD i.toNat ev0).lc == loc
def mayD (a b : Ev) : Bool := a.kd == 1 && a.th == b.th
def mayR (a b : Ev) : Bool := a.kd == 1 && b.kd == 2 && a.lc == b.lc && a.ex && b.ex && a.th == b.th
section
variable (pc : Pk_cmp F)
include pc
set_option maxRecDepth 100000 in
theorem sg_nan (a : Int) : pureS F 266 [.i .i64 a] = some (.b false) := by
  refine pure_of pc.cmp_isNaN_int ?_
  have h : (a != a) = false := by simp
  simp (disch := omega) only [A_cmp_isNaN_int, wp, Nat.reduceAdd, Nat.reduceMul, Nat.reduceSub, h]
set_option maxRecDepth 100000 in
theorem sg_cmp (a b : Int) : pureS F 248 [.i .i64 a, .i .i64 b] = some (.i .i64 (cmpI a b)) := by
  refine pure_of pc.cmp_Compare_int ?_
  unfold cmpI
  by_cases c1 : a < b
  · simp (disch := omega) only [A_cmp_Compare_int, wp, Nat.reduceAdd, Nat.reduceMul, Nat.reduceSub, sg_nan pc, c1, if_true]
  · by_cases c2 : b < a
    · simp (disch := omega) only [A_cmp_Compare_int, wp, Nat.reduceAdd, Nat.reduceMul, Nat.reduceSub, sg_nan pc, c1, c2, if_true, if_false]
    · simp (disch := omega) only [A_cmp_Compare_int, wp, Nat.reduceAdd, Nat.reduceMul, Nat.reduceSub, sg_nan pc, c1, c2, if_false]
set_option maxRecDepth 100000 in
theorem sg_or (a b : Int) : pureS F 249 [.sl [.i .i64 a, .i .i64 b] 2 .non] = some (.i .i64 (if a != 0 then a else b)) := by
  refine pure_of pc.cmp_Or_int ?_
  simp (disch := omega) only [A_cmp_Or_int, wp, Nat.reduceAdd, Nat.reduceMul, Nat.reduceSub]
  have p0 : part (List.drop (0 * 1) [AV.i .i64 a, AV.i .i64 b]) 0 none = some (.i .i64 a) := rfl
  have p1 : part (List.drop (1 * 1) [AV.i .i64 a, AV.i .i64 b]) 0 none = some (.i .i64 b) := rfl
  have w0 := succ_wrap (k := 0) (by omega)
  have w1 := succ_wrap (k := 1) (by omega)
  refine W_loop (fun q e g => ∃ k : Nat, q = 2 - k ∧ k ≤ 2 ∧ e 3 = .i .i64 0 ∧ e 6 = .sl [.i .i64 a, .i .i64 b] 2 .non ∧ e 7 = .i .i64 2 ∧ e 8 = .i .i64 k ∧ (1 ≤ k → a = 0) ∧ (2 ≤ k → b = 0)) 2 ?_ ?_
  · refine ⟨0, rfl, by omega, ?_⟩
    simp (disch := omega) only [wp, Nat.reduceAdd, Nat.reduceMul, Nat.reduceSub]
    exact ⟨rfl, rfl, fun h => by omega, fun h => by omega⟩
  · rintro q e g ⟨k, rfl, hk, e3, e6, e7, e8, ha, hb'⟩
    by_cases hk' : k < 2
    · have hk1 : (k : Int) < 2 := by omega
      have hwk := succ_wrap (k := k) (by omega)
      by_cases k0 : k = 0
      · subst k0
        cases c : (a != 0)
        · simp (disch := omega) only [wp, Nat.reduceAdd, Nat.reduceMul, Nat.reduceSub, e3, e6, e7, e8, hk1, p0, c, hwk]
          exact ⟨1, by omega, 1, rfl, by omega, rfl, fun _ => by simpa using c, fun h => by omega⟩
        · simp (disch := omega) only [wp, Nat.reduceAdd, Nat.reduceMul, Nat.reduceSub, e3, e6, e7, e8, hk1, p0, c]
          rfl
      · obtain rfl : k = 1 := by omega
        have ha := ha (by omega)
        subst ha
        cases c : (b != 0)
        · simp (disch := omega) only [wp, Nat.reduceAdd, Nat.reduceMul, Nat.reduceSub, e3, e6, e7, e8, hk1, p1, c, hwk]
          exact ⟨0, by omega, 2, rfl, by omega, rfl, fun _ => trivial, fun h => by simpa using c⟩
        · simp (disch := omega) only [wp, Nat.reduceAdd, Nat.reduceMul, Nat.reduceSub, e3, e6, e7, e8, hk1, p1, c]
          rfl
    · obtain rfl : k = 2 := by omega
      have hk1 : ¬ (((2 : Nat) : Int) < 2) := by omega
      have ha := ha (by omega)
      have hb' := hb' (by omega)
      subst ha hb'
      simp (disch := omega) only [wp, Nat.reduceAdd, Nat.reduceMul, Nat.reduceSub, e3, e6, e7, e8, hk1]
      rfl
end
set_option maxRecDepth 100000 in
set_option maxHeartbeats 4000000 in
theorem sg_event (h236 : F 236 = some A_graph_event) (e : Ev) (locs : Int) : pureS F 236 [.agg (evC e), .i .i64 locs] = some (.b (gEv locs e)) := by
  refine pure_of h236 ?_
  obtain ⟨th, kd, md, lc, vl, ex⟩ := e
  have d0 : (evC ⟨th, kd, md, lc, vl, ex⟩) = [.i .i64 th, .i .i64 kd, .i .i64 md, .i .i64 lc, .i .i64 vl, .b ex] := rfl
  have fin : gEv locs ⟨th, kd, md, lc, vl, ex⟩ = if kd == 1 then (decide (0 ≤ lc) && decide (lc < locs)) && (md == 0 || md == 1) else if kd == 2 then (decide (0 ≤ lc) && decide (lc < locs)) && (md == 0 || md == 2) else kd == 3 && decide (1 ≤ md) && decide (md ≤ 4) && lc == 0 && vl == 0 && !ex := rfl
  generalize gEv locs ⟨th, kd, md, lc, vl, ex⟩ = R at fin
  simp only [A_graph_event, W_seq]
  refine W_cut (fun e g => e 1 = .i .i64 locs ∧ e 2 = .mp 0 0 ∧ g.hp 0 = some (.cells (evC ⟨th, kd, md, lc, vl, ex⟩) false)) ?_ ?_
  · simp (disch := omega) only [wp, Nat.reduceAdd, Nat.reduceMul, Nat.reduceSub, gl]
  rintro e g ⟨e1, e2, hg⟩
  simp only [W_seq]
  refine W_cut (fun e g => e 2 = .mp 0 0 ∧ e 5 = .b (decide (0 ≤ lc) && decide (lc < locs)) ∧ g.hp 0 = some (.cells (evC ⟨th, kd, md, lc, vl, ex⟩) false)) ?_ ?_
  · by_cases l1 : 0 ≤ lc
    · simp (disch := omega) only [wp, Nat.reduceAdd, Nat.reduceMul, Nat.reduceSub, gl, e1, e2, hg, d0, l1]
    · simp (disch := omega) only [wp, Nat.reduceAdd, Nat.reduceMul, Nat.reduceSub, gl, e1, e2, hg, d0, l1]
  rintro e g ⟨e2, e5, hg⟩
  generalize (decide (0 ≤ lc) && decide (lc < locs)) = at0 at e5 fin
  cases k1 : (kd == 1)
  case true =>
    rw [k1, if_pos rfl] at fin
    cases at0
    · simp (disch := omega) only [wp, Nat.reduceAdd, Nat.reduceMul, Nat.reduceSub, gl, e2, e5, hg, d0, k1, fin]
    · cases m0 : (md == 0)
      · rw [m0] at fin
        simp (disch := omega) only [wp, Nat.reduceAdd, Nat.reduceMul, Nat.reduceSub, gl, e2, e5, hg, d0, k1, m0, fin]
      · rw [m0] at fin
        simp (disch := omega) only [wp, Nat.reduceAdd, Nat.reduceMul, Nat.reduceSub, gl, e2, e5, hg, d0, k1, m0, fin]
  case false =>
    rw [k1, if_neg (by decide)] at fin
    cases k2 : (kd == 2)
    case true =>
      rw [k2, if_pos rfl] at fin
      cases at0
      · simp (disch := omega) only [wp, Nat.reduceAdd, Nat.reduceMul, Nat.reduceSub, gl, e2, e5, hg, d0, k1, k2, fin]
      · cases m0 : (md == 0)
        · rw [m0] at fin
          simp (disch := omega) only [wp, Nat.reduceAdd, Nat.reduceMul, Nat.reduceSub, gl, e2, e5, hg, d0, k1, k2, m0, fin]
        · rw [m0] at fin
          simp (disch := omega) only [wp, Nat.reduceAdd, Nat.reduceMul, Nat.reduceSub, gl, e2, e5, hg, d0, k1, k2, m0, fin]
    case false =>
      rw [k2, if_neg (by decide)] at fin
      cases k3 : (kd == 3)
      · rw [k3] at fin
        simp (disch := omega) only [wp, Nat.reduceAdd, Nat.reduceMul, Nat.reduceSub, gl, e2, e5, hg, d0, k1, k2, k3, fin]
      rw [k3] at fin
      by_cases m1 : 1 ≤ md
      case neg => simp (disch := omega) only [wp, Nat.reduceAdd, Nat.reduceMul, Nat.reduceSub, gl, e2, e5, hg, d0, k1, k2, k3, m1, fin]
      by_cases m4 : md ≤ 4
      case neg => simp (disch := omega) only [wp, Nat.reduceAdd, Nat.reduceMul, Nat.reduceSub, gl, e2, e5, hg, d0, k1, k2, k3, m1, m4, fin]
      cases a3 : (lc == 0)
      · rw [a3] at fin
        simp (disch := omega) only [wp, Nat.reduceAdd, Nat.reduceMul, Nat.reduceSub, gl, e2, e5, hg, d0, k1, k2, k3, m1, m4, a3, fin]
      cases a4 : (vl == 0)
      · rw [a3, a4] at fin
        simp (disch := omega) only [wp, Nat.reduceAdd, Nat.reduceMul, Nat.reduceSub, gl, e2, e5, hg, d0, k1, k2, k3, m1, m4, a3, a4, fin]
      rw [a3, a4] at fin
      simp (disch := omega) only [wp, Nat.reduceAdd, Nat.reduceMul, Nat.reduceSub, gl, e2, e5, hg, d0, k1, k2, k3, m1, m4, a3, a4, fin]
set_option maxRecDepth 100000 in
set_option maxHeartbeats 4000000 in
theorem sg_write (h237 : F 237 = some A_graph_write) (X : Gr) (i loc : Int) : pureS F 237 [.agg (grC X), .i .i64 i, .i .i64 loc] = some (.b (gWr X i loc)) := by
  refine pure_of h237 ?_
  unfold gWr
  by_cases c1 : 0 ≤ i
  case neg => simp (disch := omega) only [A_graph_write, wp, Nat.reduceAdd, Nat.reduceMul, Nat.reduceSub, gl, c1]
  by_cases c2 : i < X.evs.length
  case neg => simp (disch := omega) only [A_graph_write, wp, Nat.reduceAdd, Nat.reduceMul, Nat.reduceSub, gl, c1, c2]
  have ka := ev_kd_at (l := X.evs) (k := i.toNat) (by omega)
  have la := ev_lc_at (l := X.evs) (k := i.toNat) (by omega)
  have da : (List.drop (i.toNat * 6) (evsC X.evs)).length = X.evs.length * 6 - i.toNat * 6 := by rw [List.length_drop, evsC_len]
  cases c3 : ((X.evs.getD i.toNat ev0).kd == 2)
  · simp (disch := omega) only [A_graph_write, wp, Nat.reduceAdd, Nat.reduceMul, Nat.reduceSub, gl, c1, c2, ka, la, da, c3]
  · simp (disch := omega) only [A_graph_write, wp, Nat.reduceAdd, Nat.reduceMul, Nat.reduceSub, gl, c1, c2, ka, la, da, c3]
set_option maxRecDepth 100000 in
theorem sg_mayD (h191 : F 191 = some A_graph_Check_1) (a b : Ev) : pureS F 191 [.agg (evC a), .agg (evC b)] = some (.b (mayD a b)) := by
  refine pure_of h191 ?_
  unfold mayD
  cases c1 : (a.kd == 1)
  · simp (disch := omega) only [A_graph_Check_1, wp, Nat.reduceAdd, Nat.reduceMul, Nat.reduceSub, gl, c1]
  · simp (disch := omega) only [A_graph_Check_1, wp, Nat.reduceAdd, Nat.reduceMul, Nat.reduceSub, gl, c1]
set_option maxRecDepth 100000 in
set_option maxHeartbeats 4000000 in
theorem sg_mayR (h238 : F 238 = some A_graph_rmw_1) (a b : Ev) : pureS F 238 [.agg (evC a), .agg (evC b)] = some (.b (mayR a b)) := by
  refine pure_of h238 ?_
  unfold mayR
  cases c1 : (a.kd == 1)
  · simp (disch := omega) only [A_graph_rmw_1, wp, Nat.reduceAdd, Nat.reduceMul, Nat.reduceSub, gl, c1]
  cases c2 : (b.kd == 2)
  · simp (disch := omega) only [A_graph_rmw_1, wp, Nat.reduceAdd, Nat.reduceMul, Nat.reduceSub, gl, c1, c2]
  cases c3 : (a.lc == b.lc)
  · simp (disch := omega) only [A_graph_rmw_1, wp, Nat.reduceAdd, Nat.reduceMul, Nat.reduceSub, gl, c1, c2, c3]
  cases c4 : a.ex
  · simp (disch := omega) only [A_graph_rmw_1, wp, Nat.reduceAdd, Nat.reduceMul, Nat.reduceSub, gl, c1, c2, c3, c4]
  cases c5 : b.ex
  · simp (disch := omega) only [A_graph_rmw_1, wp, Nat.reduceAdd, Nat.reduceMul, Nat.reduceSub, gl, c1, c2, c3, c4, c5]
  simp (disch := omega) only [A_graph_rmw_1, wp, Nat.reduceAdd, Nat.reduceMul, Nat.reduceSub, gl, c1, c2, c3, c4, c5]
set_option maxRecDepth 100000 in
theorem sg_order (pc : Pk_cmp F) (h239 : F 239 = some A_graph_order) (p q : Int × Int) : pureS F 239 [.agg [.i .i64 p.1, .i .i64 p.2], .agg [.i .i64 q.1, .i .i64 q.2]] = some (.i .i64 (ordP p q)) := by
  refine pure_of h239 ?_
  simp (disch := omega) only [A_graph_order, wp, Nat.reduceAdd, Nat.reduceMul, Nat.reduceSub, gl, sg_cmp pc, sg_or pc]
  rfl
end Go.Ab
end
section
set_option linter.unusedVariables false
set_option linter.unusedSimpArgs false
namespace Go.Ab
variable {F : Funs}
def evIs (a b : Ev) : Bool := a.th == b.th && (a.kd == b.kd && (a.md == b.md && (a.lc == b.lc && (a.vl == b.vl && (a.ex == b.ex && true)))))
def gFirst (X : Gr) : Bool := allN X.locs.toNat fun i => evIs (X.evs.getD i ev0) ⟨0, 2, 0, i, 0, false⟩
set_option maxRecDepth 100000 in
set_option maxHeartbeats 4000000 in
theorem sg_first (h186 : F 186 = some A_graph_first) {X : Gr} (h0 : 0 ≤ X.locs) (hl : X.locs ≤ X.evs.length) (hn : X.evs.length ≤ 1000) : pureS F 186 [.agg (grC X)] = some (.b (gFirst X)) := by
  refine pure_of h186 ?_
  have finT : (∀ i, i < X.locs.toNat → evIs (X.evs.getD i ev0) ⟨0, 2, 0, i, 0, false⟩ = true) → gFirst X = true := allN_t
  have finF : ∀ k, k < X.locs.toNat → evIs (X.evs.getD k ev0) ⟨0, 2, 0, k, 0, false⟩ = false → gFirst X = false := fun k hk h => allN_f hk h
  generalize gFirst X = R at finT finF
  have r5 : ∀ x : AV, List.replicate 5 x = [x, x, x, x, x] := fun _ => rfl
  simp (disch := omega) only [A_graph_first, wp, Nat.reduceAdd, Nat.reduceMul, Nat.reduceSub, gl]
  refine W_loop (fun q e g => ∃ k : Nat, q = X.locs.toNat - k ∧ k ≤ X.locs.toNat ∧ e 1 = .mp 0 0 ∧ e 5 = .i .i64 X.locs ∧ e 6 = .i .i64 k ∧ g.hp 0 = some (.cells (grC X) false) ∧ 0 < g.nx ∧ ∀ i, i < k → evIs (X.evs.getD i ev0) ⟨0, 2, 0, i, 0, false⟩ = true) X.locs.toNat ?_ ?_
  · refine ⟨0, rfl, Nat.zero_le _, ?_⟩
    simp (disch := omega) only [wp, Nat.reduceAdd, Nat.reduceMul, Nat.reduceSub]
    exact ⟨rfl, by first | omega | (dsimp only; omega), fun i hi => by omega⟩
  · rintro q e g ⟨k, rfl, hk, e1, e5, e6, hg, hnx, hall⟩
    by_cases hk' : k < X.locs.toNat
    · have hk1 : (k : Int) < X.locs := by omega
      have hkn : (k : Int) < X.evs.length := by omega
      have hwk := succ_wrap (k := k) (by omega)
      have hev := ev_part (l := X.evs) (k := k) (by omega)
      have he : aeqa [0, 0, 0, 0, 0, 1] (.agg (evC (X.evs.getD k ev0))) (.agg [.i .i64 0, .i .i64 2, .i .i64 0, .i .i64 k, .i .i64 0, .b false]) = some (evIs (X.evs.getD k ev0) ⟨0, 2, 0, k, 0, false⟩) := rfl
      cases c : evIs (X.evs.getD k ev0) ⟨0, 2, 0, k, 0, false⟩
      · obtain rfl := finF k hk' c
        rw [c] at he
        simp (disch := omega) only [wp, Nat.reduceAdd, Nat.reduceMul, Nat.reduceSub, gl, e1, e5, e6, hg, hk1, hkn, hev, r5, he]
      · have hc := c
        rw [c] at he
        simp (disch := omega) only [wp, Nat.reduceAdd, Nat.reduceMul, Nat.reduceSub, gl, e1, e5, e6, hg, hk1, hkn, hev, r5, he, hwk]
        refine ⟨X.locs.toNat - (k + 1), by omega, k + 1, rfl, by omega, rfl, by first | omega | (dsimp only; omega), fun i hi => ?_⟩
        by_cases hik : i = k
        · subst hik; exact hc
        · exact hall i (by omega)
    · have hk1 : ¬ ((k : Int) < X.locs) := by omega
      obtain rfl : k = X.locs.toNat := by omega
      obtain rfl := finT hall
      simp (disch := omega) only [wp, Nat.reduceAdd, Nat.reduceMul, Nat.reduceSub, gl, e1, e5, e6, hg, hk1]
theorem o_slice' {call al lo' id e g} (esz : Nat) (x : Opd) (lo hi mx : Option Opd) : opE call al lo' id (.slice esz x lo hi mx) e g = vSlice esz (x.ev e) (evo e lo) (evo e hi) (evo e mx) g := rfl
theorem vSlice_lo {esz : Nat} {cs : List AV} {n : Nat} {lo : Int} {g : G} (h0 : 0 ≤ lo) (h : lo ≤ n) : vSlice esz (.sl cs n .non) (some (.i .i64 lo)) none none g = some (.sl ((cs.drop (lo.toNat * esz)).take ((n - lo.toNat) * esz)) (n - lo.toNat) .non, g) := by
  unfold vSlice
  have e : bnd n none = some (n : Int) := rfl
  have e2 : bnd 0 (some (.i .i64 lo)) = some lo := rfl
  have c : 0 ≤ lo ∧ lo ≤ (n : Int) ∧ (n : Int) ≤ n := ⟨h0, h, by omega⟩
  simp only [e, e2, if_pos c, Int.toNat_natCast]
  rfl
theorem evsC_drop : ∀ (l : List Ev) (k : Nat), (evsC l).drop (k * 6) = evsC (l.drop k)
  | l, 0 => by simp
  | [], k + 1 => by simp [evsC]
  | x :: l, k + 1 => by
    have e : (k + 1) * 6 = (evC x).length + k * 6 := by show _ = 6 + k * 6; omega
    rw [List.drop_succ_cons, ← evsC_drop l k, e]
    show List.drop _ (evC x ++ evsC l) = _
    rw [List.drop_length_add_append]
theorem evs_tail {l : List Ev} {lo : Int} (h0 : 0 ≤ lo) (h : lo ≤ l.length) : ((evsC l).drop (lo.toNat * 6)).take ((l.length - lo.toNat) * 6) = evsC (l.drop lo.toNat) := by
  rw [evsC_drop, List.take_of_length_le]
  rw [evsC_len, List.length_drop]
  exact Nat.le_refl _
def thrWas (D : List Ev) (k : Nat) : Int := if k = 0 then 1 else (D.getD (k - 1) ev0).th
def thrK (locs : Int) (D : List Ev) (k : Nat) : Bool := !decide ((D.getD k ev0).th < thrWas D k) && (!decide (4 < (D.getD k ev0).th) && gEv locs (D.getD k ev0))
def gThr (X : Gr) : Bool := allN (X.evs.length - X.locs.toNat) (thrK X.locs (X.evs.drop X.locs.toNat))
set_option maxRecDepth 100000 in
set_option maxHeartbeats 4000000 in
theorem sg_threads (h187 : F 187 = some A_graph_threads) (h236 : F 236 = some A_graph_event) {X : Gr} (h0 : 0 ≤ X.locs) (hl : X.locs ≤ X.evs.length) (hn : X.evs.length ≤ 1000) : pureS F 187 [.agg (grC X)] = some (.b (gThr X)) := by
  refine pure_of h187 ?_
  have hD : (X.evs.drop X.locs.toNat).length = X.evs.length - X.locs.toNat := List.length_drop ..
  have finT : (∀ i, i < X.evs.length - X.locs.toNat → thrK X.locs (X.evs.drop X.locs.toNat) i = true) → gThr X = true := allN_t
  have finF : ∀ k, k < X.evs.length - X.locs.toNat → thrK X.locs (X.evs.drop X.locs.toNat) k = false → gThr X = false := fun k hk h => allN_f hk h
  generalize gThr X = R at finT finF
  have hs : ∀ g : G, vSlice 6 (.sl (evsC X.evs) X.evs.length .non) (some (.i .i64 X.locs)) none none g = some (.sl (evsC (X.evs.drop X.locs.toNat)) (X.evs.drop X.locs.toNat).length .non, g) := fun g => by
    rw [vSlice_lo h0 hl, evs_tail h0 hl, hD]
  rw [← hD] at finT finF
  simp (disch := omega) only [A_graph_threads, wp, Nat.reduceAdd, Nat.reduceMul, Nat.reduceSub, gl, o_slice', evo, Option.map_some, Option.map_none, hs]
  generalize X.evs.drop X.locs.toNat = D at finT finF hD
  have s6 : ∀ b1 b2 b3 b4 b5 b6 c1 c2 c3 c4 c5 c6 : AV, splice [b1, b2, b3, b4, b5, b6] 0 [c1, c2, c3, c4, c5, c6] = [c1, c2, c3, c4, c5, c6] := fun _ _ _ _ _ _ _ _ _ _ _ _ => rfl
  have r5 : ∀ x : AV, List.replicate 5 x = [x, x, x, x, x] := fun _ => rfl
  refine W_loop (fun q e g => ∃ k : Nat, q = D.length - k ∧ k ≤ D.length ∧ e 1 = .mp 0 0 ∧ e 3 = .i .i64 (thrWas D k) ∧ e 10 = .sl (evsC D) D.length .non ∧ e 11 = .i .i64 D.length ∧ e 12 = .i .i64 k ∧ g.hp 0 = some (.cells (grC X) false) ∧ 0 < g.nx ∧ ∀ i, i < k → thrK X.locs D i = true) D.length ?_ ?_
  · refine ⟨0, rfl, Nat.zero_le _, ?_⟩
    simp (disch := omega) only [wp, Nat.reduceAdd, Nat.reduceMul, Nat.reduceSub]
    exact ⟨rfl, rfl, by first | omega | (dsimp only; omega), fun i hi => by omega⟩
  · rintro q e g ⟨k, rfl, hk, e1, e3, e10, e11, e12, hg, hnx, hall⟩
    by_cases hk' : k < D.length
    · have hk1 : (k : Int) < D.length := by omega
      have hwk := succ_wrap (k := k) (by omega)
      have hev := ev_part hk'
      have hK : thrK X.locs D k = (!decide ((D.getD k ev0).th < thrWas D k) && (!decide (4 < (D.getD k ev0).th) && gEv X.locs (D.getD k ev0))) := rfl
      have hW : thrWas D (k + 1) = (D.getD k ev0).th := rfl
      have hv := sg_event h236 (D.getD k ev0) X.locs
      have hf := finF k hk'
      rw [hK] at hf
      have hall' : thrK X.locs D k = true → ∀ i, i < k + 1 → thrK X.locs D i = true := by
        intro h i hi
        by_cases hik : i = k
        · subst hik; exact h
        · exact hall i (by omega)
      rw [hK] at hall'
      generalize thrWas D k = was at e3 hf hall'
      have t0 := ev_th (D.getD k ev0)
      generalize D.getD k ev0 = ev at hev hW hv hf hall' t0
      have n1 : 0 ≠ g.nx + 1 + 1 := by omega
      by_cases c1 : ev.th < was
      · obtain rfl := hf (by simp [c1])
        simp (disch := omega) only [wp, Nat.reduceAdd, Nat.reduceMul, Nat.reduceSub, gl, e1, e3, e10, e11, e12, hg, hk1, hev, c1]
      by_cases c2 : 4 < ev.th
      · obtain rfl := hf (by simp [c2])
        simp (disch := omega) only [wp, Nat.reduceAdd, Nat.reduceMul, Nat.reduceSub, gl, e1, e3, e10, e11, e12, hg, hk1, hev, c1, c2]
      cases c3 : gEv X.locs ev
      · rw [c3] at hv
        obtain rfl := hf (by simp [c3])
        simp (disch := omega) only [wp, Nat.reduceAdd, Nat.reduceMul, Nat.reduceSub, gl, e1, e3, e10, e11, e12, hg, hk1, hev, c1, c2, hv]
      · rw [c3] at hv
        have hall' := hall' (by simp [c1, c2, c3])
        simp (disch := omega) only [wp, Nat.reduceAdd, Nat.reduceMul, Nat.reduceSub, gl, e1, e3, e10, e11, e12, hg, hk1, hev, c1, c2, hv, hwk]
        exact ⟨D.length - (k + 1), by omega, k + 1, rfl, by omega, by rw [hW], rfl, by first | omega | (dsimp only; omega), hall'⟩
    · have hk1 : ¬ ((k : Int) < D.length) := by omega
      obtain rfl : k = D.length := by omega
      obtain rfl := finT hall
      simp (disch := omega) only [wp, Nat.reduceAdd, Nat.reduceMul, Nat.reduceSub, gl, e1, e3, e10, e11, e12, hg, hk1]
end Go.Ab
end
section
set_option linter.unusedVariables false
set_option linter.unusedSimpArgs false
namespace Go.Ab
variable {F : Funs}
def rfK (X : Gr) (i : Nat) : Bool := !((X.evs.getD i ev0).kd != 1 && X.rf.getD i 0 != -1) && !((X.evs.getD i ev0).kd == 1 && (!gWr X (X.rf.getD i 0) (X.evs.getD i ev0).lc || (X.evs.getD (X.rf.getD i 0).toNat ev0).vl != (X.evs.getD i ev0).vl))
def gRf (X : Gr) : Bool := ((X.rf.length : Int) == X.evs.length) && allN X.evs.length (rfK X)
theorem gWr_in {X : Gr} {i loc : Int} (h : gWr X i loc = true) : 0 ≤ i ∧ i < X.evs.length := by
  unfold gWr at h
  simp only [Bool.and_eq_true, decide_eq_true_eq] at h
  exact ⟨h.1.1.1, h.1.1.2⟩
set_option maxRecDepth 100000 in
set_option maxHeartbeats 4000000 in
theorem sg_rf (h188 : F 188 = some A_graph_rf) (h237 : F 237 = some A_graph_write) {X : Gr} (hn : X.evs.length ≤ 1000) : pureS F 188 [.agg (grC X)] = some (.b (gRf X)) := by
  refine pure_of h188 ?_
  have hR : gRf X = (((X.rf.length : Int) == X.evs.length) && allN X.evs.length (rfK X)) := rfl
  cases c0 : ((X.rf.length : Int) == (X.evs.length : Int))
  · rw [c0] at hR
    have c0' : ((X.rf.length : Int) != (X.evs.length : Int)) = true := by unfold bne; rw [c0]; rfl
    rw [hR]
    simp (disch := omega) only [A_graph_rf, wp, Nat.reduceAdd, Nat.reduceMul, Nat.reduceSub, gl, c0']
  rw [c0, Bool.true_and] at hR
  have c0' : ((X.rf.length : Int) != (X.evs.length : Int)) = false := by unfold bne; rw [c0]; rfl
  have hrl : X.rf.length = X.evs.length := by have := of_decide_eq_true (p := (X.rf.length : Int) = X.evs.length) (by simpa using c0); omega
  have finT : (∀ i, i < X.evs.length → rfK X i = true) → gRf X = true := fun h => by rw [hR]; exact allN_t h
  have finF : ∀ k, k < X.evs.length → rfK X k = false → gRf X = false := fun k hk h => by rw [hR]; exact allN_f hk h
  clear hR
  generalize gRf X = R at finT finF
  have r5 : ∀ x : AV, List.replicate 5 x = [x, x, x, x, x] := fun _ => rfl
  simp (disch := omega) only [A_graph_rf, wp, Nat.reduceAdd, Nat.reduceMul, Nat.reduceSub, gl, c0']
  refine W_loop (fun q e g => ∃ k : Nat, q = X.evs.length - k ∧ k ≤ X.evs.length ∧ e 1 = .mp 0 0 ∧ e 14 = .sl (evsC X.evs) X.evs.length .non ∧ e 15 = .i .i64 X.evs.length ∧ e 16 = .i .i64 k ∧ g.hp 0 = some (.cells (grC X) false) ∧ 0 < g.nx ∧ ∀ i, i < k → rfK X i = true) X.evs.length ?_ ?_
  · refine ⟨0, rfl, Nat.zero_le _, ?_⟩
    simp (disch := omega) only [wp, Nat.reduceAdd, Nat.reduceMul, Nat.reduceSub]
    exact ⟨rfl, by first | omega | (dsimp only; omega), fun i hi => by omega⟩
  · rintro q e g ⟨k, rfl, hk, e1, e14, e15, e16, hg, hnx, hall⟩
    by_cases hk' : k < X.evs.length
    · have hk1 : (k : Int) < X.evs.length := by omega
      have hkr : (k : Int) < X.rf.length := by omega
      have hwk := succ_wrap (k := k) (by omega)
      have hev := ev_part hk'
      have hrf := ints_part (l := X.rf) (k := k) (by omega)
      have hK : rfK X k = (!((X.evs.getD k ev0).kd != 1 && X.rf.getD k 0 != -1) && !((X.evs.getD k ev0).kd == 1 && (!gWr X (X.rf.getD k 0) (X.evs.getD k ev0).lc || (X.evs.getD (X.rf.getD k 0).toNat ev0).vl != (X.evs.getD k ev0).vl))) := rfl
      have hf := finF k hk'
      rw [hK] at hf
      have hall' : rfK X k = true → ∀ i, i < k + 1 → rfK X i = true := by
        intro h i hi
        by_cases hik : i = k
        · subst hik; exact h
        · exact hall i (by omega)
      rw [hK] at hall'
      have hw := sg_write h237 X (X.rf.getD k 0) (X.evs.getD k ev0).lc
      have hin := gWr_in (X := X) (i := X.rf.getD k 0) (loc := (X.evs.getD k ev0).lc)
      generalize X.rf.getD k 0 = w at hrf hf hall' hw hin
      have n1 : 0 ≠ g.nx + 2 + 1 := by omega
      cases c1 : ((X.evs.getD k ev0).kd == 1)
      · have c1' : ((X.evs.getD k ev0).kd != 1) = true := by unfold bne; rw [c1]; rfl
        rw [c1, c1'] at hf hall'
        generalize X.evs.getD k ev0 = ev at hev hw c1 c1'
        cases c2 : (w != -1)
        · rw [c2] at hall'
          have hall' := hall' rfl
          simp (disch := omega) only [wp, Nat.reduceAdd, Nat.reduceMul, Nat.reduceSub, gl, e1, e14, e15, e16, hg, hk1, hkr, hev, hrf, c1, c1', c2, hwk]
          exact ⟨X.evs.length - (k + 1), by omega, k + 1, rfl, by omega, rfl, by first | omega | (dsimp only; omega), hall'⟩
        · rw [c2] at hf
          obtain rfl := hf rfl
          simp (disch := omega) only [wp, Nat.reduceAdd, Nat.reduceMul, Nat.reduceSub, gl, e1, e14, e15, e16, hg, hk1, hkr, hev, hrf, c1, c1', c2]
      · have c1' : ((X.evs.getD k ev0).kd != 1) = false := by unfold bne; rw [c1]; rfl
        rw [c1, c1'] at hf hall'
        generalize X.evs.getD k ev0 = ev at hev hw c1 c1' hf hall' hin
        cases c2 : gWr X w ev.lc
        · rw [c2] at hf hw
          obtain rfl := hf rfl
          simp (disch := omega) only [wp, Nat.reduceAdd, Nat.reduceMul, Nat.reduceSub, gl, e1, e14, e15, e16, hg, hk1, hkr, hev, hrf, c1, c1', hw]
        · rw [c2] at hf hw hall'
          obtain ⟨w0, w1⟩ := hin c2
          have va := ev_vl_at (l := X.evs) (k := w.toNat) (by omega)
          have da : (List.drop (w.toNat * 6) (evsC X.evs)).length = X.evs.length * 6 - w.toNat * 6 := by rw [List.length_drop, evsC_len]
          cases c3 : ((X.evs.getD w.toNat ev0).vl != ev.vl)
          · rw [c3] at hall'
            have hall' := hall' rfl
            simp (disch := omega) only [wp, Nat.reduceAdd, Nat.reduceMul, Nat.reduceSub, gl, e1, e14, e15, e16, hg, hk1, hkr, hev, hrf, c1, c1', hw, w0, w1, va, da, c3, hwk]
            exact ⟨X.evs.length - (k + 1), by omega, k + 1, rfl, by omega, rfl, by first | omega | (dsimp only; omega), hall'⟩
          · rw [c3] at hf
            obtain rfl := hf rfl
            simp (disch := omega) only [wp, Nat.reduceAdd, Nat.reduceMul, Nat.reduceSub, gl, e1, e14, e15, e16, hg, hk1, hkr, hev, hrf, c1, c1', hw, w0, w1, va, da, c3]
    · have hk1 : ¬ ((k : Int) < X.evs.length) := by omega
      obtain rfl : k = X.evs.length := by omega
      obtain rfl := finT hall
      simp (disch := omega) only [wp, Nat.reduceAdd, Nat.reduceMul, Nat.reduceSub, gl, e1, e14, e15, e16, hg, hk1]
end Go.Ab
end
section
set_option linter.unusedVariables false
set_option linter.unusedSimpArgs false
namespace Go.Ab
variable {F : Funs}
def lsK (X : Gr) (may : Ev → Ev → Bool) (l : List (Int × Int)) (i : Nat) : Bool :=
  !decide ((l.getD i (0, 0)).1 < 0) && (!decide ((X.evs.length : Int) ≤ (l.getD i (0, 0)).2) && (!decide ((l.getD i (0, 0)).2 ≤ (l.getD i (0, 0)).1) && (!(decide (0 < i) && decide (0 ≤ ordP (l.getD (i - 1) (0, 0)) (l.getD i (0, 0)))) && may (X.evs.getD (l.getD i (0, 0)).1.toNat ev0) (X.evs.getD (l.getD i (0, 0)).2.toNat ev0))))
def gList (X : Gr) (may : Ev → Ev → Bool) (l : List (Int × Int)) : Bool := allN l.length (lsK X may l)
theorem frz_p2 (hp) (x y : Int) : frz hp depth (.agg [.i .i64 x, .i .i64 y]) = some (.agg [.i .i64 x, .i .i64 y]) := by
  show frz hp (8 + 1) _ = _
  simp only [frz, frzL, Option.map_some]
theorem vis_p2 (hp) (x y : Int) : vis hp depth (.agg [.i .i64 x, .i .i64 y]) = [] := by
  show vis hp (8 + 1) _ = _
  simp only [vis, List.flatMap_cons, List.flatMap_nil, List.append_nil]
set_option maxRecDepth 100000 in
set_option maxHeartbeats 8000000 in
theorem sg_list (h192 : F 192 = some A_graph_list) (h239 : F 239 = some A_graph_order) (pc : Pk_cmp F) {X : Gr} (hn : X.evs.length ≤ 1000) {fid : Nat} {may : Ev → Ev → Bool} (hmay : ∀ a b, pureS F fid [.agg (evC a), .agg (evC b)] = some (.b (may a b))) (l : List (Int × Int)) (hl : l.length ≤ 1000) : pureS F 192 [.agg (grC X), .sl (pairsC l) l.length .non, .fn fid [] []] = some (.b (gList X may l)) := by
  refine pure_of h192 ?_
  have finT : (∀ i, i < l.length → lsK X may l i = true) → gList X may l = true := allN_t
  have finF : ∀ k, k < l.length → lsK X may l k = false → gList X may l = false := fun k hk h => allN_f hk h
  generalize gList X may l = R at finT finF
  simp (disch := omega) only [A_graph_list, wp, Nat.reduceAdd, Nat.reduceMul, Nat.reduceSub, gl]
  refine W_loop (fun q e g => ∃ k : Nat, q = l.length - k ∧ k ≤ l.length ∧ e 1 = .sl (pairsC l) l.length .non ∧ e 2 = .fn fid [] [] ∧ e 3 = .mp 0 0 ∧ e 9 = .sl (pairsC l) l.length .non ∧ e 10 = .i .i64 l.length ∧ e 11 = .i .i64 k ∧ g.hp 0 = some (.cells (grC X) false) ∧ 0 < g.nx ∧ ∀ i, i < k → lsK X may l i = true) l.length ?_ ?_
  · refine ⟨0, rfl, Nat.zero_le _, ?_⟩
    simp (disch := omega) only [wp, Nat.reduceAdd, Nat.reduceMul, Nat.reduceSub]
    exact ⟨rfl, by first | omega | (dsimp only; omega), fun i hi => by omega⟩
  · rintro q e g ⟨k, rfl, hk, e1, e2, e3, e9, e10, e11, hg, hnx, hall⟩
    by_cases hk' : k < l.length
    · have hk1 : (k : Int) < l.length := by omega
      have hwk := succ_wrap (k := k) (by omega)
      have hpp := pairs_part hk'
      have hK : lsK X may l k = (!decide ((l.getD k (0, 0)).1 < 0) && (!decide ((X.evs.length : Int) ≤ (l.getD k (0, 0)).2) && (!decide ((l.getD k (0, 0)).2 ≤ (l.getD k (0, 0)).1) && (!(decide (0 < k) && decide (0 ≤ ordP (l.getD (k - 1) (0, 0)) (l.getD k (0, 0)))) && may (X.evs.getD (l.getD k (0, 0)).1.toNat ev0) (X.evs.getD (l.getD k (0, 0)).2.toNat ev0))))) := rfl
      have hf := finF k hk'
      rw [hK] at hf
      have hall' : lsK X may l k = true → ∀ i, i < k + 1 → lsK X may l i = true := by
        intro h i hi
        by_cases hik : i = k
        · subst hik; exact h
        · exact hall i (by omega)
      rw [hK] at hall'
      have ho := sg_order pc h239 (l.getD (k - 1) (0, 0)) (l.getD k (0, 0))
      have hpq := pairs_part (l := l) (k := k - 1) (by omega)
      have dq : (List.drop ((k - 1) * 2) (pairsC l)).length = l.length * 2 - (k - 1) * 2 := by rw [List.length_drop, pairsC_len]
      generalize l.getD k (0, 0) = p at hpp hf hall' ho
      generalize l.getD (k - 1) (0, 0) = pq at hf hall' ho hpq
      obtain ⟨a, b⟩ := p
      have s2 : ∀ b1 b2 c1 c2 : AV, splice [b1, b2] 0 [c1, c2] = [c1, c2] := fun _ _ _ _ => rfl
      have n1 : 0 ≠ g.nx + 2 + 1 := by omega
      simp only at hpp hf hall' ho
      by_cases c1 : a < 0
      · obtain rfl := hf (by simp [c1])
        simp (disch := omega) only [wp, Nat.reduceAdd, Nat.reduceMul, Nat.reduceSub, gl, s2, frz_p2, vis_p2, e1, e2, e3, e9, e10, e11, hg, hk1, hpp, c1]
      by_cases c2 : (X.evs.length : Int) ≤ b
      · obtain rfl := hf (by simp [c2])
        simp (disch := omega) only [wp, Nat.reduceAdd, Nat.reduceMul, Nat.reduceSub, gl, s2, frz_p2, vis_p2, e1, e2, e3, e9, e10, e11, hg, hk1, hpp, c1, c2]
      by_cases c3 : b ≤ a
      · obtain rfl := hf (by simp [c3])
        simp (disch := omega) only [wp, Nat.reduceAdd, Nat.reduceMul, Nat.reduceSub, gl, s2, frz_p2, vis_p2, e1, e2, e3, e9, e10, e11, hg, hk1, hpp, c1, c2, c3]
      have hm := hmay (X.evs.getD a.toNat ev0) (X.evs.getD b.toNat ev0)
      have pa := ev_part (l := X.evs) (k := a.toNat) (by omega)
      have pb := ev_part (l := X.evs) (k := b.toNat) (by omega)
      generalize X.evs.getD a.toNat ev0 = ea at hm pa hf hall'
      generalize X.evs.getD b.toNat ev0 = eb at hm pb hf hall'
      have a0 : 0 ≤ a := by omega
      have an : a < X.evs.length := by omega
      have b0 : 0 ≤ b := by omega
      have bn : b < X.evs.length := by omega
      by_cases c4 : 0 < k
      · have c4' : (0 : Int) < k := by omega
        have hw1 : IntKind.i64.wrap ((k : Int) - 1) = ((k - 1 : Nat) : Int) := by rw [i64_wrap (by omega) (by omega)]; omega
        have km : ((k - 1 : Nat) : Int) < l.length := by omega
        by_cases c5 : 0 ≤ ordP pq (a, b)
        · obtain rfl := hf (by simp [c4, c5])
          simp (disch := omega) only [wp, Nat.reduceAdd, Nat.reduceMul, Nat.reduceSub, gl, s2, frz_p2, vis_p2, e1, e2, e3, e9, e10, e11, hg, hk1, hpp, c1, c2, c3, c4', hw1, km, hpq, dq, ho, c5]
        · cases c6 : may ea eb
          · rw [c6] at hm
            obtain rfl := hf (by simp [c6])
            simp (disch := omega) only [wp, Nat.reduceAdd, Nat.reduceMul, Nat.reduceSub, gl, s2, frz_p2, vis_p2, e1, e2, e3, e9, e10, e11, hg, hk1, hpp, c1, c2, c3, c4', hw1, km, hpq, dq, ho, c5, pa, pb, a0, an, b0, bn, hm]
          · rw [c6] at hm
            have hall' := hall' (by simp [c1, c2, c3, c5, c6])
            simp (disch := omega) only [wp, Nat.reduceAdd, Nat.reduceMul, Nat.reduceSub, gl, s2, frz_p2, vis_p2, e1, e2, e3, e9, e10, e11, hg, hk1, hpp, c1, c2, c3, c4', hw1, km, hpq, dq, ho, c5, pa, pb, a0, an, b0, bn, hm, hwk]
            exact ⟨l.length - (k + 1), by omega, k + 1, rfl, by omega, rfl, by first | omega | (dsimp only; omega), hall'⟩
      · have c4' : ¬ (0 : Int) < k := by omega
        cases c6 : may ea eb
        · rw [c6] at hm
          obtain rfl := hf (by simp [c6])
          simp (disch := omega) only [wp, Nat.reduceAdd, Nat.reduceMul, Nat.reduceSub, gl, s2, frz_p2, vis_p2, e1, e2, e3, e9, e10, e11, hg, hk1, hpp, c1, c2, c3, c4', pa, pb, a0, an, b0, bn, hm]
        · rw [c6] at hm
          have hall' := hall' (by simp [c1, c2, c3, c4, c6])
          simp (disch := omega) only [wp, Nat.reduceAdd, Nat.reduceMul, Nat.reduceSub, gl, s2, frz_p2, vis_p2, e1, e2, e3, e9, e10, e11, hg, hk1, hpp, c1, c2, c3, c4', pa, pb, a0, an, b0, bn, hm, hwk]
          exact ⟨l.length - (k + 1), by omega, k + 1, rfl, by omega, rfl, by first | omega | (dsimp only; omega), hall'⟩
    · have hk1 : ¬ ((k : Int) < l.length) := by omega
      obtain rfl : k = l.length := by omega
      obtain rfl := finT hall
      simp (disch := omega) only [wp, Nat.reduceAdd, Nat.reduceMul, Nat.reduceSub, gl, e1, e2, e3, e9, e10, e11, hg, hk1]
end Go.Ab
end
