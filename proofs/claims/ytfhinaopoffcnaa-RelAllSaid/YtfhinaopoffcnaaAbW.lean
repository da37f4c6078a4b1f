/- Runs of the abstract machine, with what is asked at their end. -/
import Derived.Test.YtfhinaopoffcnaaAbSimp
import Derived.Test.YtfhinaopoffcnaaAbCall
set_option linter.unusedVariables false
namespace Go.Ab

section
variable (F : Funs)
def W (c : ACode) (e : Env) (g : G) (Q : Out → Env → G → Prop) : Prop := ∃ o e' g', codeS F c e g = some (o, e', g') ∧ Q o e' g'
def WR (d : Bool) (b j : Nat) (ops : List AOper) (e : Env) (g : G) (K : Env → G → Prop) : Prop := ∃ e' g', regE (callS F) d b j ops e g = some (e', g') ∧ K e' g'
def thenQ (b : ACode) (Q : Out → Env → G → Prop) : Out → Env → G → Prop
  | .nrm, e, g => W F b e g Q
  | o, e, g => Q o e g
def selW (t f : ACode) (e : Env) (g : G) (Q : Out → Env → G → Prop) : AV → Prop
  | .b true => W F t e g Q
  | .b false => W F f e g Q
  | _ => False
def blkQ (id : Nat) (Q : Out → Env → G → Prop) : Out → Env → G → Prop
  | .ext n, e, g => if n = id then Q .nrm e g else Q (.ext n) e g
  | o, e, g => Q o e g
def nrmQ (Q : Out → Env → G → Prop) (e : Env) (g : G) : Prop := Q .nrm e g
def bindO (d : Bool) (b j : Nat) (dst : Option Nat) (os : List AOper) (e : Env) (K : Env → G → Prop) : Option (AV × G) → Prop
  | some (v, g) => WR F d b j os (put e dst v) g K
  | none => False
def selO (d : Bool) (b j : Nat) (dst : Option Nat) (os : List AOper) (e : Env) (op : AOp) (pre : List Nat) (g : G) (K : Env → G → Prop) (w : Bool) : Prop :=
  if w then bindO F d b (j + 1) dst os e K (opE (callS F) (allow d b pre) b (b + j) op e g) else WR F d b (j + 1) os (put e dst .undef) g K
end

section
variable {F : Funs}
theorem W_skip {e g Q} : W F .skip e g Q = Q .nrm e g := by
  unfold W; rw [codeS_skip]; apply propext
  exact ⟨fun ⟨o, e', g', h, q⟩ => by cases h; exact q, fun q => ⟨_, _, _, rfl, q⟩⟩
theorem W_ext {id e g Q} : W F (.ext id) e g Q = Q (.ext id) e g := by
  unfold W; rw [codeS_ext]; apply propext
  exact ⟨fun ⟨o, e', g', h, q⟩ => by cases h; exact q, fun q => ⟨_, _, _, rfl, q⟩⟩
theorem W_ret {e g Q} : W F .ret e g Q = Q .ret e g := by
  unfold W; rw [codeS_ret]; apply propext
  exact ⟨fun ⟨o, e', g', h, q⟩ => by cases h; exact q, fun q => ⟨_, _, _, rfl, q⟩⟩
theorem W_seq {a b e g Q} : W F (.seq a b) e g Q = W F a e g (thenQ F b Q) := by
  unfold W; rw [cS_seq]; apply propext
  constructor
  · intro ⟨o, e', g', h, q⟩
    cases hc : codeS F a e g with
    | none => rw [hc] at h; cases h
    | some r =>
      obtain ⟨o1, e1, g1⟩ := r
      rw [hc] at h
      refine ⟨o1, e1, g1, rfl, ?_⟩
      cases o1 with
      | nrm => exact ⟨o, e', g', h, q⟩
      | ext n => cases h; exact q
      | ret => cases h; exact q
  · intro ⟨o, e', g', h, q⟩
    rw [h]
    cases o with
    | nrm => exact q
    | ext n => exact ⟨_, _, _, rfl, q⟩
    | ret => exact ⟨_, _, _, rfl, q⟩
theorem thenQ_nrm {b Q e g} : thenQ F b Q .nrm e g = W F b e g Q := rfl
theorem thenQ_ext {b Q n e g} : thenQ F b Q (.ext n) e g = Q (.ext n) e g := rfl
theorem thenQ_ret {b Q e g} : thenQ F b Q .ret e g = Q .ret e g := rfl
theorem W_cond {c t f e g Q} : W F (.cond c t f) e g Q = selW F t f e g Q (c.ev e) := by
  unfold W; rw [cS_cond]; apply propext
  generalize c.ev e = v
  cases v <;> simp only [selS, selW] <;> try (constructor <;> (intro h; first | exact h.elim | (obtain ⟨_, _, _, h, _⟩ := h; cases h)))
  rename_i x
  cases x <;> simp [W]
theorem selW_true {t f e g Q} : selW F t f e g Q (.b true) = W F t e g Q := rfl
theorem selW_false {t f e g Q} : selW F t f e g Q (.b false) = W F f e g Q := rfl
theorem selW_if {t f e g Q} (c : Bool) : selW F t f e g Q (.b c) = ((c = true → W F t e g Q) ∧ (c = false → W F f e g Q)) := by cases c <;> simp [selW]
theorem W_blk {id c e g Q} : W F (.blk id c) e g Q = W F c e g (blkQ id Q) := by
  unfold W; rw [cS_blk]; apply propext
  constructor
  · intro ⟨o, e', g', h, q⟩
    cases hc : codeS F c e g with
    | none => rw [hc] at h; cases h
    | some r =>
      obtain ⟨o1, e1, g1⟩ := r
      rw [hc] at h
      refine ⟨o1, e1, g1, rfl, ?_⟩
      cases o1 with
      | nrm => cases h; exact q
      | ext n =>
        cases h
        show if n = id then _ else _
        split
        · rename_i hn; rw [if_pos hn] at q; exact q
        · rename_i hn; rw [if_neg hn] at q; exact q
      | ret => cases h; exact q
  · intro ⟨o, e', g', h, q⟩
    rw [h]
    cases o with
    | nrm => exact ⟨_, _, _, rfl, q⟩
    | ext n =>
      refine ⟨_, _, _, rfl, ?_⟩
      have q : if n = id then Q .nrm e' g' else Q (.ext n) e' g' := q
      split
      · rename_i hn; rw [if_pos hn] at q; exact q
      · rename_i hn; rw [if_neg hn] at q; exact q
    | ret => exact ⟨_, _, _, rfl, q⟩
theorem blkQ_nrm {id Q e g} : blkQ id Q .nrm e g = Q .nrm e g := rfl
theorem blkQ_ret {id Q e g} : blkQ id Q .ret e g = Q .ret e g := rfl
theorem blkQ_same {id Q e g} : blkQ id Q (.ext id) e g = Q .nrm e g := if_pos rfl
theorem blkQ_ne {id n Q e g} (h : n ≠ id) : blkQ id Q (.ext n) e g = Q (.ext n) e g := if_neg h
theorem W_reg {d ops e g Q} : W F (.reg d ops) e g Q = WR F d g.nx 0 ops e ⟨g.hp, g.nx + ops.length⟩ (nrmQ Q) := by
  unfold W WR; rw [cS_reg]; apply propext
  constructor
  · intro ⟨o, e', g', h, q⟩
    cases hc : regE (callS F) d g.nx 0 ops e ⟨g.hp, g.nx + ops.length⟩ with
    | none => rw [hc] at h; cases h
    | some r =>
      rw [hc] at h
      cases h
      exact ⟨_, _, rfl, q⟩
  · intro ⟨e', g', h, q⟩
    rw [h]
    exact ⟨.nrm, e', g', rfl, q⟩
theorem nrmQ_is {Q e g} : nrmQ Q e g = Q .nrm e g := rfl
theorem WR_nil {d b j e g K} : WR F d b j [] e g K = K e g := by
  unfold WR; apply propext
  simp only [regE_nil]
  exact ⟨fun ⟨e', g', h, q⟩ => by cases h; exact q, fun q => ⟨_, _, rfl, q⟩⟩
theorem WR_cons {d b j dst op grd pre os e g K} : WR F d b j ({ dst, op, grd, pre } :: os) e g K = selO F d b j dst os e op pre g K (wanted e grd) := by
  unfold WR; rw [regE_cons]
  generalize wanted e grd = w
  cases w
  · rfl
  · rw [selR_true]
    show _ = bindO _ _ _ _ _ _ _ _ _
    cases opE (callS F) (allow d b pre) b (b + j) op e g with
    | none =>
      apply propext
      constructor
      · intro ⟨_, _, h, _⟩; cases h
      · intro h; exact False.elim h
    | some r => rfl
theorem selO_true {d b j dst os e op pre g K} : selO F d b j dst os e op pre g K true = bindO F d b (j + 1) dst os e K (opE (callS F) (allow d b pre) b (b + j) op e g) := rfl
theorem selO_false {d b j dst os e op pre g K} : selO F d b j dst os e op pre g K false = WR F d b (j + 1) os (put e dst .undef) g K := rfl
theorem selO_if {d b j dst os e op pre g K} (w : Bool) : selO F d b j dst os e op pre g K w = ((w = true → bindO F d b (j + 1) dst os e K (opE (callS F) (allow d b pre) b (b + j) op e g)) ∧ (w = false → WR F d b (j + 1) os (put e dst .undef) g K)) := by cases w <;> simp [selO]
theorem bindO_some {d b j dst os e K v g} : bindO F d b j dst os e K (some (v, g)) = WR F d b j os (put e dst v) g K := rfl

theorem W_mono {c e g} {Q Q' : Out → Env → G → Prop} (h : W F c e g Q) (hq : ∀ o e g, Q o e g → Q' o e g) : W F c e g Q' := by
  obtain ⟨o, e', g', h1, h2⟩ := h; exact ⟨o, e', g', h1, hq _ _ _ h2⟩

def loopQ (I : Nat → Env → G → Prop) (m : Nat) (Q : Out → Env → G → Prop) : Out → Env → G → Prop
  | .nrm, e, g => ∃ m', m' < m ∧ I m' e g
  | o, e, g => Q o e g
theorem loopQ_nrm {I m Q e g} : loopQ I m Q .nrm e g = ∃ m', m' < m ∧ I m' e g := rfl
theorem loopQ_ext {I m Q n e g} : loopQ I m Q (.ext n) e g = Q (.ext n) e g := rfl
theorem loopQ_ret {I m Q e g} : loopQ I m Q .ret e g = Q .ret e g := rfl
theorem W_loop {c e g Q} (I : Nat → Env → G → Prop) (n : Nat) (h0 : I n e g) (h : ∀ m e g, I m e g → W F c e g (loopQ I m Q)) : W F (.loop c) e g Q := by
  have key : ∀ m e g, I m e g → W F (.loop c) e g Q := by
    intro m
    induction m using Nat.strongRecOn with
    | _ m ih =>
      intro e g hI
      obtain ⟨o, e1, g1, h1, h2⟩ := h m e g hI
      unfold W
      rw [cS_loop, h1]
      cases o with
      | nrm =>
        obtain ⟨m', hm, hI'⟩ := h2
        exact ih m' hm e1 g1 hI'
      | ext n => exact ⟨_, _, _, rfl, h2⟩
      | ret => exact ⟨_, _, _, rfl, h2⟩
  exact key n e g h0

/-! ### calls on frozen arguments -/
noncomputable def pureS (F : Funs) (f : Nat) (as : List AV) : Option AV := match callS F f as g0 with
  | some (v, g) => frz g.hp depth v
  | none => none
noncomputable def vPure (F : Funs) (al : Nat → Bool) (f : AV) (args : List AV) (g : G) : Option (AV × G) := vCall (callS F) al 0 .pure f args g
theorem o_pure {al lo id e g} (f : Opd) (as : List Opd) : opE (callS F) al lo id (.call .pure f as) e g = vPure F al (f.ev e) (as.map (·.ev e)) g := rfl
theorem vPure_ok {al : Nat → Bool} {fid : Nat} {fst caps args bs : List AV} {g : G} {v : AV} (h1 : frzL (rd g al) depth (fst ++ args ++ caps) = some bs) (h2 : pureS F fid bs = some v) (h3 : (flat v || ((fst ++ args ++ caps).flatMap (vis (rd g al) depth)).isEmpty) = true) :
    vPure F al (.fn fid fst caps) args g = some (v, g) := by
  unfold pureS at h2
  split at h2
  · rename_i v0 g' hc
    have hc' : callS F fid bs ⟨fun _ => none, 0⟩ = some (v0, g') := hc
    unfold vPure vCall
    simp only [h1, hc', h2, h3, if_true]
  · cases h2
def retQ (rs : List ARes) (v : AV) : Out → Env → G → Prop
  | .ext _, _, _ => False
  | _, e, g => (match resE rs e g with | some v0 => frz g.hp depth v0 | none => none) = some v
theorem retQ_nrm {rs v e g} : retQ rs v .nrm e g = ((match resE rs e g with | some v0 => frz g.hp depth v0 | none => none) = some v) := rfl
theorem retQ_ret {rs v e g} : retQ rs v .ret e g = ((match resE rs e g with | some v0 => frz g.hp depth v0 | none => none) = some v) := rfl
theorem pure_of {f : Nat} {fn : AFun} {as : List AV} {v : AV} (hF : F f = some fn) (h : W F fn.body (argEnv as) g0 (retQ fn.res v)) : pureS F f as = some v := by
  obtain ⟨o, e, g, h1, h2⟩ := h
  unfold pureS
  rw [callS_eq, hF]
  simp only [h1]
  cases o with
  | ext n => exact h2.elim
  | nrm =>
    have h2 : (match resE fn.res e g with | some v0 => frz g.hp depth v0 | none => none) = some v := h2
    cases hr : resE fn.res e g with
    | none => rw [hr] at h2; cases h2
    | some v0 => rw [hr] at h2; simp only [hr, Option.map_some]; exact h2
  | ret =>
    have h2 : (match resE fn.res e g with | some v0 => frz g.hp depth v0 | none => none) = some v := h2
    cases hr : resE fn.res e g with
    | none => rw [hr] at h2; cases h2
    | some v0 => rw [hr] at h2; simp only [hr, Option.map_some]; exact h2
end
theorem argEnv_0 (a l) : argEnv (a :: l) 0 = a := rfl
theorem argEnv_1 (a b l) : argEnv (a :: b :: l) 1 = b := rfl
theorem argEnv_2 (a b c l) : argEnv (a :: b :: c :: l) 2 = c := rfl
theorem argEnv_3 (a b c d l) : argEnv (a :: b :: c :: d :: l) 3 = d := rfl
theorem argEnv_4 (a b c d e l) : argEnv (a :: b :: c :: d :: e :: l) 4 = e := rfl
theorem argEnv_5 (a b c d e f l) : argEnv (a :: b :: c :: d :: e :: f :: l) 5 = f := rfl
theorem res_1 (n e g) : resE [.t n] e g = some (e n) := rfl
theorem res_2 (n m e g) : resE [.t n, .t m] e g = some (.tup [e n, e m]) := rfl

/-! ### what is laid out -/
theorem frz_i (hp) (d : Nat) (k n) : frz hp (d + 1) (.i k n) = some (.i k n) := by simp only [frz]
theorem frz_flat {hp} {d : Nat} {v : AV} (h : flat v = true) : frz hp (d + 1) v = some v := by cases v <;> first | (cases h; done) | simp only [frz]
theorem frzL_flat {hp} {d : Nat} : ∀ {cs : List AV}, cs.all flat = true → frzL hp (d + 1) cs = some cs
  | [], _ => by simp only [frzL]
  | c :: cs, h => by
    simp only [List.all_cons, Bool.and_eq_true] at h
    simp only [frzL, frz_flat h.1, frzL_flat h.2]
theorem frzL_nil (hp d) : frzL hp d [] = some [] := by simp only [frzL]
def consO (c : Option AV) (cs : Option (List AV)) : Option (List AV) := match c, cs with
  | some c, some cs => some (c :: cs)
  | _, _ => none
theorem consO_ok (c cs) : consO (some c) (some cs) = some (c :: cs) := rfl
theorem frzL_cons (hp d c cs) : frzL hp d (c :: cs) = consO (frz hp d c) (frzL hp d cs) := by
  simp only [frzL]
  cases frz hp d c <;> cases frzL hp d cs <;> rfl
theorem frz_d_i (hp k n) : frz hp depth (.i k n) = some (.i k n) := by show frz hp (8 + 1) _ = _; simp only [frz]
theorem frz_d_b (hp x) : frz hp depth (.b x) = some (.b x) := by show frz hp (8 + 1) _ = _; simp only [frz]
theorem frz_d_s (hp x) : frz hp depth (.s x) = some (.s x) := by show frz hp (8 + 1) _ = _; simp only [frz]
theorem frz_d_nilp (hp) : frz hp depth .nilp = some .nilp := by show frz hp (8 + 1) _ = _; simp only [frz]
theorem frz_d_ptr (hp cs) : frz hp depth (.ptr cs) = some (.ptr cs) := by show frz hp (8 + 1) _ = _; simp only [frz]
theorem frz_d_sl (hp cs n t) : frz hp depth (.sl cs n t) = some (.sl cs n .non) := by show frz hp (8 + 1) _ = _; simp only [frz]
theorem frz_d_mp {hp : Nat → Option Blk} {id off cs ro ds} (h : hp id = some (.cells cs ro)) (hf : frzL hp 8 (cs.drop off) = some ds) : frz hp depth (.mp id off) = some (.ptr ds) := by
  show frz hp (8 + 1) _ = _
  simp only [frz, h, hf, Option.map_some]
theorem frz_d_fn0 (hp f) : frz hp depth (.fn f [] []) = some (.fn f [] []) := by show frz hp (8 + 1) _ = _; simp only [frz, frzL]
theorem rd_is {g : G} {al : Nat → Bool} {id : Nat} (h : al id = true) : rd g al id = g.hp id := if_pos h

theorem frz_mp_flat {hp : Nat → Option Blk} {id off : Nat} {cs : List AV} {ro : Bool} (h : hp id = some (.cells cs ro)) (hf : cs.all flat = true) : frz hp depth (.mp id off) = some (.ptr (cs.drop off)) := by
  refine frz_d_mp h (frzL_flat ?_)
  rw [List.all_eq_true] at hf ⊢
  exact fun x hx => hf x (List.mem_of_mem_drop hx)
theorem frz_ms_flat {hp : Nat → Option Blk} {id off n : Nat} {cs : List AV} {ro : Bool} (h : hp id = some (.cells cs ro)) (hf : cs.all flat = true) : frz hp depth (.ms id off n) = some (.sl (cs.drop off) n .non) := by
  have : frzL hp 8 (cs.drop off) = some (cs.drop off) := by
    refine frzL_flat ?_
    rw [List.all_eq_true] at hf ⊢
    exact fun x hx => hf x (List.mem_of_mem_drop hx)
  show frz hp (8 + 1) _ = _
  simp only [frz, h, this, Option.map_some]
/-- As a rule for simp: the block, and whether it is plain, stand as data. -/
noncomputable def frzB (hp : Nat → Option Blk) (off : Nat) (cs : List AV) (x : Bool) : Option (List AV) := if x then some (cs.drop off) else frzL hp 8 (cs.drop off)
noncomputable def frzP (hp : Nat → Option Blk) (off : Nat) (f : List AV → AV) : Option Blk → Option AV
  | some (.cells cs _) => (frzB hp off cs (cs.all flat)).map f
  | _ => none
theorem frzB_eq (hp : Nat → Option Blk) (off : Nat) (cs : List AV) : frzB hp off cs (cs.all flat) = frzL hp 8 (cs.drop off) := by
  unfold frzB
  split
  · rename_i hf
    refine (frzL_flat ?_).symm
    rw [List.all_eq_true] at hf ⊢
    exact fun x hx => hf x (List.mem_of_mem_drop hx)
  · rfl
theorem frz_P (hp : Nat → Option Blk) (id off : Nat) : frz hp depth (.mp id off) = frzP hp off .ptr (hp id) := by
  show frz hp (8 + 1) _ = _
  simp only [frz]
  unfold frzP
  simp only [frzB_eq]
  cases hp id with
  | none => rfl
  | some b => cases b <;> rfl
theorem frz_Q (hp : Nat → Option Blk) (id off n : Nat) : frz hp depth (.ms id off n) = frzP hp off (fun cs => .sl cs n .non) (hp id) := by
  show frz hp (8 + 1) _ = _
  simp only [frz]
  unfold frzP
  simp only [frzB_eq]
  cases hp id with
  | none => rfl
  | some b => cases b <;> rfl
theorem frzP_cells (hp off f cs ro) : frzP hp off f (some (.cells cs ro)) = (frzB hp off cs (cs.all flat)).map f := rfl
theorem frzB_true (hp off cs) : frzB hp off cs true = some (cs.drop off) := rfl
theorem map_some' (f : List AV → AV) (cs : List AV) : (some cs).map f = some (f cs) := rfl

noncomputable def purD (g : G) (vs : List Nat) : Option AV → Option (AV × G)
  | some v => if flat v || vs.isEmpty then some (v, g) else none
  | none => none
def purE (g : G) (v : AV) (x : Bool) : Option (AV × G) := if x then some (v, g) else none
theorem purD_some (g vs v) : purD g vs (some v) = purE g v (flat v || vs.isEmpty) := rfl
theorem purE_true (g v) : purE g v true = some (v, g) := rfl
noncomputable def purS (F : Funs) (f : Nat) (g : G) (vs : List Nat) : Option (List AV) → Option (AV × G)
  | some bs => purD g vs (pureS F f bs)
  | none => none
theorem purS_some (F f g vs bs) : purS F f g vs (some bs) = purD g vs (pureS F f bs) := rfl
theorem vPure_S (F : Funs) (al : Nat → Bool) (fid : Nat) (fst args caps : List AV) (g : G) :
    vPure F al (.fn fid fst caps) args g = purS F fid g ((fst ++ args ++ caps).flatMap (vis (rd g al) depth)) (frzL (rd g al) depth (fst ++ args ++ caps)) := by
  unfold vPure vCall
  simp only
  cases frzL (rd g al) depth (fst ++ args ++ caps) with
  | none => rfl
  | some bs =>
    rw [purS_some]
    unfold pureS g0
    simp only
    cases callS F fid bs ⟨fun _ => none, 0⟩ with
    | none => rfl
    | some r =>
      obtain ⟨v, g'⟩ := r
      simp only
      cases frz g'.hp depth v with
      | none => rfl
      | some v' => rfl
theorem flat_i (k n) : flat (.i k n) = true := rfl
theorem flat_b (x) : flat (.b x) = true := rfl
theorem flat_s (x) : flat (.s x) = true := rfl
theorem flat_nilp : flat .nilp = true := rfl
theorem flat_ptr (x) : flat (.ptr x) = false := rfl
theorem flat_sl (a b c) : flat (.sl a b c) = false := rfl
theorem flat_agg (a) : flat (.agg a) = false := rfl
theorem flat_tup (a) : flat (.tup a) = false := rfl
theorem vis_i (hp k n) : vis hp depth (.i k n) = [] := by show vis hp (8 + 1) _ = _; simp only [vis]
theorem vis_b (hp x) : vis hp depth (.b x) = [] := by show vis hp (8 + 1) _ = _; simp only [vis]
theorem vis_s (hp x) : vis hp depth (.s x) = [] := by show vis hp (8 + 1) _ = _; simp only [vis]
theorem vis_nilp (hp) : vis hp depth .nilp = [] := by show vis hp (8 + 1) _ = _; simp only [vis]
theorem vis_ptr (hp x) : vis hp depth (.ptr x) = [] := by show vis hp (8 + 1) _ = _; simp only [vis]
theorem vis_sl (hp a b c) : vis hp depth (.sl a b c) = [] := by show vis hp (8 + 1) _ = _; simp only [vis]
theorem vis_fn0 (hp f) : vis hp depth (.fn f [] []) = [] := by show vis hp (8 + 1) _ = _; simp only [vis, List.flatMap_nil, List.append_nil]
theorem isEmpty_nil : ([] : List Nat).isEmpty = true := rfl

/-! ### a place where roads join -/
def midQ (M : Env → G → Prop) : Out → Env → G → Prop
  | .nrm, e, g => M e g
  | _, _, _ => False
theorem midQ_nrm {M e g} : midQ M .nrm e g = M e g := rfl
theorem midQ_then {F : Funs} {rest Q} {M : Env → G → Prop} (h2 : ∀ e g, M e g → W F rest e g Q) (o e g) (h : midQ M o e g) : thenQ F rest Q o e g := by
  cases o with
  | nrm => exact h2 e g h
  | ext n => exact h.elim
  | ret => exact h.elim
theorem W_cut {F : Funs} {c rest e g Q} (M : Env → G → Prop) (h1 : W F c e g (midQ M)) (h2 : ∀ e g, M e g → W F rest e g Q) : W F c e g (thenQ F rest Q) := W_mono h1 (midQ_then h2)
theorem sel_cut {F : Funs} {t f rest e g Q v} (M : Env → G → Prop) (h1 : selW F t f e g (midQ M) v) (h2 : ∀ e g, M e g → W F rest e g Q) : selW F t f e g (thenQ F rest Q) v := by
  cases v <;> simp only [selW] at h1 ⊢
  rename_i x
  cases x <;> exact W_mono h1 (midQ_then h2)
theorem frz_b_inv {hp : Nat → Option Blk} {k : Nat} {v : AV} {b : Bool} (h : frz hp (k + 1) v = some (.b b)) : v = .b b := by
  cases v with
  | b x => simp only [frz] at h; cases h; rfl
  | agg cs => simp only [frz] at h; cases hf : frzL hp k cs <;> rw [hf] at h <;> cases h
  | tup cs => simp only [frz] at h; cases hf : frzL hp k cs <;> rw [hf] at h <;> cases h
  | mp id off =>
    simp only [frz] at h
    split at h
    · cases hf : frzL hp k (List.drop off _) <;> rw [hf] at h <;> cases h
    · cases h
  | ms id off n =>
    simp only [frz] at h
    split at h
    · cases hf : frzL hp k (List.drop off _) <;> rw [hf] at h <;> cases h
    · cases h
  | fn f as bs => simp only [frz] at h; split at h <;> cases h
  | ifc t w => simp only [frz] at h; cases hf : frz hp k w <;> rw [hf] at h <;> cases h
  | _ => simp only [frz] at h; cases h
theorem pureS_bool {F : Funs} {f : Nat} {as : List AV} {b : Bool} (h : pureS F f as = some (.b b)) : ∃ k g', callE F k f as g0 = some (.b b, g') := by
  unfold pureS at h
  split at h
  · rename_i v g hc
    have := frz_b_inv (k := 8) h
    subst this
    obtain ⟨k, hk⟩ := (callS_some F).1 hc
    exact ⟨k, g, hk⟩
  · cases h
end Go.Ab
