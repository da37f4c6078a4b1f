/- What ImmFences rests on, part 2: lemmas, no claim of its own. -/
import Derived.LoopN
import Derived.Scope
import Derived.Test.YtkiecemdbkjccaaChecked
import Derived.KernelRfl
import Derived.Test.YtkiecemdbkjccaaPImmFences1
section
set_option linter.unusedVariables false
set_option linter.unusedSimpArgs false
namespace Go.Ab
open Go.RowKit
def gnames : Option (Nat × Bool) → List Nat
  | none => []
  | some (t, _) => [t]
def AOper.looks (o : AOper) : List Nat := gnames o.grd ++ o.op.names
def dnot (d : Option Nat) (l : List Nat) : Bool := match d with
  | none => true
  | some d => !l.contains d
def ddif (d d' : Option Nat) : Bool := match d, d' with
  | some a, some b => a != b
  | _, _ => true
def clsOk (k i : Nat) (x y : AOper) : Bool :=
  cls x.op == .p || cls y.op == .p || (cls x.op != .x && cls y.op != .x &&
   (!y.pre.contains k && !x.pre.contains i && (!(cls x.op == .s || cls y.op == .s) || x.pre.all (fun p => !y.pre.contains p)) && !(cls x.op == .t && cls y.op == .t)))
def swapB (k i : Nat) (x y : AOper) : Bool :=
  dnot x.dst y.looks && dnot y.dst x.looks && ddif x.dst y.dst && clsOk k i x y
theorem put_not {d : Option Nat} {l : List Nat} (h : dnot d l = true) (e : Env) (v : AV) : ∀ t ∈ l, put e d v t = e t := by
  intro t ht
  cases d with
  | none => rfl
  | some d =>
    simp only [dnot, Bool.not_eq_true', List.contains_eq_mem, decide_eq_false_iff_not] at h
    have : t ≠ d := fun h' => h (h' ▸ ht)
    simp only [put, upd, if_neg this]
theorem put_comm {d d' : Option Nat} (h : ddif d d' = true) (e : Env) (v u : AV) : put (put e d v) d' u = put (put e d' u) d v := by
  cases d with
  | none => cases d' <;> rfl
  | some d =>
    cases d' with
    | none => rfl
    | some d' =>
      simp only [ddif, bne_iff_ne, ne_eq] at h
      funext t
      simp only [put, upd]
      by_cases h1 : t = d'
      · subst h1; rw [if_pos rfl, if_neg (fun h2 => h h2.symm), if_pos rfl]
      · rw [if_neg h1]
        by_cases h2 : t = d
        · rw [if_pos h2, if_pos h2]
        · rw [if_neg h2, if_neg h2, if_neg h1]
theorem wanted_congr {e e' : Env} {grd : Option (Nat × Bool)} (h : ∀ t ∈ gnames grd, e' t = e t) : wanted e' grd = wanted e grd := by
  cases grd with
  | none => rfl
  | some p => obtain ⟨t, w⟩ := p; simp only [wanted]; rw [h t (by simp [gnames])]
def stepV (call : CS) (base j : Nat) (o : AOper) (e : Env) (g : G) : Option (AV × G) :=
  if wanted e o.grd then opE call (allow true base o.pre) base (base + j) o.op e g else some (.undef, g)
theorem opStep_V (call : CS) (base j : Nat) (o : AOper) (e : Env) (g : G) : opStep call true base j o e g = (stepV call base j o e g).map fun r => (put e o.dst r.1, r.2) := by
  unfold opStep stepV
  by_cases h : wanted e o.grd = true
  · rw [if_pos h, if_pos h]
    cases opE call (allow true base o.pre) base (base + j) o.op e g with
    | none => rfl
    | some r => rfl
  · rw [if_neg h, if_neg h]; rfl
theorem stepV_congr {call : CS} {base j : Nat} {o : AOper} {e e' : Env} (h : ∀ t ∈ o.looks, e' t = e t) (g : G) : stepV call base j o e' g = stepV call base j o e g := by
  unfold stepV
  rw [wanted_congr fun t ht => h t (List.mem_append_left _ ht), opE_congr fun t ht => h t (List.mem_append_right _ ht)]
theorem allow_slot {base k : Nat} {pre : List Nat} (h : allow true base pre (base + k) = true) : pre.contains k = true := by
  simp only [allow, Bool.not_true, Bool.false_or, Bool.or_eq_true, decide_eq_true_eq] at h
  rcases h with h | h
  · omega
  · simpa using h
theorem allow_ge {base k : Nat} {pre : List Nat} (h : allow true base pre k = true) (hk : base ≤ k) : pre.contains (k - base) = true := by
  simp only [allow, Bool.not_true, Bool.false_or, Bool.or_eq_true, decide_eq_true_eq] at h
  rcases h with h | h
  · omega
  · exact h
theorem Foot.out {call : CS} {al : Nat → Bool} {lo id : Nat} {op : AOp} {e : Env} {g : G} {v : AV} {g1 : G} (F : Foot call al lo id op e g v g1) {i : Nat} (h : ¬ Wr (cls op) al lo id g i) : g1.hp i = g.hp i := by
  obtain ⟨_, _, W, h1, h2, _⟩ := F
  exact h2 i fun hw => h (h1 i hw)
open Classical in
theorem opE_swap {call : CS} {base k i : Nat} (hki : k ≠ i) {x y : AOper} (hc : clsOk k i x y = true) {e : Env} {g g1 g2 : G} {v u : AV}
    (h1 : opE call (allow true base x.pre) base (base + k) x.op e g = some (v, g1)) (h2 : opE call (allow true base y.pre) base (base + i) y.op e g1 = some (u, g2)) :
    ∃ g1', opE call (allow true base y.pre) base (base + i) y.op e g = some (u, g1') ∧ opE call (allow true base x.pre) base (base + k) x.op e g1' = some (v, g2) := by
  by_cases hx : cls x.op = .p
  · obtain ⟨rfl, hh⟩ := any_p hx _ _ _ h1
    exact ⟨g2, h2, hh g2⟩
  by_cases hy : cls y.op = .p
  · obtain ⟨rfl, hh⟩ := any_p hy _ _ _ h2
    exact ⟨g, hh g, h1⟩
  simp only [clsOk, Bool.or_eq_true, beq_iff_eq, hx, hy, false_or, Bool.and_eq_true, bne_iff_ne, ne_eq, Bool.not_eq_true'] at hc
  obtain ⟨⟨cx, cy⟩, ⟨⟨pk, pi⟩, ps⟩, ptt⟩ := hc
  have ak : allow true base y.pre (base + k) ≠ true := fun h => by rw [allow_slot h] at pk; cases pk
  have ai : allow true base x.pre (base + i) ≠ true := fun h => by rw [allow_slot h] at pi; cases pi
  have pp : (cls x.op = .s ∨ cls y.op = .s) → ∀ m, base ≤ m → allow true base x.pre m = true → allow true base y.pre m = true → False := by
    intro hs m hm h3 h4
    rcases ps with ps | ps
    · simp only [Bool.or_eq_false_iff, beq_eq_false_iff_ne, ne_eq] at ps
      rcases hs with hs | hs
      · exact ps.1 hs
      · exact ps.2 hs
    · have h3 := allow_ge h3 hm
      have h4 := allow_ge h4 hm
      have := List.all_eq_true.1 ps (m - base) (by simpa using h3)
      rw [h4] at this; cases this
  have tt : ¬ (cls x.op = .t ∧ cls y.op = .t) := by simpa [Bool.and_eq_false_iff] using ptt
  have F := foot_all cx h1
  have F' := foot_all cy h2
  have out1 : ∀ m, ¬ Wr (cls x.op) (allow true base x.pre) base (base + k) g m → g1.hp m = g.hp m := fun m hm => F.out hm
  -- what y looks at, x has not turned
  have A : ∀ m, Rd (cls y.op) (allow true base y.pre) base g1 m → ¬ Wr (cls x.op) (allow true base x.pre) base (base + k) g m := by
    intro m hr hw
    have hal : allow true base y.pre m = true := by
      cases hcy : cls y.op <;> rw [hcy] at hr <;> simp only [Rd] at hr
      · exact hr.1
      · exact hr.1
      · exact hr.1
      · exact hr.2.1
      · exact absurd hcy cy
    have hne : m ≠ base + k := fun h => ak (h ▸ hal)
    cases hcx : cls x.op with
    | p => exact hx hcx
    | r => rw [hcx] at hw; exact hw
    | a => rw [hcx] at hw; exact hne hw
    | t =>
      rw [hcx] at hw
      rcases hw with hw | hw
      · exact hne hw
      · have hcm : CM (g1.hp m) := by
          cases hcy : cls y.op <;> rw [hcy] at hr <;> simp only [Rd] at hr
          · exact hr.2
          · exact hr.2
          · exact absurd ⟨hcx, hcy⟩ tt
          · exact hr.2.2
          · exact absurd hcy cy
        have := F.kind m hne hcm
        have h3 := hw.2
        cases hh : g.hp m with
        | none => rw [hh] at h3; exact h3
        | some b => rw [hh] at h3 this; cases b <;> first | exact h3 | exact this
    | s =>
      rw [hcx] at hw
      exact pp (.inl hcx) m hw.1 hw.2.1 hal
    | x => exact cx hcx
  have B : ∀ m, Wr (cls y.op) (allow true base y.pre) base (base + i) g1 m → ¬ Wr (cls x.op) (allow true base x.pre) base (base + k) g m := by
    intro m hr hw
    have hor : m = base + i ∨ Rd (cls y.op) (allow true base y.pre) base g1 m := by
      cases hcy : cls y.op <;> rw [hcy] at hr <;> simp only [Wr] at hr
      · exact .inl hr
      · rcases hr with hr | hr
        · exact .inl hr
        · exact .inr ⟨hr.1, .inr hr.2⟩
      · exact .inr hr
      · exact absurd hcy cy
    rcases hor with rfl | hr
    · cases hcx : cls x.op with
      | p => exact hx hcx
      | r => rw [hcx] at hw; exact hw
      | a => rw [hcx] at hw; simp only [Wr] at hw; omega
      | t =>
        rw [hcx] at hw
        rcases hw with hw | hw
        · omega
        · exact ai hw.1
      | s => rw [hcx] at hw; exact ai hw.2.1
      | x => exact cx hcx
    · exact A m hr hw
  have C : ∀ m, Rd (cls x.op) (allow true base x.pre) base g m → ¬ Wr (cls y.op) (allow true base y.pre) base (base + i) g1 m := by
    intro m hr hw
    have hal : allow true base x.pre m = true := by
      cases hcx : cls x.op <;> rw [hcx] at hr <;> simp only [Rd] at hr
      · exact hr.1
      · exact hr.1
      · exact hr.1
      · exact hr.2.1
      · exact absurd hcx cx
    have hne : m ≠ base + i := fun h => ai (h ▸ hal)
    have hold : g1.hp m = g.hp m := out1 m (B m hw)
    cases hcy : cls y.op with
    | p => exact hy hcy
    | r => rw [hcy] at hw; exact hw
    | a => rw [hcy] at hw; exact hne hw
    | t =>
      rw [hcy] at hw
      rcases hw with hw | hw
      · exact hne hw
      · have h3 := hw.2
        rw [hold] at h3
        have hcm : CM (g.hp m) := by
          cases hcx : cls x.op <;> rw [hcx] at hr <;> simp only [Rd] at hr
          · exact hr.2
          · exact hr.2
          · exact absurd ⟨hcx, hcy⟩ tt
          · exact hr.2.2
          · exact absurd hcx cx
        cases hh : g.hp m with
        | none => rw [hh] at h3; exact h3
        | some b => rw [hh] at h3 hcm; cases b <;> first | exact h3 | exact hcm
    | s =>
      rw [hcy] at hw
      exact pp (.inr hcy) m hw.1 hal hw.2.1
    | x => exact cy hcy
  obtain ⟨n1, _, W, w1, w2, w3⟩ := F
  obtain ⟨n2, _, W', w1', w2', w3'⟩ := F'
  have hAg : ∀ m, Rd (cls y.op) (allow true base y.pre) base g1 m → g.hp m = g1.hp m := fun m hm => (out1 m (A m hm)).symm
  refine ⟨_, w3' g hAg, ?_⟩
  rw [w3 _ (fun m hm => ?_)]
  · congr 2
    have : g2 = ⟨g2.hp, g2.nx⟩ := rfl
    rw [this]
    congr 1
    · funext m
      show (if W m then g1.hp m else if W' m then g2.hp m else g.hp m) = g2.hp m
      by_cases hm : W m
      · rw [if_pos hm]
        exact (w2' m (fun h' => B m (w1' m h') (w1 m hm))).symm
      · rw [if_neg hm]
        by_cases hm' : W' m
        · rw [if_pos hm']
        · rw [if_neg hm', w2' m hm', w2 m hm]
    · show g.nx = g2.nx
      rw [n2, n1]
  · show (if W' m then g2.hp m else g.hp m) = g.hp m
    rw [if_neg (fun h' => C m hm (w1' m h'))]
theorem stepV_swap {call : CS} {base k i : Nat} (hki : k ≠ i) {x y : AOper} (hc : clsOk k i x y = true) {e : Env} {g g1 g2 : G} {v u : AV}
    (h1 : stepV call base k x e g = some (v, g1)) (h2 : stepV call base i y e g1 = some (u, g2)) : ∃ g1', stepV call base i y e g = some (u, g1') ∧ stepV call base k x e g1' = some (v, g2) := by
  unfold stepV at *
  by_cases hx : wanted e x.grd = true
  · rw [if_pos hx] at h1
    by_cases hy : wanted e y.grd = true
    · rw [if_pos hy] at h2
      obtain ⟨g1', h3, h4⟩ := opE_swap hki hc h1 h2
      exact ⟨g1', by rw [if_pos hy]; exact h3, by rw [if_pos hx]; exact h4⟩
    · rw [if_neg hy] at h2
      cases h2
      exact ⟨g, by rw [if_neg hy], by rw [if_pos hx]; exact h1⟩
  · rw [if_neg hx] at h1
    cases h1
    exact ⟨g2, h2, by rw [if_neg hx]⟩
theorem opStep_swap {call : CS} {base k i : Nat} (hki : k ≠ i) {x y : AOper} (hc : swapB k i x y = true) {e e1 e2 : Env} {g g1 g2 : G}
    (h1 : opStep call true base k x e g = some (e1, g1)) (h2 : opStep call true base i y e1 g1 = some (e2, g2)) :
    ∃ e1' g1', opStep call true base i y e g = some (e1', g1') ∧ opStep call true base k x e1' g1' = some (e2, g2) := by
  simp only [swapB, Bool.and_eq_true] at hc
  obtain ⟨⟨⟨d1, d2⟩, d3⟩, d4⟩ := hc
  rw [opStep_V] at h1 h2
  cases hv : stepV call base k x e g with
  | none => rw [hv] at h1; cases h1
  | some r =>
    obtain ⟨v, g1⟩ := r
    rw [hv] at h1
    cases h1
    rw [stepV_congr (put_not d1 e v)] at h2
    cases hu : stepV call base i y e g1 with
    | none => rw [hu] at h2; cases h2
    | some r =>
      obtain ⟨u, g2⟩ := r
      rw [hu] at h2
      cases h2
      obtain ⟨g1', h3, h4⟩ := stepV_swap hki d4 hv hu
      refine ⟨put e y.dst u, g1', by rw [opStep_V, h3]; rfl, ?_⟩
      rw [opStep_V, stepV_congr (put_not d2 e u), h4]
      show some _ = some _
      rw [put_comm d3]
def runL (call : CS) (base : Nat) (aos : List AOper) : List Nat → Env → G → Option (Env × G)
  | [], e, g => some (e, g)
  | i :: is, e, g => match aos[i]? with
    | some o => match opStep call true base i o e g with
      | some (e', g') => runL call base aos is e' g'
      | none => none
    | none => none
theorem runL_text (call : CS) (base : Nat) (aos : List AOper) : ∀ (os : List AOper) (j : Nat) (e : Env) (g : G), (∀ i o, os[i]? = some o → aos[j + i]? = some o) → runL call base aos (List.range' j os.length) e g = regE call true base j os e g
  | [], j, e, g, _ => rfl
  | o :: os, j, e, g, h => by
    rw [regE_step, List.length_cons, List.range'_succ]
    have h0 : aos[j]? = some o := by simpa using h 0 o rfl
    simp only [runL, h0]
    cases opStep call true base j o e g with
    | none => rfl
    | some r =>
      obtain ⟨e', g'⟩ := r
      exact runL_text call base aos os (j + 1) e' g' (fun i o' hi => by have := h (i + 1) o' (by simpa using hi); rwa [show j + (i + 1) = j + 1 + i by omega] at this)
theorem runL_front {call : CS} {base : Nat} {aos : List AOper} {i : Nat} {y : AOper} (hy : aos[i]? = some y) : ∀ (pre post : List Nat) (e e' : Env) (g g' : G), (∀ k ∈ pre, k ≠ i ∧ ∀ x, aos[k]? = some x → swapB k i x y = true) →
    runL call base aos (pre ++ i :: post) e g = some (e', g') → runL call base aos (i :: (pre ++ post)) e g = some (e', g')
  | [], post, e, e', g, g', _, h => h
  | k :: pre, post, e, e', g, g', hp, h => by
    rw [List.cons_append] at h
    simp only [runL] at h
    split at h
    · rename_i x hx
      split at h
      · rename_i e1 g1 hst
        have := runL_front hy pre post e1 e' g1 g' (fun m hm => hp m (List.mem_cons_of_mem _ hm)) h
        simp only [runL, hy] at this
        split at this
        · rename_i e2 g2 hst2
          obtain ⟨hne, hsw⟩ := hp k (List.mem_cons_self ..)
          obtain ⟨e1', g1', h3, h4⟩ := opStep_swap hne (hsw x hx) hst hst2
          simp only [runL, hy, h3, List.cons_append, hx, h4]
          exact this
        · cases this
      · cases h
    · cases h
def cloAt (es : Array Edge) (clo : List Nat) : Nat :=
  es.foldl (fun b e => if Region.binds .any e then b ||| (1 <<< e.on) ||| (clo.getD e.on 0) else b) 0
def clos : List Oper → List Nat → List Nat
  | [], clo => clo
  | o :: os, clo => clos os (clo ++ [cloAt o.after clo])
def edgesB : Nat → List Oper → Bool
  | _, [] => true
  | j, o :: os => o.after.all (fun e => !Region.binds .any e || decide (e.on < j)) && edgesB (j + 1) os
def pairsB (clo : Nat) (i : Nat) (y : AOper) : Nat → List AOper → Bool
  | _, [] => true
  | k, x :: xs => (clo.testBit k || swapB k i x y) && pairsB clo i y (k + 1) xs
def drawB (aos : List AOper) : Nat → List AOper → List Nat → Bool
  | _, [], _ => true
  | i, y :: ys, clo :: cs => pairsB clo i y 0 (aos.take i) && drawB aos (i + 1) ys cs
  | _, _ :: _, [] => false
end Go.Ab
end
section
set_option linter.unusedVariables false
set_option linter.unusedSimpArgs false
set_option linter.unnecessarySimpa false
namespace Go.Ab
open Go.RowKit
theorem testBit_fold (es : List Edge) (clo : List Nat) (k : Nat) : ∀ b : Nat, (es.foldl (fun b e => if Region.binds .any e then b ||| (1 <<< e.on) ||| (clo.getD e.on 0) else b) b).testBit k = true →
    b.testBit k = true ∨ ∃ e ∈ es, Region.binds .any e = true ∧ (k = e.on ∨ (clo.getD e.on 0).testBit k = true) := by
  induction es with
  | nil => intro b h; exact .inl h
  | cons e es ih =>
    intro b h
    rw [List.foldl_cons] at h
    rcases ih _ h with h1 | ⟨e', he', h2⟩
    · by_cases hb : Region.binds .any e = true
      · rw [if_pos hb] at h1
        simp only [Nat.testBit_or, Bool.or_eq_true] at h1
        rcases h1 with (h1 | h1) | h1
        · exact .inl h1
        · refine .inr ⟨e, List.mem_cons_self .., hb, .inl ?_⟩
          rw [Nat.testBit_shiftLeft] at h1
          simp only [Bool.and_eq_true, decide_eq_true_eq] at h1
          have h2 : Nat.testBit 1 (k - e.on) = true := h1.2
          have h3 : k - e.on = 0 := by
            cases hz : k - e.on with
            | zero => rfl
            | succ z => rw [hz] at h2; simp [Nat.testBit_succ] at h2
          omega
        · exact .inr ⟨e, List.mem_cons_self .., hb, .inr h1⟩
      · rw [if_neg hb] at h1
        exact .inl h1
    · exact .inr ⟨e', List.mem_cons_of_mem _ he', h2⟩
def cloB (clo : List Nat) : List Oper → List Nat → Bool
  | [], [] => true
  | o :: os, c :: cs => (cloAt o.after clo == c) && cloB clo os cs
  | _, _ => false
theorem cloB_get {clo : List Nat} : ∀ {os : List Oper} {cs : List Nat}, cloB clo os cs = true → os.length = cs.length ∧ ∀ (i : Nat) o, os[i]? = some o → cs[i]? = some (cloAt o.after clo)
  | [], [], _ => ⟨rfl, fun _ _ h => by simp at h⟩
  | [], _ :: _, h => by simp [cloB] at h
  | _ :: _, [], h => by simp [cloB] at h
  | o :: os, c :: cs, h => by
    simp only [cloB, Bool.and_eq_true, beq_iff_eq] at h
    obtain ⟨h1, h2⟩ := cloB_get h.2
    refine ⟨by simp [h1], fun i o' hi => ?_⟩
    cases i with
    | zero => simp at hi; subst hi; simp [h.1]
    | succ i => simp at hi ⊢; exact h2 i o' hi
theorem edgesB_get : ∀ {os : List Oper} {j : Nat}, edgesB j os = true → ∀ (i : Nat) o, os[i]? = some o → ∀ e ∈ o.after, Region.binds .any e = true → e.on < j + i
  | [], _, _, _, _, h => by simp at h
  | o :: os, j, h, i, o', hi => by
    simp only [edgesB, Bool.and_eq_true] at h
    cases i with
    | zero =>
      simp at hi; subst hi
      intro e he hb
      have := Array.all_eq_true_iff_forall_mem.1 h.1 e he
      rw [hb] at this
      simpa using this
    | succ i =>
      simp at hi
      intro e he hb
      have := edgesB_get h.2 i o' hi e he hb
      omega
def Closed (ops : List Oper) (L : Nat → Bool) : Prop := ∀ (i : Nat) o, ops[i]? = some o → L i = true → ∀ e ∈ o.after, Region.binds .any e = true → L e.on = true
theorem clo_sound {ops : List Oper} {clo : List Nat} (hc : cloB clo ops clo = true) (he : edgesB 0 ops = true) {L : Nat → Bool} (hL : Closed ops L) : ∀ (i : Nat) (o : Oper), ops[i]? = some o → (∀ e ∈ o.after, Region.binds .any e = true → L e.on = true) → ∀ k, (clo.getD i 0).testBit k = true → L k = true := by
  intro i
  induction i using Nat.strongRecOn with
  | _ i ih =>
    intro o ho hp k hk
    obtain ⟨hl, hg⟩ := cloB_get hc
    have h1 : clo.getD i 0 = cloAt o.after clo := by rw [List.getD_eq_getElem?_getD, hg i o ho]; rfl
    rw [h1] at hk
    unfold cloAt at hk
    rw [← Array.foldl_toList] at hk
    rcases testBit_fold _ _ _ _ hk with h2 | ⟨e, hm, hb, h2⟩
    · simp at h2
    · have hm' : e ∈ o.after := Array.mem_toList_iff.1 hm
      rcases h2 with rfl | h2
      · exact hp e hm' hb
      · have hlt := edgesB_get he i o ho e hm' hb
        cases ho' : ops[e.on]? with
        | none =>
          rw [List.getElem?_eq_none_iff] at ho'
          rw [List.getD_eq_getElem?_getD, List.getElem?_eq_none (by omega)] at h2
          simp at h2
        | some o' => exact ih e.on (by omega) o' ho' (fun e' he' hb' => hL e.on o' ho' (hp e hm' hb) e' he' hb') k h2
theorem pairsB_get {clo i : Nat} {y : AOper} : ∀ {xs : List AOper} {j : Nat}, pairsB clo i y j xs = true → ∀ (k : Nat) x, xs[k]? = some x → clo.testBit (j + k) = true ∨ swapB (j + k) i x y = true
  | [], _, _, _, _, h => by simp at h
  | x :: xs, j, h, k, x', hk => by
    simp only [pairsB, Bool.and_eq_true, Bool.or_eq_true] at h
    cases k with
    | zero => simp at hk; subst hk; exact h.1
    | succ k =>
      simp at hk
      have := pairsB_get h.2 k x' hk
      rwa [show j + 1 + k = j + (k + 1) by omega] at this
theorem drawB_get {aos : List AOper} : ∀ {ys : List AOper} {cs : List Nat} {j : Nat}, drawB aos j ys cs = true → ∀ (i : Nat) y, ys[i]? = some y → pairsB (cs.getD i 0) (j + i) y 0 (aos.take (j + i)) = true
  | [], _, _, _, _, _, h => by simp at h
  | y :: ys, [], _, h, _, _, _ => by simp [drawB] at h
  | y :: ys, c :: cs, j, h, i, y', hi => by
    simp only [drawB, Bool.and_eq_true] at h
    cases i with
    | zero => simp at hi; subst hi; simpa using h.1
    | succ i =>
      simp at hi
      have := drawB_get h.2 i y' hi
      rw [show j + 1 + i = j + (i + 1) by omega] at this
      simpa using this
theorem opersB_get {P : Program} {nm : Nat → Nat} {N : Nat} {ops : Array Oper} : ∀ {os : List Oper} {aos : List AOper}, opersB P nm N ops os aos = true → os.length = aos.length ∧ ∀ (i : Nat) o, os[i]? = some o → ∃ ao, aos[i]? = some ao ∧ operB P nm N ops o ao = true
  | [], [], _ => ⟨rfl, fun _ _ h => by simp at h⟩
  | [], _ :: _, h => by simp [opersB] at h
  | _ :: _, [], h => by simp [opersB] at h
  | o :: os, ao :: aos, h => by
    simp only [opersB, Bool.and_eq_true] at h
    obtain ⟨h1, h2⟩ := opersB_get h.2
    refine ⟨by simp [h1], fun i o' hi => ?_⟩
    cases i with
    | zero => simp at hi; subst hi; exact ⟨ao, rfl, h.1⟩
    | succ i => simp at hi ⊢; exact h2 i o' hi
def regB (P : Program) (nm : Nat → Nat) (N : Nat) (ops : Array Oper) (draw : Bool) (aos : List AOper) : Bool :=
  opersB P nm N ops ops.toList aos && (!draw || (edgesB 0 ops.toList && (let clo := clos ops.toList []; cloB clo ops.toList clo && drawB aos 0 aos clo)))
def pend (ops : Array Oper) (listed : Array Bool) : List Nat := (List.range ops.size).filter fun i => !listed.getD i true
theorem ready_some {ops : Array Oper} {listed : Array Bool} (he : edgesB 0 ops.toList = true) (hs : listed.size = ops.size) : ∀ i, i < ops.size → listed.getD i true = false → Region.ready .any ops listed ≠ [] := by
  intro i
  induction i using Nat.strongRecOn with
  | _ i ih =>
    intro hi hl hr
    have ho : ops[i]? = some ops[i] := Array.getElem?_eq_getElem hi
    by_cases hall : (ops[i].after.all fun e => !Region.binds .any e || listed.getD e.on false) = true
    · have : i ∈ Region.ready .any ops listed := by
        unfold Region.ready
        rw [List.mem_filter]
        exact ⟨List.mem_range.2 hi, by rw [hl, ho]; simpa using hall⟩
      rw [hr] at this
      cases this
    · rw [Array.all_eq_true_iff_forall_mem] at hall
      simp only [Bool.or_eq_true, Bool.not_eq_true'] at hall
      have : ∃ e ∈ ops[i].after, Region.binds .any e = true ∧ listed.getD e.on false ≠ true := by
        refine Classical.byContradiction fun hn => hall fun e hm => ?_
        by_cases hb : Region.binds .any e = true
        · by_cases hl : listed.getD e.on false = true
          · exact .inr hl
          · exact absurd ⟨e, hm, hb, hl⟩ hn
        · exact .inl (by simpa using hb)
      obtain ⟨e, hm, hb, hne⟩ := this
      have hlt := edgesB_get he i ops[i] (by simpa using ho) e hm hb
      have hlt' : e.on < ops.size := by omega
      refine ih e.on (by omega) hlt' ?_ hr
      have h1 : e.on < listed.size := by omega
      simp only [Array.getD_eq_getD_getElem?, Array.getElem?_eq_getElem h1, Option.getD_some] at hne ⊢
      simpa using hne
section
variable {P : Program} {call : CS} {N : Nat}
theorem any_wp {num : Nat → Nat} (hcall : CallOk P num call) (hk : CallKeep call) {ops : Array Oper} {aos : List AOper} (hb : regB P num N ops true aos = true) {Q : Exit → Act → World → Prop} {base : Nat} {e' : Env} {g' : G} :
    ∀ (fuel : Nat) (listed : Array Bool) {c : Cx} {e : Env} {g : G} {a : Act}, listed.size = ops.size → (pend ops listed).length = fuel → Closed ops.toList (fun i => listed.getD i false) → c.num = num → St N c e g a → base + ops.size ≤ g.nx →
    (∀ i ∈ pend ops listed, g.hp (base + i) = none) → runL call base aos (pend ops listed) e g = some (e', g') → (∀ c' a', Evo c c' → St N c' e' g' a' → Q .normal a' c'.w) → wpAny P .any ops Q fuel listed a c.w
  | 0, listed, c, e, g, a, hs, hl, hc, hn, S, hnx, hf, hr, hQ => by
    have hp : pend ops listed = [] := List.eq_nil_of_length_eq_zero hl
    refine ⟨?_, ?_⟩
    · refine List.eq_nil_iff_forall_not_mem.2 fun i hi => ?_
      have : i ∈ pend ops listed := by
        unfold Region.ready at hi
        rw [List.mem_filter] at hi
        unfold pend
        rw [List.mem_filter]
        exact ⟨hi.1, by have := hi.2; simp only [Bool.and_eq_true] at this; exact this.1⟩
      rw [hp] at this; cases this
    · rw [hp] at hr
      simp only [runL] at hr
      cases hr
      exact hQ c a (Evo.refl c) S
  | fuel + 1, listed, c, e, g, a, hs, hl, hc, hn, S, hnx, hf, hr, hQ => by
    simp only [regB, Bool.and_eq_true, Bool.not_true, Bool.false_or] at hb
    obtain ⟨hb1, hb2, hb3, hb4⟩ := hb
    refine ⟨fun h0 => ?_, fun i hi => ?_⟩
    · exfalso
      cases hp : pend ops listed with
      | nil => rw [hp] at hl; simp at hl
      | cons m ms =>
        have hm : m ∈ pend ops listed := by rw [hp]; exact List.mem_cons_self ..
        unfold pend at hm
        rw [List.mem_filter] at hm
        exact ready_some hb2 hs m (List.mem_range.1 hm.1) (by simpa using hm.2) h0
    · have hi' := hi
      unfold Region.ready at hi'
      rw [List.mem_filter] at hi'
      obtain ⟨hir, hiu⟩ := hi'
      have hilt : i < ops.size := List.mem_range.1 hir
      simp only [Bool.and_eq_true, Bool.not_eq_true'] at hiu
      obtain ⟨hul, hpre⟩ := hiu
      have ho : ops[i]? = some ops[i] := Array.getElem?_eq_getElem hilt
      rw [ho] at hpre
      simp only [Option.map_some, Option.getD_some] at hpre
      have hpre' : ∀ ed ∈ ops[i].after, Region.binds .any ed = true → listed.getD ed.on false = true := by
        intro ed hm hbd
        have := Array.all_eq_true_iff_forall_mem.1 hpre ed hm
        rw [hbd] at this
        simpa using this
      have him : i ∈ pend ops listed := by
        unfold pend; rw [List.mem_filter]; exact ⟨hir, by rw [hul]; rfl⟩
      obtain ⟨pre, post, hsplit⟩ := List.append_of_mem him
      have hsort : (pend ops listed).Pairwise (· < ·) := List.Pairwise.filter _ List.pairwise_lt_range
      rw [hsplit, List.pairwise_append] at hsort
      obtain ⟨s1, s2, s3⟩ := hsort
      rw [List.pairwise_cons] at s2
      obtain ⟨hlen, hget⟩ := opersB_get hb1
      obtain ⟨y, hy, hoy⟩ := hget i ops[i] (by simpa using ho)
      have hmem : ∀ k, k ∈ pre ∨ k ∈ post → k ∈ pend ops listed := by
        intro k hk; rw [hsplit]
        rcases hk with hk | hk
        · exact List.mem_append_left _ hk
        · exact List.mem_append_right _ (List.mem_cons_of_mem _ hk)
      have hfront := runL_front hy pre post e e' g g' (fun k hk => by
        have hki : k < i := s3 k hk i (List.mem_cons_self ..)
        refine ⟨by omega, fun x hx => ?_⟩
        have hpb := drawB_get hb4 i y hy
        rw [Nat.zero_add] at hpb
        have := pairsB_get hpb k x (by rw [List.getElem?_take_of_lt hki]; exact hx)
        rw [Nat.zero_add] at this
        rcases this with h1 | h1
        · exfalso
          have hL := clo_sound hb3 hb2 hc i ops[i] (by simpa using ho) hpre' k h1
          have hkm := hmem k (.inl hk)
          unfold pend at hkm
          rw [List.mem_filter] at hkm
          have hkl : k < listed.size := by rw [hs]; exact List.mem_range.1 hkm.1
          have h2 := hkm.2
          simp only [Array.getD_eq_getD_getElem?, Array.getElem?_eq_getElem hkl, Option.getD_some] at hL h2
          rw [hL] at h2; cases h2
        · exact h1) (by rw [hsplit] at hr; exact hr)
      simp only [runL, hy] at hfront
      have hpend' : pend ops (listed.setIfInBounds i true) = pre ++ post := by
        have h1 : pend ops (listed.setIfInBounds i true) = (pend ops listed).filter (fun k => k != i) := by
          unfold pend
          rw [List.filter_filter]
          refine List.filter_congr fun k hk => ?_
          have hkl : k < listed.size := by rw [hs]; exact List.mem_range.1 hk
          by_cases hki : k = i
          · subst hki
            rw [Array.getD_eq_getD_getElem?, Array.getElem?_setIfInBounds_self_of_lt hkl]
            simp
          · rw [Array.getD_eq_getD_getElem?, Array.getElem?_setIfInBounds_ne (fun h => hki h.symm), Array.getD_eq_getD_getElem?]
            simp [hki]
        rw [h1, hsplit, List.filter_append, List.filter_cons]
        have f1 : pre.filter (fun k => k != i) = pre := List.filter_eq_self.2 fun k hk => by
          have := s3 k hk i (List.mem_cons_self ..)
          simp; omega
        have f2 : post.filter (fun k => k != i) = post := List.filter_eq_self.2 fun k hk => by
          have := s2.1 k hk
          simp; omega
        rw [f1, f2]
        simp
      split at hfront
      · rename_i e1 g1 hst
        have hkp := opStep_keep hk hst
        refine opStep_wp (hn ▸ hcall) S ho (hn ▸ hoy) (hf i him) (by omega) hst (fun c1 a1 E1 S1 => ?_)
        have hb : regB P num N ops true aos = true := by
          simp only [regB, Bool.and_eq_true, Bool.not_true, Bool.false_or]
          exact ⟨hb1, hb2, hb3, hb4⟩
        refine any_wp hcall hk hb fuel (listed.setIfInBounds i true) (by simpa using hs) (by
            rw [hpend']
            rw [hsplit] at hl
            simp at hl ⊢
            omega) ?_ (E1.num.trans hn) S1 (Nat.le_trans hnx hkp.1) ?_ (by rw [hpend']; exact hfront) (fun c' a' E' S' => hQ c' a' (E1.trans E') S')
        · intro m o hm hlm ed hed hbd
          have hset : ∀ k, listed.getD k false = true → (listed.setIfInBounds i true).getD k false = true := by
            intro k hk
            by_cases hki : k = i
            · subst hki
              have hkl : k < listed.size := by omega
              rw [Array.getD_eq_getD_getElem?, Array.getElem?_setIfInBounds_self_of_lt hkl]; rfl
            · rw [Array.getD_eq_getD_getElem?, Array.getElem?_setIfInBounds_ne (fun h => hki h.symm), ← Array.getD_eq_getD_getElem?]; exact hk
          refine hset _ ?_
          by_cases hmi : m = i
          · subst hmi
            have : o = ops[m] := by
              have h2 : ops[m]? = some o := by simpa using hm
              rw [ho] at h2; cases h2; rfl
            subst this
            exact hpre' ed hed hbd
          · have hlm' : listed.getD m false = true := by
              have h3 : (listed.setIfInBounds i true).getD m false = true := hlm
              rw [Array.getD_eq_getD_getElem?, Array.getElem?_setIfInBounds_ne (fun h => hmi h.symm), ← Array.getD_eq_getD_getElem?] at h3
              exact h3
            exact hc m o hm hlm' ed hed hbd
        · intro k hk
          rw [hpend'] at hk
          have hkm := hmem k (List.mem_append.1 hk)
          have hki : k ≠ i := by
            rcases List.mem_append.1 hk with hk | hk
            · have := s3 k hk i (List.mem_cons_self ..); omega
            · have := s2.1 k hk; omega
          have hklt : k < ops.size := by
            unfold pend at hkm; rw [List.mem_filter] at hkm; exact List.mem_range.1 hkm.1
          exact hkp.2 _ (by omega) (by omega) (hf k hkm)
      · cases hfront
theorem region_wp {num : Nat → Nat} (hcall : CallOk P num call) (hk : CallKeep call) (hm : P.follows .mixedOrders = true) {ops : Array Oper} {draw : Bool} {aos : List AOper} (hb : regB P num N ops draw aos = true) {Q : Exit → Act → World → Prop} {id : Nat}
    {c : Cx} {e e' : Env} {g g' : G} {a : Act} (hn : c.num = num) (S : St N c e g a) (h : regE call draw g.nx 0 aos e { g with nx := g.nx + aos.length } = some (e', g')) (hQ : ∀ c' a', Evo c c' → St N c' e' g' a' → Q .normal a' c'.w) : (Code.region id ops draw).wp P Q a c.w := by
  have hb' := hb
  simp only [regB, Bool.and_eq_true] at hb'
  obtain ⟨hlen, _⟩ := opersB_get hb'.1
  have hlen' : ops.size = aos.length := by simpa using hlen
  have S' : St N c e { g with nx := g.nx + aos.length } a := ⟨S.env, ⟨S.ok.basele, S.ok.cells, S.ok.maps, S.ok.toks, S.ok.inj, fun id hid => S.ok.fresh id (by have : g.nx + aos.length ≤ id := hid; omega)⟩, S.hp, S.size, S.defers⟩
  have hfree : ∀ i, i < ops.size → g.hp (g.nx + i) = none := fun i _ => by rw [← S.hp]; exact S.ok.fresh _ (by omega)
  cases draw with
  | false =>
    refine wp_region ?_
    rw [List.range_eq_range']
    have := reg_wp (Q := Q) hcall hk (draw := false) (base := g.nx) (n := ops.size) ops.toList aos 0 hn (fun i o hi => by simpa using hi) hb'.1 (by simp) S' (by simp [hlen']) (fun i _ hi => hfree i hi) h hQ
    simpa using this
  | true =>
    refine wp_region_any hm ?_
    have hpend : pend ops (Array.replicate ops.size false) = List.range ops.size := by
      unfold pend
      refine List.filter_eq_self.2 fun i hi => ?_
      have hi := List.mem_range.1 hi
      rw [Array.getD_eq_getD_getElem?, Array.getElem?_replicate, if_pos hi]; rfl
    refine any_wp (c := c.drew) (base := g.nx) hcall hk hb ops.size (Array.replicate ops.size false) (by simp) (by rw [hpend]; simp) ?_ hn ⟨S'.env.evo (Evo.drew c), S'.ok.drew, S'.hp, S'.size, S'.defers⟩ (by show g.nx + ops.size ≤ g.nx + aos.length; omega) (fun i hi => ?_) ?_ (fun c' a' E Sc => hQ c' a' ((Evo.drew c).trans E) Sc)
    · intro i o _ hl
      have hl : (Array.replicate ops.size false).getD i false = true := hl
      rw [Array.getD_eq_getD_getElem?, Array.getElem?_replicate] at hl
      split at hl <;> cases hl
    · rw [hpend] at hi
      exact hfree i (List.mem_range.1 hi)
    · rw [hpend, List.range_eq_range', hlen']
      rw [runL_text call g.nx aos aos 0 e _ (fun i o hi => by simpa using hi)]
      exact h
end
end Go.Ab
end
section
set_option linter.unusedVariables false
set_option linter.unusedSimpArgs false
set_option linter.unnecessarySimpa false
namespace Go.Ab
open Go.RowKit
def codeB (P : Program) (nm : Nat → Nat) (N : Nat) : Code → ACode → Bool
  | .skip, .skip => true
  | .region _ ops d, .reg d' aos => (d == d') && regB P nm N ops d aos
  | .seq a b, .seq a' b' => codeB P nm N a a' && codeB P nm N b b'
  | .cond c t f, .cond c' t' f' => opdB nm c c' && codeB P nm N t t' && codeB P nm N f f'
  | .block i c, .blk i' c' => (i == i') && codeB P nm N c c'
  | cd, .lck _ c' => codeB P nm N cd c'
  | cd, .imm _ c' => codeB P nm N cd c'
  | .scope c, .scp c' => codeB P nm N c c'
  | .label _, .lab => true
  | .loop c, .loop c' => codeB P nm N c c'
  | .exit i, .ext i' => i == i'
  | .ret, .ret => true
  | _, _ => false
def Keeps (g g' : G) : Prop := g.nx ≤ g'.nx ∧ ∀ i, i < g.nx → g.hp i = none → g'.hp i = none
theorem Keeps.refl (g : G) : Keeps g g := ⟨Nat.le_refl _, fun _ _ h => h⟩
theorem Keeps.trans {g g1 g2 : G} (h : Keeps g g1) (k : Keeps g1 g2) : Keeps g g2 := ⟨Nat.le_trans h.1 k.1, fun i hi hn => k.2 i (Nat.lt_of_lt_of_le hi h.1) (h.2 i hi hn)⟩
theorem regE_keep {call : CS} (hk : CallKeep call) {draw : Bool} {base : Nat} {e' : Env} {g' : G} : ∀ (aos : List AOper) (j : Nat) {e : Env} {g : G}, regE call draw base j aos e g = some (e', g') → g.nx ≤ g'.nx ∧ ∀ i, i < base → i < g.nx → g.hp i = none → g'.hp i = none
  | [], j, e, g, h => by simp only [regE] at h; cases h; exact ⟨Nat.le_refl _, fun _ _ _ h => h⟩
  | o :: os, j, e, g, h => by
    rw [regE_step] at h
    split at h
    · rename_i e1 g1 hst
      have h1 := opStep_keep hk hst
      have h2 := regE_keep hk os (j + 1) h
      exact ⟨Nat.le_trans h1.1 h2.1, fun i hb hi hn => h2.2 i hb (Nat.lt_of_lt_of_le hi h1.1) (h1.2 i hi (by omega) hn)⟩
    · cases h
theorem iter_keep {f : Env → G → Option (Out × Env × G)} (hf : ∀ e g o e' g', f e g = some (o, e', g') → Keeps g g') : ∀ (k : Nat) {e : Env} {g : G} {o : Out} {e' : Env} {g' : G}, iter f k e g = some (o, e', g') → Keeps g g'
  | 0, _, _, _, _, _, h => by simp [iter] at h
  | k + 1, e, g, o, e', g', h => by
    simp only [iter] at h
    split at h
    · rename_i e1 g1 h1
      exact (hf _ _ _ _ _ h1).trans (iter_keep hf k h)
    · exact hf _ _ _ _ _ h
theorem codeE_keep {call : CS} (hk : CallKeep call) (k : Nat) : ∀ (c : ACode) {e : Env} {g : G} {o : Out} {e' : Env} {g' : G}, codeE call k c e g = some (o, e', g') → Keeps g g'
  | .skip, _, _, _, _, _, h => by simp only [codeE] at h; cases h; exact Keeps.refl _
  | .reg draw ops, e, g, _, _, _, h => by
    simp only [codeE] at h
    split at h
    · rename_i e1 g1 h1
      cases h
      have := regE_keep hk ops 0 h1
      exact ⟨Nat.le_trans (Nat.le_add_right _ _) this.1, fun i hi hn => this.2 i hi (Nat.lt_of_lt_of_le hi (Nat.le_add_right _ _)) hn⟩
    · cases h
  | .seq a b, _, _, _, _, _, h => by
    simp only [codeE] at h
    split at h
    · rename_i e1 g1 h1
      exact (codeE_keep hk k a h1).trans (codeE_keep hk k b h)
    · exact codeE_keep hk k a h
  | .cond c t f, e, g, _, _, _, h => by
    simp only [codeE] at h
    split at h
    · split at h
      · exact codeE_keep hk k t h
      · exact codeE_keep hk k f h
    · cases h
  | .blk id c, _, _, _, _, _, h => by
    simp only [codeE] at h
    split at h
    · rename_i n e1 g1 h1
      cases h
      exact codeE_keep hk k c h1
    · exact codeE_keep hk k c h
  | .scp c, _, _, _, _, _, h => by
    simp only [codeE] at h
    exact codeE_keep hk k c h
  | .lab, _, _, _, _, _, h => by simp only [codeE] at h; cases h; exact Keeps.refl _
  | .imm t c, e0, gg, _, _, _, h => by
    simp only [codeE] at h
    split at h
    · rename_i v hv
      have h2 := codeE_keep hk k c h
      refine Keeps.trans (g1 := ⟨Ab.lock gg.hp (vis gg.hp depth (e0 t)), gg.nx⟩) ⟨Nat.le_refl _, fun i hi hn => ?_⟩ h2
      show Ab.lock _ _ _ = none
      rcases lock_cases _ _ i with h' | ⟨_, cs, ro, h1, _⟩
      · rw [h']; exact hn
      · rw [hn] at h1; cases h1
    · cases h
  | .lck t c, e0, gg, _, _, _, h => by
    simp only [codeE] at h
    have h2 := codeE_keep hk k c h
    refine Keeps.trans (g1 := ⟨Ab.lock gg.hp (vis gg.hp depth (e0 t)), gg.nx⟩) ⟨Nat.le_refl _, fun i hi hn => ?_⟩ h2
    show Ab.lock _ _ _ = none
    rcases lock_cases _ _ i with h' | ⟨_, cs, ro, h1, _⟩
    · rw [h']; exact hn
    · rw [hn] at h1; cases h1
  | .loop c, _, _, _, _, _, h => by
    simp only [codeE] at h
    exact iter_keep (fun e g o e' g' h => codeE_keep hk k c h) k h
  | .ext _, _, _, _, _, _, h => by simp only [codeE] at h; cases h; exact Keeps.refl _
  | .ret, _, _, _, _, _, h => by simp only [codeE] at h; cases h; exact Keeps.refl _
theorem St.lock {N : Nat} {c : Cx} {e : Env} {g : G} {a : Act} (S : St N c e g a) (ids : List Nat) : St N (c.lock ids) e ⟨Ab.lock g.hp ids, g.nx⟩ a :=
  ⟨S.env.evo (Evo.lock c ids), S.ok.lock ids, by show Ab.lock c.hp ids = _; rw [S.hp], S.size, S.defers⟩
def exOf : Out → Exit
  | .nrm => .normal
  | .ext n => .exit n
  | .ret => .ret
section
variable {P : Program} {call : CS} {N : Nat}
theorem rounds_wp {num : Nat → Nat} {cd : Code} {f : Env → G → Option (Out × Env × G)} {Q : Exit → Act → World → Prop}
    (hf : ∀ {Q : Exit → Act → World → Prop} {c : Cx} {e e' : Env} {g g' : G} {a : Act} {o : Out}, c.num = num → St N c e g a → f e g = some (o, e', g') → (∀ c' a', Evo c c' → St N c' e' g' a' → Q (exOf o) a' c'.w) → cd.wp P Q a c.w) :
    ∀ (k : Nat) {c : Cx} {e e' : Env} {g g' : G} {a : Act} {o : Out}, c.num = num → St N c e g a → iter f k e g = some (o, e', g') → (∀ c' a', Evo c c' → St N c' e' g' a' → Q (exOf o) a' c'.w) → (o = .nrm → False) → Code.rounds P cd Q k a c.w
  | 0, _, _, _, _, _, _, _, _, _, h, _, _ => by simp [iter] at h
  | k + 1, c, e, e', g, g', a, o, hn, S, h, hQ, hno => by
    simp only [iter] at h
    rw [rounds_succ]
    split at h
    · rename_i e1 g1 h1
      exact hf hn S h1 fun c1 a1 E1 S1 => rounds_wp hf k (E1.num.trans hn) S1 h (fun c' a' E' S' => hQ c' a' (E1.trans E') S') hno
    · refine hf hn S h fun c1 a1 E1 S1 => ?_
      have := hQ c1 a1 E1 S1
      cases o with
      | nrm => exact (hno rfl).elim
      | ext n => exact this
      | ret => exact this
theorem iter_out {f : Env → G → Option (Out × Env × G)} : ∀ (k : Nat) {e e' : Env} {g g' : G} {o : Out}, iter f k e g = some (o, e', g') → o = .nrm → False
  | 0, _, _, _, _, _, h, _ => by simp [iter] at h
  | k + 1, e, e', g, g', o, h, ho => by
    simp only [iter] at h
    split at h
    · exact iter_out k h ho
    · rename_i hne
      subst ho
      exact hne _ _ h
theorem code_wp {num : Nat → Nat} (hcall : CallOk P num call) (hk : CallKeep call) (hm : P.follows .mixedOrders = true) (k : Nat) : ∀ (ac : ACode) {cd : Code} {Q : Exit → Act → World → Prop} {c : Cx} {e e' : Env} {g g' : G} {a : Act} {o : Out},
    codeB P num N cd ac = true → c.num = num → St N c e g a → codeE call k ac e g = some (o, e', g') → (∀ c' a', Evo c c' → St N c' e' g' a' → Q (exOf o) a' c'.w) → cd.wp P Q a c.w
  | .skip, cd, Q, c, e, e', g, g', a, o, hb, hn, S, h, hQ => by
    cases cd <;> simp only [codeB, Bool.false_eq_true] at hb
    simp only [codeE] at h; cases h
    exact wp_skip (hQ c a (Evo.refl c) S)
  | .reg d aos, cd, Q, c, e, e', g, g', a, o, hb, hn, S, h, hQ => by
    cases cd <;> simp only [codeB, Bool.false_eq_true] at hb
    simp only [Bool.and_eq_true, beq_iff_eq] at hb
    obtain ⟨rfl, hb⟩ := hb
    simp only [codeE] at h
    split at h
    · rename_i e1 g1 h1
      cases h
      exact region_wp hcall hk hm hb hn S h1 hQ
    · cases h
  | .seq x y, cd, Q, c, e, e', g, g', a, o, hb, hn, S, h, hQ => by
    cases cd <;> simp only [codeB, Bool.false_eq_true] at hb
    simp only [Bool.and_eq_true] at hb
    simp only [codeE] at h
    refine wp_seq ?_
    split at h
    · rename_i e1 g1 h1
      exact code_wp hcall hk hm k x hb.1 hn S h1 fun c1 a1 E1 S1 => code_wp hcall hk hm k y hb.2 (E1.num.trans hn) S1 h fun c' a' E' S' => hQ c' a' (E1.trans E') S'
    · rename_i hne
      refine code_wp hcall hk hm k x hb.1 hn S h fun c1 a1 E1 S1 => ?_
      have := hQ c1 a1 E1 S1
      cases o with
      | nrm => exact (hne _ _ h).elim
      | ext n => exact this
      | ret => exact this
  | .cond x t f, cd, Q, c, e, e', g, g', a, o, hb, hn, S, h, hQ => by
    cases cd <;> simp only [codeB, Bool.false_eq_true] at hb
    simp only [Bool.and_eq_true] at hb
    obtain ⟨⟨h1, h2⟩, h3⟩ := hb
    have hr := opdB_rep S.env (hn ▸ h1)
    simp only [codeE] at h
    split at h
    · rename_i b hx
      rw [hx] at hr
      refine wp_cond (t := b) (by
        generalize a.eval _ = u at hr
        cases hr; rfl) ?_
      cases b with
      | true =>
        simp only [if_true] at h ⊢
        exact code_wp hcall hk hm k t h2 hn S h hQ
      | false =>
        simp only [Bool.false_eq_true, if_false] at h ⊢
        exact code_wp hcall hk hm k f h3 hn S h hQ
    · cases h
  | .blk i x, cd, Q, c, e, e', g, g', a, o, hb, hn, S, h, hQ => by
    cases cd <;> simp only [codeB, Bool.false_eq_true] at hb
    simp only [Bool.and_eq_true, beq_iff_eq] at hb
    obtain ⟨rfl, hb⟩ := hb
    simp only [codeE] at h
    refine wp_block ?_
    split at h
    · rename_i n e1 g1 h1
      cases h
      refine code_wp hcall hk hm k x hb hn S h1 fun c1 a1 E1 S1 => ?_
      have := hQ c1 a1 E1 S1
      show if _ then _ else _
      split
      · rename_i hni; rw [if_pos hni] at this; exact this
      · rename_i hni; rw [if_neg hni] at this; exact this
    · rename_i hne
      refine code_wp hcall hk hm k x hb hn S h fun c1 a1 E1 S1 => ?_
      have := hQ c1 a1 E1 S1
      cases o with
      | nrm => exact this
      | ext n => exact (hne _ _ _ h).elim
      | ret => exact this
  | .scp x, cd, Q, c, e, e', g, g', a, o, hb, hn, S, h, hQ => by
    cases cd <;> simp only [codeB, Bool.false_eq_true] at hb
    simp only [codeE] at h
    refine wp_scope_straight (code_wp hcall hk hm k x hb hn S h fun c1 a1 E1 S1 => ?_)
    have := hQ c1 a1 E1 S1
    cases o <;> exact this
  | .lab, cd, Q, c, e, e', g, g', a, o, hb, hn, S, h, hQ => by
    cases cd <;> simp only [codeB, Bool.false_eq_true] at hb
    simp only [codeE] at h; cases h
    exact wp_label (hQ c a (Evo.refl c) S)
  | .imm t x, cd, Q, c, e, e', g, g', a, o, hb, hn, S, h, hQ => by
    have hb : codeB P num N cd x = true := by cases cd <;> simpa only [codeB] using hb
    simp only [codeE] at h
    split at h
    · rename_i v hv
      have E := Evo.lock c (vis g.hp depth (e t))
      have S1 := S.lock (vis g.hp depth (e t))
      have hr := frz_rep S.ok (hp := g.hp) (ids := vis g.hp depth (e t)) (fun i b hib => by rw [S.hp]; exact hib) depth hv (fun _ h => h) (S.env t)
      have S2 : St N (c.lock (vis g.hp depth (e t))) (upd e t v) ⟨Ab.lock g.hp (vis g.hp depth (e t)), g.nx⟩ a := by
        refine ⟨fun t' => ?_, S1.ok, S1.hp, S1.size, S1.defers⟩
        unfold upd
        split
        · rename_i ht; subst ht; exact hr.up
        · exact S1.env t'
      exact code_wp hcall hk hm k x (c := c.lock (vis g.hp depth (e t))) hb (E.num.trans hn) S2 h fun c1 a1 E1 S1 => hQ c1 a1 (E.trans E1) S1
    · cases h
  | .lck t x, cd, Q, c, e, e', g, g', a, o, hb, hn, S, h, hQ => by
    have hb : codeB P num N cd x = true := by cases cd <;> simpa only [codeB] using hb
    simp only [codeE] at h
    have E := Evo.lock c (vis g.hp depth (e t))
    exact code_wp hcall hk hm k x (c := c.lock (vis g.hp depth (e t))) hb (E.num.trans hn) (S.lock _) h fun c1 a1 E1 S1 => hQ c1 a1 (E.trans E1) S1
  | .loop x, cd, Q, c, e, e', g, g', a, o, hb, hn, S, h, hQ => by
    cases cd <;> simp only [codeB, Bool.false_eq_true] at hb
    simp only [codeE] at h
    exact wp_loop_rounds k (rounds_wp (fun hn S h hQ => code_wp hcall hk hm k x hb hn S h hQ) k hn S h hQ (iter_out k h))
  | .ext i, cd, Q, c, e, e', g, g', a, o, hb, hn, S, h, hQ => by
    cases cd <;> simp only [codeB, Bool.false_eq_true] at hb
    simp only [beq_iff_eq] at hb
    subst hb
    simp only [codeE] at h; cases h
    exact wp_exit (hQ c a (Evo.refl c) S)
  | .ret, cd, Q, c, e, e', g, g', a, o, hb, hn, S, h, hQ => by
    cases cd <;> simp only [codeB, Bool.false_eq_true] at hb
    simp only [codeE] at h; cases h
    exact wp_ret (hQ c a (Evo.refl c) S)
end
def resB (P : Program) : List ResultVar → List ARes → Bool
  | [], [] => true
  | .tmp t :: rs, .t t' :: rs' => (t == t') && resB P rs rs'
  | .cell a t :: rs, .cell a' agg :: rs' => (a == a') && aggB P t agg && resB P rs rs'
  | _, _ => false
def funB (P : Program) (nm : Nat → Nat) (fn : Func) (A : AFun) : Bool :=
  (match fn.body with
   | some cd => codeB P nm fn.ntmps cd A.body
   | none => false) && resB P fn.results.toList A.res && !(fn.name == "runtime.NumGoroutine")
def resVar (tmps : Array Value) : ResultVar → Sem Value
  | .tmp t => pure (tmps.getD t undef)
  | .cell a t => do loadVar t (← asAddr (tmps.getD a undef))
theorem results_eq (fn : Func) (tmps : Array Value) : results fn tmps = (fn.results.mapM (resVar tmps) >>= fun vs => pure (if h : vs.size = 1 then vs[0] else .tuple vs)) := by
  unfold results
  congr 1
theorem resB_ok {P : Program} {c : Cx} {e : Env} {a : Act} {g : G} (he : EnvOk c e a) (K : Ok c g.nx) (hg : c.hp = g.hp) : ∀ {rs : List ResultVar} {asx : List ARes} {vs : List AV}, resB P rs asx = true → resAll e g asx = some vs → ∃ us : List Value, (rs.mapM (resVar a.tmps)).run P c.w = .ok us c.w ∧ Reps c true vs us
  | [], [], vs, _, h => by
    simp only [resAll] at h; cases h
    exact ⟨[], rfl, Reps.nil⟩
  | .tmp t :: rs, .t t' :: asx, vs, hb, h => by
    simp only [resB, Bool.and_eq_true, beq_iff_eq] at hb
    obtain ⟨rfl, hb⟩ := hb
    simp only [resAll, resOne] at h
    split at h
    · rename_i v vs' h1 h2
      cases h1; cases h
      obtain ⟨us, hu, hr⟩ := resB_ok he K hg hb h2
      refine ⟨a.tmps.getD t undef :: us, ?_, Reps.cons (he t) hr⟩
      rw [List.mapM_cons, Sem.run_bind]
      show Result.andThen (.ok (a.tmps.getD t undef) c.w) _ = _
      rw [Result.andThen_ok, Sem.run_bind, hu]
      rfl
    · cases h
  | .cell q t :: rs, .cell q' agg :: asx, vs, hb, h => by
    simp only [resB, Bool.and_eq_true, beq_iff_eq] at hb
    obtain ⟨⟨rfl, hagg⟩, hb⟩ := hb
    simp only [resAll] at h
    split at h
    · rename_i v vs' h1 h2
      cases h
      obtain ⟨us, hu, hr⟩ := resB_ok he K hg hb h2
      simp only [resOne] at h1
      split at h1
      · rename_i b off hq
        split at h1
        · rename_i cs ro hbk
          have hrq := he q
          rw [hq] at hrq
          have hv := rep_mp hrq
          have hbk' : c.hp b = some (.cells cs ro) := by rw [hg]; exact hbk
          obtain ⟨_, ws, ty, g2, g3, _⟩ := K.cells b cs ro hbk'
          obtain ⟨val, hrun, hval⟩ := run_loadVar_ab (P := P) (w := c.w) hagg g3 h1 (ad := ⟨(c.loc b).1, off, none⟩) (fun j u hu => by rw [add_mk, cell_of_heap g2]; simpa using hu)
          refine ⟨val :: us, ?_, Reps.cons hval hr⟩
          have hone : (resVar a.tmps (.cell q t)).run P c.w = .ok val c.w := by
            simp only [resVar, hv]
            exact hrun
          rw [List.mapM_cons, Sem.run_bind, hone, Result.andThen_ok, Sem.run_bind, hu]
          rfl
        · cases h1
      · cases h1
    · cases h
  | [], _ :: _, _, h, _ => by simp [resB] at h
  | .tmp _ :: _, [], _, h, _ => by simp [resB] at h
  | .tmp _ :: _, .cell _ _ :: _, _, h, _ => by simp [resB] at h
  | .cell _ _ :: _, [], _, h, _ => by simp [resB] at h
  | .cell _ _ :: _, .t _ :: _, _, h, _ => by simp [resB] at h
theorem res_ok {P : Program} {c : Cx} {e : Env} {a : Act} {g : G} (he : EnvOk c e a) (K : Ok c g.nx) (hg : c.hp = g.hp) {fn : Func} {asx : List ARes} {v : AV} (hb : resB P fn.results.toList asx = true) (h : resE asx e g = some v) : ∃ u, (results fn a.tmps).run P c.w = .ok u c.w ∧ Rep c true v u := by
  unfold resE at h
  have key : ∀ vs, resAll e g asx = some vs → ∃ us : List Value, (results fn a.tmps).run P c.w = .ok (if h : us.toArray.size = 1 then us.toArray[0] else .tuple us.toArray) c.w ∧ Reps c true vs us := by
    intro vs hv
    obtain ⟨us, hu, hr⟩ := resB_ok (P := P) he K hg hb hv
    refine ⟨us, ?_, hr⟩
    rw [results_eq, Array.mapM_eq_mapM_toList, Sem.run_bind, Sem.run_map, hu]
    rfl
  split at h
  · rename_i v' hv
    cases h
    obtain ⟨us, hu, hr⟩ := key _ hv
    obtain ⟨u, us', rfl, h1, h2⟩ := Reps.cons_inv hr
    have := Reps.nil_inv h2
    subst this
    exact ⟨u, by simpa using hu, h1⟩
  · rename_i vs hne hv
    cases h
    obtain ⟨us, hu, hr⟩ := key _ hv
    refine ⟨_, hu, ?_⟩
    rw [dif_neg]
    · exact .tup us hr.1 hr.2
    · intro hs
      have hl : vs.length = 1 := by rw [hr.1]; simpa using hs
      match vs, hl, hne with
      | [v], _, hne => exact hne v rfl
  · cases h
theorem argEnv_ok {c : Cx} {asx : List AV} {vs : List Value} (h : Reps c true asx vs) (n : Nat) : EnvOk c (argEnv asx) { tmps := vs.toArray ++ Array.replicate n undef, defers := [] } := by
  intro t
  unfold argEnv
  rw [List.getD_eq_getElem?_getD]
  show Rep c true _ ((vs.toArray ++ Array.replicate n undef).getD t undef)
  rw [Array.getD_eq_getD_getElem?, Array.getElem?_append]
  by_cases ht : t < vs.length
  · rw [if_pos (by simpa using ht)]
    have ht' : t < asx.length := by rw [h.1]; exact ht
    rw [List.getElem?_eq_getElem ht', List.getElem?_toArray, List.getElem?_eq_getElem ht]
    exact h.2 t _ _ (List.getElem?_eq_getElem ht') (List.getElem?_eq_getElem ht)
  · rw [if_neg (by simpa using ht), List.getElem?_eq_none (by have := h.1; omega)]
    rw [Array.getElem?_replicate]
    split <;> exact .undef
def Table (P : Program) (num : Nat → Nat) (F : Funs) : Prop := ∀ f A, F f = some A → ∃ fn, P.funcs[num f]? = some fn ∧ funB P num fn A = true
theorem callE_ok {P : Program} {num : Nat → Nat} {F : Funs} (hT : Table P num F) (hm : P.follows .mixedOrders = true) : ∀ k, CallKeep (callE F k) ∧ CallOk P num (callE F k)
  | 0 => ⟨fun f asx g v g' h => by simp [callE] at h, fun f asx g v g' h => by simp [callE] at h⟩
  | k + 1 => by
    obtain ⟨hk, hcall⟩ := callE_ok hT hm k
    have keep : CallKeep (callE F (k + 1)) := by
      intro f asx g v g' h
      simp only [callE] at h
      split at h
      · cases h
      · rename_i fn hF
        split at h
        · rename_i e1 g1 h1
          have := codeE_keep hk k _ h1
          cases hr : resE fn.res e1 g1 with
          | none => rw [hr] at h; cases h
          | some x => rw [hr] at h; cases h; exact this
        · rename_i e1 g1 h1
          have := codeE_keep hk k _ h1
          cases hr : resE fn.res e1 g1 with
          | none => rw [hr] at h; cases h
          | some x => rw [hr] at h; cases h; exact this
        · cases h
    refine ⟨keep, fun f asx g v g' h => ⟨keep f asx g v g' h, fun c vargs hn hg K hr => ?_⟩⟩
    simp only [callE] at h
    split at h
    · cases h
    · rename_i A hF
      obtain ⟨fn, hfn, hb⟩ := hT f A hF
      simp only [funB, Bool.and_eq_true, Bool.not_eq_true'] at hb
      obtain ⟨⟨hb1, hb2⟩, hb3⟩ := hb
      split at hb1
      · rename_i cd hbody
        refine ⟨?_, fn, hfn, by rw [hbody]; rfl, hb3⟩
        have S : St fn.ntmps c (argEnv asx) g { tmps := vargs.toArray ++ Array.replicate (fn.ntmps - vargs.toArray.size) undef, defers := [] } :=
          ⟨argEnv_ok hr _, K, hg, by simp; omega, rfl⟩
        have fin : ∀ o e1 g1, (o = .nrm ∨ o = .ret) → codeE (callE F k) k A.body (argEnv asx) g = some (o, e1, g1) → (resE A.res e1 g1).map (·, g1) = some (v, g') → Calls P (num f) vargs.toArray c.w (fun en w' => ∃ val c', en = .returned val ∧ c'.w = w' ∧ Evo c c' ∧ Ok c' g'.nx ∧ c'.hp = g'.hp ∧ Rep c' true v val) := by
          intro o e1 g1 ho h1 h2
          cases hre : resE A.res e1 g1 with
          | none => rw [hre] at h2; cases h2
          | some x =>
            rw [hre] at h2; cases h2
            refine calls_of_wp hfn hbody (code_wp hcall hk hm k A.body hb1 hn S h1 fun c' a' E S' => ?_)
            obtain ⟨u, hu, hru⟩ := res_ok (P := P) S'.env S'.ok S'.hp hb2 hre
            have : a'.defers = [] ∧ ∃ v', (results fn a'.tmps).run P c'.w = .ok v' c'.w ∧ (fun (en : Ending) (w' : World) => ∃ val c'', en = .returned val ∧ c''.w = w' ∧ Evo c c'' ∧ Ok c'' g'.nx ∧ c''.hp = g'.hp ∧ Rep c'' true v val) (.returned v') c'.w :=
              ⟨S'.defers, u, hu, u, c', rfl, rfl, E, S'.ok, S'.hp, hru⟩
            rcases ho with rfl | rfl
            · exact this
            · exact this
        split at h
        · rename_i e1 g1 h1; exact fin .nrm e1 g1 (.inl rfl) h1 h
        · rename_i e1 g1 h1; exact fin .ret e1 g1 (.inr rfl) h1 h
        · cases h
      · cases hb1
end Go.Ab
end
section
namespace Go.Ab
def A_cmp_Compare_int : AFun := { res := [.t 4], body := (.seq (.reg false [{ dst := some 4, op := .mv (.c (.i .i64 0)) }])
 (.seq (.reg false [{ dst := some 7, op := .mv (.t 0) },
  { dst := some 8, op := .call .pure (.c (.fn 266 [] [])) [.t 7] },
  { dst := some 5, op := .mv (.t 8) }])
 (.seq (.reg false [{ dst := some 9, op := .mv (.t 1) },
  { dst := some 10, op := .call .pure (.c (.fn 266 [] [])) [.t 9] },
  { dst := some 6, op := .mv (.t 10) }])
 (.seq (.seq (.reg false [{ dst := some 11, op := .mv (.t 5) }])
 (.cond (.t 11) (.seq (.seq (.reg false [{ dst := some 12, op := .mv (.t 6) }])
 (.cond (.t 12) (.seq (.reg false [{ dst := some 4, op := .mv (.c (.i .i64 0)) }])
 .ret)
 .skip))
 (.seq (.reg false [{ dst := some 4, op := .mv (.c (.i .i64 (-1))) }])
 .ret))
 .skip))
 (.seq (.seq (.reg false [{ dst := some 13, op := .mv (.t 6) }])
 (.cond (.t 13) (.seq (.reg false [{ dst := some 4, op := .mv (.c (.i .i64 1)) }])
 .ret)
 .skip))
 (.seq (.seq (.reg false [{ dst := some 14, op := .mv (.t 0) },
  { dst := some 15, op := .mv (.t 1) },
  { dst := some 16, op := .bin .lss (.t 14) (.t 15) }])
 (.cond (.t 16) (.seq (.reg false [{ dst := some 4, op := .mv (.c (.i .i64 (-1))) }])
 .ret)
 .skip))
 (.seq (.seq (.reg false [{ dst := some 17, op := .mv (.t 0) },
  { dst := some 18, op := .mv (.t 1) },
  { dst := some 19, op := .bin .gtr (.t 17) (.t 18) }])
 (.cond (.t 19) (.seq (.reg false [{ dst := some 4, op := .mv (.c (.i .i64 1)) }])
 .ret)
 .skip))
 (.seq (.reg false [{ dst := some 4, op := .mv (.c (.i .i64 0)) }])
 .ret)))))))) }
def A_cmp_Or_int : AFun := { res := [.t 2], body := (.seq (.reg false [{ dst := some 2, op := .mv (.c (.i .i64 0)) }])
 (.seq (.reg false [{ dst := some 3, op := .mv (.c (.i .i64 0)) }])
 (.seq (.seq (.reg false [{ dst := some 6, op := .mv (.t 0) },
  { dst := some 7, op := .len (.t 6) },
  { dst := some 8, op := .mv (.c (.i .i64 0)) }])
 (.blk 0 (.loop (.seq (.reg false [{ dst := some 9, op := .bin .lss (.t 8) (.t 7) }])
 (.seq (.cond (.t 9) .skip
 (.ext 0))
 (.seq (.blk 1 (.seq (.reg false [{ dst := some 10, op := .ia 1 (.t 6) (.t 8) },
  { dst := some 11, op := .ld none (.t 10) },
  { dst := some 5, op := .mv (.t 11) }])
 (.seq (.reg false [{ dst := some 12, op := .mv (.t 5) },
  { dst := some 13, op := .mv (.t 3) },
  { dst := some 14, op := .bin .neq (.t 12) (.t 13) }])
 (.cond (.t 14) (.seq (.reg false [{ dst := some 15, op := .mv (.t 5) },
  { dst := some 2, op := .mv (.t 15) }])
 .ret)
 .skip))))
 (.reg false [{ dst := some 16, op := .bin .add (.t 8) (.c (.i .i64 1)) },
  { dst := some 8, op := .mv (.t 16) }])))))))
 (.seq (.reg false [{ dst := some 17, op := .mv (.t 3) },
  { dst := some 2, op := .mv (.t 17) }])
 .ret)))) }
def A_cmp_isNaN_int : AFun := { res := [.t 2], body := (.seq (.reg false [{ dst := some 2, op := .mv (.c (.b false)) }])
 (.seq (.reg false [{ dst := some 3, op := .mv (.t 0) },
  { dst := some 4, op := .mv (.t 0) },
  { dst := some 5, op := .bin .neq (.t 3) (.t 4) },
  { dst := some 2, op := .mv (.t 5) }])
 .ret)) }
structure Pk_cmp (F : Funs) : Prop where
  cmp_Compare_int : F 248 = some A_cmp_Compare_int
  cmp_Or_int : F 249 = some A_cmp_Or_int
  cmp_isNaN_int : F 266 = some A_cmp_isNaN_int
end Go.Ab
end
section
namespace Go.Ab
def A_eco_Inner : AFun := { res := [.t 4], body := (.seq (.reg false [{ dst := some 2, op := .box (.t 0) },
  { dst := some 4, op := .mv (.c (.nilp)) }])
 (.seq (.reg false [{ dst := some 5, op := .ld (some 8) (.t 2) },
  { dst := some 6, op := .mv (.t 1) },
  { dst := some 7, op := .call .pure (.c (.fn 57 [] [])) [.t 5, .t 6, .c (.fn 58 [] [])] },
  { dst := some 4, op := .mv (.t 7) }])
 .ret)) }
def A_eco_Outer : AFun := { res := [.t 4], body := (.seq (.reg false [{ dst := some 2, op := .box (.t 0) },
  { dst := some 4, op := .mv (.c (.nilp)) }])
 (.seq (.reg false [{ dst := some 5, op := .ld (some 8) (.t 2) },
  { dst := some 6, op := .mv (.t 1) },
  { dst := some 7, op := .call .pure (.c (.fn 57 [] [])) [.t 5, .t 6, .c (.fn 59 [] [])] },
  { dst := some 4, op := .mv (.t 7) }])
 .ret)) }
def A_eco_Loc : AFun := { res := [.t 2], body := (.seq (.reg false [{ dst := some 1, op := .box (.t 0) },
  { dst := some 2, op := .mv (.c (.nilp)) }])
 (.seq (.reg true [{ dst := some 3, op := .ld (some 8) (.t 1), pre := [] },
  { dst := some 4, op := .ld (some 8) (.t 1), pre := [] },
  { dst := some 5, op := .call .pure (.c (.fn 60 [] [])) [.t 4], pre := [] },
  { dst := some 6, op := .call .pure (.c (.fn 57 [] [])) [.t 3, .t 5, .c (.fn 61 [] [])], pre := [] },
  { dst := some 2, op := .mv (.t 6) }])
 .ret)) }
def A_eco_Eco : AFun := { res := [.t 2], body := (.seq (.reg false [{ dst := some 1, op := .box (.t 0) },
  { dst := some 2, op := .mv (.c (.nilp)) }])
 (.seq (.reg true [{ dst := some 3, op := .ld (some 8) (.t 1), pre := [] },
  { dst := some 4, op := .call .pure (.c (.fn 48 [] [])) [.t 3], pre := [] },
  { dst := some 5, op := .ld (some 8) (.t 1), pre := [] },
  { dst := some 6, op := .call .pure (.c (.fn 49 [] [])) [.t 5], pre := [] },
  { dst := some 7, op := .call .pure (.c (.fn 24 [] [])) [.t 4, .t 6], pre := [] },
  { dst := some 8, op := .ld (some 8) (.t 1), pre := [] },
  { dst := some 9, op := .call .pure (.c (.fn 50 [] [])) [.t 8], pre := [] },
  { dst := some 10, op := .call .pure (.c (.fn 24 [] [])) [.t 7, .t 9], pre := [] },
  { dst := some 11, op := .call .pure (.c (.fn 12 [] [])) [.t 10], pre := [] },
  { dst := some 2, op := .mv (.t 11) }])
 .ret)) }
def A_eco_Rf : AFun := { res := [.t 2], body := (.seq (.reg false [{ dst := some 1, op := .box (.t 0) },
  { dst := some 2, op := .mv (.c (.nilp)) }])
 (.seq (.reg false [{ dst := some 3, op := .ld (some 8) (.t 1) },
  { dst := some 4, op := .call .pure (.c (.fn 80 [] [])) [.t 3, .c (.s ⟨#[114, 102]⟩)] },
  { dst := some 2, op := .mv (.t 4) }])
 .ret)) }
def A_eco_Co : AFun := { res := [.t 2], body := (.seq (.reg false [{ dst := some 1, op := .box (.t 0) },
  { dst := some 2, op := .mv (.c (.nilp)) }])
 (.seq (.reg false [{ dst := some 3, op := .ld (some 8) (.t 1) },
  { dst := some 4, op := .call .pure (.c (.fn 80 [] [])) [.t 3, .c (.s ⟨#[99, 111]⟩)] },
  { dst := some 2, op := .mv (.t 4) }])
 .ret)) }
def A_eco_Fr : AFun := { res := [.t 2], body := (.seq (.reg false [{ dst := some 1, op := .box (.t 0) },
  { dst := some 2, op := .mv (.c (.nilp)) }])
 (.seq (.reg false [{ dst := some 3, op := .ld (some 8) (.t 1) },
  { dst := some 4, op := .call .pure (.c (.fn 80 [] [])) [.t 3, .c (.s ⟨#[102, 114]⟩)] },
  { dst := some 2, op := .mv (.t 4) }])
 .ret)) }
def A_eco_some : AFun := { res := [.t 6], body := (.seq (.reg false [{ dst := some 3, op := .box (.t 0) },
  { dst := some 6, op := .mv (.c (.nilp)) }])
 (.seq (.reg false [{ dst := some 7, op := .mv (.c (.sl [] 0 .rig)) }])
 (.seq (.seq (.reg false [{ dst := some 10, op := .mv (.t 1) },
  { dst := some 11, op := .call .pure (.c (.fn 15 [] [])) [.t 10] },
  { dst := some 12, op := .len (.t 11) },
  { dst := some 13, op := .mv (.c (.i .i64 0)) }])
 (.blk 0 (.loop (.seq (.reg false [{ dst := some 14, op := .bin .lss (.t 13) (.t 12) }])
 (.seq (.cond (.t 14) .skip
 (.ext 0))
 (.seq (.blk 1 (.seq (.reg false [{ dst := some 15, op := .ia 2 (.t 11) (.t 13) },
  { dst := some 16, op := .ld (some 2) (.t 15) },
  { dst := some 9, op := .new ([.i .i64 0, .i .i64 0]) },
  { dst := none, op := .st 2 (.t 9) (.t 16) }])
 (.seq (.reg true [{ dst := some 17, op := .fa 0 (.t 9) },
  { dst := some 18, op := .ld none (.t 17), pre := [] },
  { dst := some 19, op := .fa 1 (.t 3) },
  { dst := some 20, op := .ld none (.t 19), pre := [] },
  { dst := some 21, op := .len (.t 20) },
  { dst := some 22, op := .bin .lss (.t 18) (.t 21) },
  { dst := some 23, op := .mv (.t 22) },
  { dst := some 24, op := .fa 1 (.t 9), grd := some (23, true) },
  { dst := some 25, op := .ld none (.t 24), grd := some (23, true), pre := [] },
  { dst := some 26, op := .fa 1 (.t 3), grd := some (23, true) },
  { dst := some 27, op := .ld none (.t 26), grd := some (23, true), pre := [] },
  { dst := some 28, op := .len (.t 27), grd := some (23, true) },
  { dst := some 29, op := .bin .lss (.t 25) (.t 28), grd := some (23, true) },
  { dst := some 30, op := .pick (.t 23) (.t 29) (.c (.b false)) },
  { dst := some 31, op := .mv (.t 30) },
  { dst := some 32, op := .mv (.t 2), grd := some (31, true) },
  { dst := some 33, op := .fa 1 (.t 3), grd := some (31, true) },
  { dst := some 34, op := .ld none (.t 33), grd := some (31, true), pre := [] },
  { dst := some 35, op := .fa 0 (.t 9), grd := some (31, true) },
  { dst := some 36, op := .ld none (.t 35), grd := some (31, true), pre := [] },
  { dst := some 37, op := .ia 6 (.t 34) (.t 36), grd := some (31, true) },
  { dst := some 38, op := .ld (some 6) (.t 37), grd := some (31, true), pre := [] },
  { dst := some 39, op := .fa 1 (.t 3), grd := some (31, true) },
  { dst := some 40, op := .ld none (.t 39), grd := some (31, true), pre := [] },
  { dst := some 41, op := .fa 1 (.t 9), grd := some (31, true) },
  { dst := some 42, op := .ld none (.t 41), grd := some (31, true), pre := [] },
  { dst := some 43, op := .ia 6 (.t 40) (.t 42), grd := some (31, true) },
  { dst := some 44, op := .ld (some 6) (.t 43), grd := some (31, true), pre := [] },
  { dst := some 45, op := .call .pure (.t 32) [.t 38, .t 44], grd := some (31, true), pre := [] },
  { dst := some 46, op := .pick (.t 31) (.t 45) (.c (.b false)) }])
 (.cond (.t 46) (.reg false [{ dst := some 47, op := .mv (.t 7) },
  { dst := some 48, op := .ld (some 2) (.t 9) },
  { dst := some 49, op := .bsl true 1 ([.i .i64 0, .i .i64 0]) [(0, 2, .t 48)] },
  { dst := some 50, op := .app 2 16 (.t 47) (.t 49) },
  { dst := some 7, op := .mv (.t 50) }])
 .skip))))
 (.reg false [{ dst := some 51, op := .bin .add (.t 13) (.c (.i .i64 1)) },
  { dst := some 13, op := .mv (.t 51) }])))))))
 (.seq (.reg false [{ dst := some 52, op := .ld (some 8) (.t 3) },
  { dst := some 53, op := .mv (.t 7) },
  { dst := some 54, op := .call .pure (.c (.fn 81 [] [])) [.t 52, .t 53] },
  { dst := some 6, op := .mv (.t 54) }])
 .ret)))) }
def A_eco_Inner_1 : AFun := { res := [.t 4], body := (.seq (.reg false [{ dst := some 2, op := .box (.t 0) },
  { dst := some 3, op := .box (.t 1) },
  { dst := some 4, op := .mv (.c (.b false)) }])
 (.seq (.reg false [{ dst := some 5, op := .fa 0 (.t 2) },
  { dst := some 6, op := .ld none (.t 5) },
  { dst := some 7, op := .fa 0 (.t 3) },
  { dst := some 8, op := .ld none (.t 7) },
  { dst := some 9, op := .bin .eql (.t 6) (.t 8) },
  { dst := some 4, op := .mv (.t 9) }])
 .ret)) }
def A_eco_Outer_1 : AFun := { res := [.t 4], body := (.seq (.reg false [{ dst := some 2, op := .box (.t 0) },
  { dst := some 3, op := .box (.t 1) },
  { dst := some 4, op := .mv (.c (.b false)) }])
 (.seq (.reg false [{ dst := some 5, op := .fa 0 (.t 2) },
  { dst := some 6, op := .ld none (.t 5) },
  { dst := some 7, op := .fa 0 (.t 3) },
  { dst := some 8, op := .ld none (.t 7) },
  { dst := some 9, op := .bin .neq (.t 6) (.t 8) },
  { dst := some 4, op := .mv (.t 9) }])
 .ret)) }
def A_eco_Loc_1 : AFun := { res := [.t 4], body := (.seq (.reg false [{ dst := some 2, op := .box (.t 0) },
  { dst := some 3, op := .box (.t 1) },
  { dst := some 4, op := .mv (.c (.b false)) }])
 (.seq (.reg false [{ dst := some 5, op := .fa 1 (.t 2) },
  { dst := some 6, op := .ld none (.t 5) },
  { dst := some 7, op := .bin .neq (.t 6) (.c (.i .i64 3)) },
  { dst := some 8, op := .mv (.t 7) },
  { dst := some 9, op := .fa 1 (.t 3), grd := some (8, true) },
  { dst := some 10, op := .ld none (.t 9), grd := some (8, true) },
  { dst := some 11, op := .bin .neq (.t 10) (.c (.i .i64 3)), grd := some (8, true) },
  { dst := some 12, op := .pick (.t 8) (.t 11) (.c (.b false)) },
  { dst := some 13, op := .mv (.t 12) },
  { dst := some 14, op := .fa 3 (.t 2), grd := some (13, true) },
  { dst := some 15, op := .ld none (.t 14), grd := some (13, true) },
  { dst := some 16, op := .fa 3 (.t 3), grd := some (13, true) },
  { dst := some 17, op := .ld none (.t 16), grd := some (13, true) },
  { dst := some 18, op := .bin .eql (.t 15) (.t 17), grd := some (13, true) },
  { dst := some 19, op := .pick (.t 13) (.t 18) (.c (.b false)) },
  { dst := some 4, op := .mv (.t 19) }])
 .ret)) }
def A_eco_pairs : AFun := { res := [.t 4], body := (.seq (.reg false [{ dst := some 2, op := .box (.t 0) },
  { dst := some 4, op := .mv (.c (.nilp)) }])
 (.seq (.reg false [{ dst := some 5, op := .new ([.sl [] 0 .rig]) }])
 (.seq (.reg false [{ dst := some 12, op := .mkfn 92 [] [.t 5] },
  { dst := some 6, op := .new ([.nilf]) },
  { dst := none, op := .st 1 (.t 6) (.t 12) }])
 (.seq (.reg false [{ dst := some 13, op := .mkfn 93 [] [.t 2, .t 6] },
  { dst := some 7, op := .new ([.nilf]) },
  { dst := none, op := .st 1 (.t 7) (.t 13) }])
 (.seq (.reg false [{ dst := some 14, op := .mkmap },
  { dst := some 15, op := .mkfn 94 [] [.t 6] },
  { dst := none, op := .mput (.t 14) (.c (.s ⟨#[114, 102]⟩)) (.t 15) },
  { dst := some 16, op := .mkfn 95 [] [.t 7] },
  { dst := none, op := .mput (.t 14) (.c (.s ⟨#[99, 111]⟩)) (.t 16) },
  { dst := some 17, op := .mkfn 96 [] [.t 7] },
  { dst := none, op := .mput (.t 14) (.c (.s ⟨#[102, 114]⟩)) (.t 17) },
  { dst := some 18, op := .mv (.t 14) },
  { dst := some 8, op := .mv (.t 18) }])
 (.seq (.seq (.reg false [{ dst := some 19, op := .fa 1 (.t 2) },
  { dst := some 20, op := .ld none (.t 19) },
  { dst := some 21, op := .len (.t 20) },
  { dst := some 22, op := .mv (.c (.i .i64 0)) }])
 (.blk 0 (.loop (.seq (.reg false [{ dst := some 23, op := .bin .lss (.t 22) (.t 21) }])
 (.seq (.cond (.t 23) .skip
 (.ext 0))
 (.seq (.blk 1 (.seq (.reg false [{ dst := some 24, op := .mv (.t 22) },
  { dst := some 25, op := .ia 6 (.t 20) (.t 22) },
  { dst := some 26, op := .ld (some 6) (.t 25) },
  { dst := some 10, op := .new (List.replicate 5 (.i .i64 0) ++ [.b false]) },
  { dst := some 9, op := .mv (.t 24) },
  { dst := none, op := .st 6 (.t 10) (.t 26) }])
 (.seq (.reg false [{ dst := some 11, op := .mv (.c (.i .i64 (-1))) }])
 (.seq (.seq (.reg false [{ dst := some 27, op := .mv (.t 9) },
  { dst := some 28, op := .fa 2 (.t 2) },
  { dst := some 29, op := .ld none (.t 28) },
  { dst := some 30, op := .len (.t 29) },
  { dst := some 31, op := .bin .lss (.t 27) (.t 30) }])
 (.cond (.t 31) (.reg false [{ dst := some 32, op := .fa 2 (.t 2) },
  { dst := some 33, op := .ld none (.t 32) },
  { dst := some 34, op := .mv (.t 9) },
  { dst := some 35, op := .ia 1 (.t 33) (.t 34) },
  { dst := some 36, op := .ld none (.t 35) },
  { dst := some 11, op := .mv (.t 36) }])
 .skip))
 (.reg false [{ dst := some 37, op := .mv (.t 8) },
  { dst := some 38, op := .mv (.t 1) },
  { dst := some 39, op := .mget (.t 37) (.t 38) },
  { dst := some 40, op := .mv (.t 9) },
  { dst := some 41, op := .mv (.t 11) },
  { dst := some 42, op := .ld (some 6) (.t 10) },
  { dst := some 43, op := .call .raw (.t 39) [.t 40, .t 41, .t 42] }])))))
 (.reg false [{ dst := some 44, op := .bin .add (.t 22) (.c (.i .i64 1)) },
  { dst := some 22, op := .mv (.t 44) }])))))))
 (.seq (.reg false [{ dst := some 45, op := .ld (some 8) (.t 2) },
  { dst := some 46, op := .ld none (.t 5) },
  { dst := some 47, op := .call .pure (.c (.fn 81 [] [])) [.t 45, .t 46] },
  { dst := some 4, op := .mv (.t 47) }])
 .ret))))))) }
def A_eco_pairs_1 : AFun := { res := [], body := (.reg false [{ dst := some 5, op := .ld none (.t 2) },
  { dst := some 6, op := .mv (.t 0) },
  { dst := some 7, op := .mv (.t 1) },
  { dst := some 8, op := .build ([.i .i64 0, .i .i64 0]) [(0, 1, .t 6), (1, 1, .t 7)] },
  { dst := some 9, op := .bsl true 1 ([.i .i64 0, .i .i64 0]) [(0, 2, .t 8)] },
  { dst := some 10, op := .app 2 16 (.t 5) (.t 9) },
  { dst := none, op := .st 1 (.t 2) (.t 10) }]) }
def A_eco_pairs_2 : AFun := { res := [], body := (.seq (.reg false [{ dst := some 11, op := .fa 3 (.t 2) },
  { dst := some 12, op := .ld none (.t 11) },
  { dst := some 13, op := .len (.t 12) },
  { dst := some 14, op := .mv (.c (.i .i64 0)) }])
 (.blk 0 (.loop (.seq (.reg false [{ dst := some 15, op := .bin .lss (.t 14) (.t 13) }])
 (.seq (.cond (.t 15) .skip
 (.ext 0))
 (.seq (.blk 1 (.seq (.reg false [{ dst := some 16, op := .ia 1 (.t 12) (.t 14) },
  { dst := some 17, op := .ld none (.t 16) },
  { dst := some 7, op := .mv (.t 17) }])
 (.seq (.reg false [{ dst := some 8, op := .mv (.c (.b false)) }])
 (.seq (.reg false [{ dst := some 18, op := .mv (.t 7) },
  { dst := some 19, op := .len (.t 18) },
  { dst := some 20, op := .mv (.c (.i .i64 0)) }])
 (.blk 2 (.loop (.seq (.reg false [{ dst := some 21, op := .bin .lss (.t 20) (.t 19) }])
 (.seq (.cond (.t 21) .skip
 (.ext 2))
 (.seq (.blk 3 (.seq (.reg false [{ dst := some 22, op := .ia 1 (.t 18) (.t 20) },
  { dst := some 23, op := .ld none (.t 22) },
  { dst := some 10, op := .mv (.t 23) }])
 (.seq (.seq (.reg false [{ dst := some 24, op := .mv (.t 8) }])
 (.cond (.t 24) (.reg false [{ dst := some 25, op := .ld none (.t 3) },
  { dst := some 26, op := .mv (.t 0) },
  { dst := some 27, op := .mv (.t 10) },
  { dst := some 28, op := .call .raw (.t 25) [.t 26, .t 27] }])
 .skip))
 (.reg false [{ dst := some 29, op := .mv (.t 8) },
  { dst := some 30, op := .mv (.t 29) },
  { dst := some 31, op := .mv (.t 10), grd := some (30, false) },
  { dst := some 32, op := .mv (.t 1), grd := some (30, false) },
  { dst := some 33, op := .bin .eql (.t 31) (.t 32), grd := some (30, false) },
  { dst := some 34, op := .pick (.t 30) (.c (.b true)) (.t 33) },
  { dst := some 8, op := .mv (.t 34) }]))))
 (.reg false [{ dst := some 35, op := .bin .add (.t 20) (.c (.i .i64 1)) },
  { dst := some 20, op := .mv (.t 35) }]))))))))))
 (.reg false [{ dst := some 36, op := .bin .add (.t 14) (.c (.i .i64 1)) },
  { dst := some 14, op := .mv (.t 36) }]))))))) }
def A_eco_pairs_3 : AFun := { res := [], body := (.seq (.reg false [{ dst := some 6, op := .box (.t 2) }])
 (.seq (.reg false [{ dst := some 7, op := .fa 1 (.t 6) },
  { dst := some 8, op := .ld none (.t 7) },
  { dst := some 9, op := .bin .eql (.t 8) (.c (.i .i64 1)) }])
 (.cond (.t 9) (.reg false [{ dst := some 10, op := .ld none (.t 3) },
  { dst := some 11, op := .mv (.t 1) },
  { dst := some 12, op := .mv (.t 0) },
  { dst := some 13, op := .call .raw (.t 10) [.t 11, .t 12] }])
 .skip))) }
def A_eco_pairs_4 : AFun := { res := [], body := (.seq (.reg false [{ dst := some 6, op := .box (.t 2) }])
 (.seq (.reg false [{ dst := some 7, op := .fa 1 (.t 6) },
  { dst := some 8, op := .ld none (.t 7) },
  { dst := some 9, op := .bin .eql (.t 8) (.c (.i .i64 2)) }])
 (.cond (.t 9) (.reg false [{ dst := some 10, op := .ld none (.t 3) },
  { dst := some 11, op := .mv (.t 0) },
  { dst := some 12, op := .mv (.t 0) },
  { dst := some 13, op := .call .raw (.t 10) [.t 11, .t 12] }])
 .skip))) }
def A_eco_pairs_5 : AFun := { res := [], body := (.seq (.reg false [{ dst := some 6, op := .box (.t 2) }])
 (.seq (.reg false [{ dst := some 7, op := .fa 1 (.t 6) },
  { dst := some 8, op := .ld none (.t 7) },
  { dst := some 9, op := .bin .eql (.t 8) (.c (.i .i64 1)) }])
 (.cond (.t 9) (.reg false [{ dst := some 10, op := .ld none (.t 3) },
  { dst := some 11, op := .mv (.t 0) },
  { dst := some 12, op := .mv (.t 1) },
  { dst := some 13, op := .call .raw (.t 10) [.t 11, .t 12] }])
 .skip))) }
structure Pk_eco (F : Funs) : Prop where
  eco_Inner : F 39 = some A_eco_Inner
  eco_Outer : F 40 = some A_eco_Outer
  eco_Loc : F 41 = some A_eco_Loc
  eco_Eco : F 42 = some A_eco_Eco
  eco_Rf : F 48 = some A_eco_Rf
  eco_Co : F 49 = some A_eco_Co
  eco_Fr : F 50 = some A_eco_Fr
  eco_some : F 57 = some A_eco_some
  eco_Inner_1 : F 58 = some A_eco_Inner_1
  eco_Outer_1 : F 59 = some A_eco_Outer_1
  eco_Loc_1 : F 61 = some A_eco_Loc_1
  eco_pairs : F 80 = some A_eco_pairs
  eco_pairs_1 : F 92 = some A_eco_pairs_1
  eco_pairs_2 : F 93 = some A_eco_pairs_2
  eco_pairs_3 : F 94 = some A_eco_pairs_3
  eco_pairs_4 : F 95 = some A_eco_pairs_4
  eco_pairs_5 : F 96 = some A_eco_pairs_5
end Go.Ab
end
section
namespace Go.Ab
def A_xlaw00_Place : AFun := { res := [.t 4], body := (.seq (.reg false [{ dst := some 4, op := .mv (.c (.i .i64 0)) }])
 (.seq (.reg false [{ dst := some 6, op := .mv (.t 0) },
  { dst := some 7, op := .mv (.t 1) },
  { dst := some 8, op := .bin .rem (.t 6) (.t 7) },
  { dst := some 5, op := .mv (.t 8) }])
 (.seq (.seq (.reg false [{ dst := some 9, op := .mv (.t 5) },
  { dst := some 10, op := .bin .lss (.t 9) (.c (.i .i64 0)) }])
 (.cond (.t 10) (.reg false [{ dst := some 11, op := .mv (.t 5) },
  { dst := some 12, op := .mv (.t 1) },
  { dst := some 13, op := .bin .add (.t 11) (.t 12) },
  { dst := some 5, op := .mv (.t 13) }])
 .skip))
 (.seq (.reg false [{ dst := some 14, op := .mv (.t 5) },
  { dst := some 4, op := .mv (.t 14) }])
 .ret)))) }
end Go.Ab
end
section
namespace Go.Ab
def A_xlaw12_ImmKnown : AFun := { res := [.t 2], body := (.seq (.reg false [{ dst := some 2, op := .mv (.c (.b false)) }])
 (.seq (.reg false [{ dst := some 3, op := .mv (.c (.fn 158 [] [])) }])
 (.seq (.reg false [{ dst := some 4, op := .mv (.c (.fn 159 [] [])) }])
 (.seq (.reg false [{ dst := some 5, op := .mv (.c (.fn 160 [] [])) }])
 (.seq (.reg false [{ dst := some 9, op := .mv (.t 0) },
  { dst := some 10, op := .call .pure (.c (.fn 10 [] [])) [.t 9, .c (.i .i64 6)] },
  { dst := some 6, op := .mv (.t 10) }])
 (.seq (.reg false [{ dst := some 11, op := .build ([.i .i64 0] ++ List.replicate 7 (.sl [] 0 .rig)) [(0, 1, .c (.i .i64 1))] },
  { dst := some 7, op := .new ([.i .i64 0] ++ List.replicate 7 (.sl [] 0 .rig)) },
  { dst := none, op := .st 8 (.t 7) (.t 11) }])
 (.seq (.seq (.reg false [{ dst := some 12, op := .mv (.t 6) }])
 (.blk 0 (.seq (.seq (.reg false [{ dst := some 30, op := .bin .eql (.t 12) (.c (.i .i64 0)) },
  { dst := some 29, op := .mv (.t 30) }])
 (.cond (.t 29) .skip
 (.reg false [{ dst := some 31, op := .bin .eql (.t 12) (.c (.i .i64 1)) },
  { dst := some 29, op := .mv (.t 31) }])))
 (.cond (.t 29) (.reg false [{ dst := some 32, op := .build (List.replicate 5 (.i .i64 0) ++ [.b false]) [(1, 1, .c (.i .i64 2))] },
  { dst := some 33, op := .mv (.t 3) },
  { dst := some 34, op := .call .pure (.t 33) [.c (.i .i64 1), .c (.i .i64 1)] },
  { dst := some 35, op := .mv (.t 3) },
  { dst := some 36, op := .call .pure (.t 35) [.c (.i .i64 1), .c (.i .i64 2)] },
  { dst := some 37, op := .mv (.t 4) },
  { dst := some 38, op := .mv (.t 6) },
  { dst := some 39, op := .bin .sub (.c (.i .i64 2)) (.t 38) },
  { dst := some 40, op := .call .pure (.t 37) [.c (.i .i64 2), .t 39] },
  { dst := some 41, op := .mv (.t 4) },
  { dst := some 42, op := .mv (.t 6) },
  { dst := some 43, op := .bin .add (.c (.i .i64 1)) (.t 42) },
  { dst := some 44, op := .call .pure (.t 41) [.c (.i .i64 2), .t 43] },
  { dst := some 45, op := .bsl true 5 (List.replicate 5 (.i .i64 0) ++ [.b false] ++ List.replicate 5 (.i .i64 0) ++ [.b false] ++ List.replicate 5 (.i .i64 0) ++ [.b false] ++ List.replicate 5 (.i .i64 0) ++ [.b false] ++ List.replicate 5 (.i .i64 0) ++ [.b false]) [(0, 6, .t 32), (6, 6, .t 34), (12, 6, .t 36), (18, 6, .t 40), (24, 6, .t 44)] },
  { dst := some 46, op := .mv (.t 6) },
  { dst := some 47, op := .bin .sub (.c (.i .i64 2)) (.t 46) },
  { dst := some 48, op := .mv (.t 6) },
  { dst := some 49, op := .bin .add (.c (.i .i64 1)) (.t 48) },
  { dst := some 50, op := .bsl true 5 (List.replicate 5 (.i .i64 0)) [(0, 1, .c (.i .i64 (-1))), (1, 1, .c (.i .i64 (-1))), (2, 1, .c (.i .i64 (-1))), (3, 1, .t 47), (4, 1, .t 49)] },
  { dst := some 51, op := .bsl true 3 ([.i .i64 0, .i .i64 0, .i .i64 0]) [(0, 1, .c (.i .i64 0)), (1, 1, .c (.i .i64 1)), (2, 1, .c (.i .i64 2))] },
  { dst := some 52, op := .bsl true 1 ([.sl [] 0 .rig]) [(0, 1, .t 51)] },
  { dst := some 53, op := .fa 1 (.t 7) },
  { dst := none, op := .st 1 (.t 53) (.t 45) },
  { dst := some 54, op := .fa 2 (.t 7) },
  { dst := none, op := .st 1 (.t 54) (.t 50) },
  { dst := some 55, op := .fa 3 (.t 7) },
  { dst := none, op := .st 1 (.t 55) (.t 52) }])
 (.seq (.seq (.reg false [{ dst := some 57, op := .bin .eql (.t 12) (.c (.i .i64 2)) },
  { dst := some 56, op := .mv (.t 57) }])
 (.cond (.t 56) .skip
 (.reg false [{ dst := some 58, op := .bin .eql (.t 12) (.c (.i .i64 3)) },
  { dst := some 56, op := .mv (.t 58) }])))
 (.cond (.t 56) (.seq (.reg false [{ dst := some 59, op := .build (List.replicate 5 (.i .i64 0) ++ [.b false]) [(1, 1, .c (.i .i64 2))] },
  { dst := some 60, op := .mv (.t 5) },
  { dst := some 61, op := .mv (.t 4) },
  { dst := some 62, op := .call .pure (.t 61) [.c (.i .i64 1), .c (.i .i64 0)] },
  { dst := some 63, op := .call .pure (.t 60) [.t 62] },
  { dst := some 64, op := .mv (.t 5) },
  { dst := some 65, op := .mv (.t 3) },
  { dst := some 66, op := .call .pure (.t 65) [.c (.i .i64 1), .c (.i .i64 1)] },
  { dst := some 67, op := .call .pure (.t 64) [.t 66] },
  { dst := some 68, op := .mv (.t 5) },
  { dst := some 69, op := .mv (.t 4) },
  { dst := some 70, op := .mv (.t 6) },
  { dst := some 71, op := .bin .sub (.t 70) (.c (.i .i64 2)) },
  { dst := some 72, op := .call .pure (.t 69) [.c (.i .i64 2), .t 71] },
  { dst := some 73, op := .call .pure (.t 68) [.t 72] },
  { dst := some 74, op := .mv (.t 5) },
  { dst := some 75, op := .mv (.t 3) },
  { dst := some 76, op := .mv (.t 6) },
  { dst := some 77, op := .bin .sub (.t 76) (.c (.i .i64 1)) },
  { dst := some 78, op := .call .pure (.t 75) [.c (.i .i64 2), .t 77] },
  { dst := some 79, op := .call .pure (.t 74) [.t 78] },
  { dst := some 80, op := .bsl true 5 (List.replicate 5 (.i .i64 0) ++ [.b false] ++ List.replicate 5 (.i .i64 0) ++ [.b false] ++ List.replicate 5 (.i .i64 0) ++ [.b false] ++ List.replicate 5 (.i .i64 0) ++ [.b false] ++ List.replicate 5 (.i .i64 0) ++ [.b false]) [(0, 6, .t 59), (6, 6, .t 63), (12, 6, .t 67), (18, 6, .t 73), (24, 6, .t 79)] },
  { dst := some 81, op := .mv (.t 6) },
  { dst := some 82, op := .bin .sub (.t 81) (.c (.i .i64 2)) },
  { dst := some 83, op := .bin .mul (.c (.i .i64 2)) (.t 82) },
  { dst := some 84, op := .bsl true 5 (List.replicate 5 (.i .i64 0)) [(0, 1, .c (.i .i64 (-1))), (1, 1, .c (.i .i64 0)), (2, 1, .c (.i .i64 (-1))), (3, 1, .t 83), (4, 1, .c (.i .i64 (-1)))] },
  { dst := some 85, op := .bsl true 3 ([.i .i64 0, .i .i64 0, .i .i64 0]) [(0, 1, .c (.i .i64 0)), (1, 1, .c (.i .i64 2)), (2, 1, .c (.i .i64 4))] },
  { dst := some 86, op := .bsl true 1 ([.sl [] 0 .rig]) [(0, 1, .t 85)] },
  { dst := some 87, op := .fa 1 (.t 7) },
  { dst := none, op := .st 1 (.t 87) (.t 80) },
  { dst := some 88, op := .fa 2 (.t 7) },
  { dst := none, op := .st 1 (.t 88) (.t 84) },
  { dst := some 89, op := .fa 3 (.t 7) },
  { dst := none, op := .st 1 (.t 89) (.t 86) }])
 (.seq (.reg false [{ dst := some 90, op := .build ([.i .i64 0, .i .i64 0]) [(0, 1, .c (.i .i64 1)), (1, 1, .c (.i .i64 2))] },
  { dst := some 91, op := .build ([.i .i64 0, .i .i64 0]) [(0, 1, .c (.i .i64 3)), (1, 1, .c (.i .i64 4))] },
  { dst := some 92, op := .bsl true 2 (List.replicate 4 (.i .i64 0)) [(0, 2, .t 90), (2, 2, .t 91)] },
  { dst := some 93, op := .fa 4 (.t 7) },
  { dst := none, op := .st 1 (.t 93) (.t 92) }])
 (.reg false [{ dst := some 94, op := .build ([.i .i64 0, .i .i64 0]) [(0, 1, .c (.i .i64 1)), (1, 1, .c (.i .i64 2))] },
  { dst := some 95, op := .build ([.i .i64 0, .i .i64 0]) [(0, 1, .c (.i .i64 3)), (1, 1, .c (.i .i64 4))] },
  { dst := some 96, op := .bsl true 2 (List.replicate 4 (.i .i64 0)) [(0, 2, .t 94), (2, 2, .t 95)] },
  { dst := some 97, op := .fa 5 (.t 7) },
  { dst := none, op := .st 1 (.t 97) (.t 96) }])))
 (.reg false [{ dst := some 13, op := .build (List.replicate 5 (.i .i64 0) ++ [.b false]) [(1, 1, .c (.i .i64 2))] },
  { dst := some 14, op := .mv (.t 3) },
  { dst := some 15, op := .call .pure (.t 14) [.c (.i .i64 1), .c (.i .i64 1)] },
  { dst := some 16, op := .mv (.t 4) },
  { dst := some 17, op := .mv (.t 6) },
  { dst := some 18, op := .bin .sub (.c (.i .i64 5)) (.t 17) },
  { dst := some 19, op := .call .pure (.t 16) [.c (.i .i64 1), .t 18] },
  { dst := some 20, op := .bsl true 3 (List.replicate 5 (.i .i64 0) ++ [.b false] ++ List.replicate 5 (.i .i64 0) ++ [.b false] ++ List.replicate 5 (.i .i64 0) ++ [.b false]) [(0, 6, .t 13), (6, 6, .t 15), (12, 6, .t 19)] },
  { dst := some 21, op := .mv (.t 6) },
  { dst := some 22, op := .bin .sub (.c (.i .i64 5)) (.t 21) },
  { dst := some 23, op := .bsl true 3 ([.i .i64 0, .i .i64 0, .i .i64 0]) [(0, 1, .c (.i .i64 (-1))), (1, 1, .c (.i .i64 (-1))), (2, 1, .t 22)] },
  { dst := some 24, op := .bsl true 2 ([.i .i64 0, .i .i64 0]) [(0, 1, .c (.i .i64 0)), (1, 1, .c (.i .i64 1))] },
  { dst := some 25, op := .bsl true 1 ([.sl [] 0 .rig]) [(0, 1, .t 24)] },
  { dst := some 26, op := .fa 1 (.t 7) },
  { dst := none, op := .st 1 (.t 26) (.t 20) },
  { dst := some 27, op := .fa 2 (.t 7) },
  { dst := none, op := .st 1 (.t 27) (.t 23) },
  { dst := some 28, op := .fa 3 (.t 7) },
  { dst := none, op := .st 1 (.t 28) (.t 25) }])))))))
 (.seq (.reg false [{ dst := some 98, op := .mv (.t 6) },
  { dst := some 99, op := .bin .eql (.t 98) (.c (.i .i64 1)) },
  { dst := some 100, op := .mv (.t 99) },
  { dst := some 101, op := .mv (.t 6), grd := some (100, false) },
  { dst := some 102, op := .bin .eql (.t 101) (.c (.i .i64 3)), grd := some (100, false) },
  { dst := some 103, op := .pick (.t 100) (.c (.b true)) (.t 102) },
  { dst := some 104, op := .mv (.t 103) },
  { dst := some 105, op := .mv (.t 6), grd := some (104, false) },
  { dst := some 106, op := .bin .eql (.t 105) (.c (.i .i64 4)), grd := some (104, false) },
  { dst := some 107, op := .pick (.t 104) (.c (.b true)) (.t 106) },
  { dst := some 8, op := .mv (.t 107) }])
 (.seq (.reg false [{ dst := some 108, op := .ld (some 8) (.t 7) },
  { dst := some 109, op := .call .pure (.c (.fn 161 [] [])) [.t 108] },
  { dst := some 110, op := .mv (.t 8) },
  { dst := some 111, op := .eqb false (.t 109) (.t 110) },
  { dst := some 112, op := .mv (.t 111) },
  { dst := some 113, op := .mv (.t 8), grd := some (112, true) },
  { dst := some 114, op := .mv (.t 113), grd := some (112, true) },
  { dst := some 115, op := .ld (some 8) (.t 7), grd := some (114, false) },
  { dst := some 116, op := .call .pure (.c (.fn 162 [] [])) [.t 115], grd := some (114, false) },
  { dst := some 117, op := .mv (.t 6), grd := some (114, false) },
  { dst := some 118, op := .bin .neq (.t 117) (.c (.i .i64 2)), grd := some (114, false) },
  { dst := some 119, op := .eqb false (.t 116) (.t 118), grd := some (114, false) },
  { dst := some 120, op := .pick (.t 114) (.c (.b true)) (.t 119), grd := some (112, true) },
  { dst := some 121, op := .pick (.t 112) (.t 120) (.c (.b false)) },
  { dst := some 122, op := .mv (.t 121) },
  { dst := some 123, op := .call .pure (.c (.fn 163 [] [])) [], grd := some (122, true) },
  { dst := some 124, op := .pick (.t 122) (.t 123) (.c (.b false)) },
  { dst := some 2, op := .mv (.t 124) }])
 .ret))))))))) }
def A_xlaw12_ImmFences : AFun := { res := [.t 4], body := (.seq (.reg false [{ dst := some 4, op := .mv (.c (.b false)) }])
 (.seq (.reg false [{ dst := some 10, op := .mv (.t 0) },
  { dst := some 11, op := .call .pure (.c (.fn 10 [] [])) [.t 10, .c (.i .i64 5)] },
  { dst := some 12, op := .mv (.t 1) },
  { dst := some 13, op := .call .pure (.c (.fn 10 [] [])) [.t 12, .c (.i .i64 5)] },
  { dst := some 5, op := .mv (.t 11) },
  { dst := some 6, op := .mv (.t 13) }])
 (.seq (.reg false [{ dst := some 14, op := .build (List.replicate 5 (.i .i64 0) ++ [.b false]) [(1, 1, .c (.i .i64 2))] },
  { dst := some 15, op := .build (List.replicate 5 (.i .i64 0) ++ [.b false]) [(1, 1, .c (.i .i64 2)), (3, 1, .c (.i .i64 1))] },
  { dst := some 16, op := .bsl true 2 (List.replicate 5 (.i .i64 0) ++ [.b false] ++ List.replicate 5 (.i .i64 0) ++ [.b false]) [(0, 6, .t 14), (6, 6, .t 15)] },
  { dst := some 17, op := .bsl true 2 ([.i .i64 0, .i .i64 0]) [(0, 1, .c (.i .i64 (-1))), (1, 1, .c (.i .i64 (-1)))] },
  { dst := some 18, op := .bsl true 1 ([.i .i64 0]) [(0, 1, .c (.i .i64 0))] },
  { dst := some 19, op := .bsl true 1 ([.i .i64 0]) [(0, 1, .c (.i .i64 1))] },
  { dst := some 20, op := .bsl false 2 ([.sl [] 0 .rig, .sl [] 0 .rig]) [(0, 1, .t 18), (1, 1, .t 19)] },
  { dst := some 21, op := .build ([.i .i64 0] ++ List.replicate 7 (.sl [] 0 .rig)) [(0, 1, .c (.i .i64 2)), (1, 1, .t 16), (2, 1, .t 17), (3, 1, .t 20)] },
  { dst := some 7, op := .new ([.i .i64 0] ++ List.replicate 7 (.sl [] 0 .rig)) },
  { dst := none, op := .st 8 (.t 7) (.t 21) }])
 (.seq (.seq (.reg false [{ dst := some 8, op := .mv (.c (.i .i64 0)) }])
 (.blk 0 (.loop (.seq (.seq (.reg false [{ dst := some 22, op := .mv (.t 8) },
  { dst := some 23, op := .bin .lss (.t 22) (.c (.i .i64 2)) }])
 (.cond (.t 23) .skip
 (.ext 0)))
 (.seq (.blk 1 (.seq (.reg false [{ dst := some 26, op := .mv (.t 5) },
  { dst := some 9, op := .mv (.t 26) }])
 (.seq (.seq (.reg false [{ dst := some 27, op := .mv (.t 8) },
  { dst := some 28, op := .bin .eql (.t 27) (.c (.i .i64 1)) }])
 (.cond (.t 28) (.reg false [{ dst := some 29, op := .mv (.t 6) },
  { dst := some 9, op := .mv (.t 29) }])
 .skip))
 (.seq (.reg true [{ dst := some 30, op := .fa 3 (.t 7) },
  { dst := some 31, op := .ld none (.t 30), pre := [] },
  { dst := some 32, op := .mv (.t 8) },
  { dst := some 33, op := .fa 3 (.t 7) },
  { dst := some 34, op := .ld none (.t 33), pre := [] },
  { dst := some 35, op := .mv (.t 8) },
  { dst := some 36, op := .ia 1 (.t 34) (.t 35) },
  { dst := some 37, op := .ld none (.t 36), pre := [] },
  { dst := some 38, op := .fa 1 (.t 7) },
  { dst := some 39, op := .ld none (.t 38), pre := [] },
  { dst := some 40, op := .len (.t 39) },
  { dst := some 41, op := .bsl true 1 ([.i .i64 0]) [(0, 1, .t 40)], pre := [] },
  { dst := some 42, op := .app 1 8 (.t 37) (.t 41), pre := [] },
  { dst := some 43, op := .ia 1 (.t 31) (.t 32) },
  { dst := none, op := .st 1 (.t 43) (.t 42), pre := [12] }])
 (.seq (.reg true [{ dst := some 44, op := .fa 1 (.t 7) },
  { dst := some 45, op := .ld none (.t 44), pre := [] },
  { dst := some 46, op := .mv (.t 8) },
  { dst := some 47, op := .bin .add (.c (.i .i64 1)) (.t 46) },
  { dst := some 48, op := .mv (.t 8) },
  { dst := some 49, op := .build (List.replicate 5 (.i .i64 0) ++ [.b false]) [(0, 1, .t 47), (1, 1, .c (.i .i64 2)), (3, 1, .t 48), (4, 1, .c (.i .i64 1))] },
  { dst := some 50, op := .bsl true 1 (List.replicate 5 (.i .i64 0) ++ [.b false]) [(0, 6, .t 49)], pre := [] },
  { dst := some 51, op := .app 6 48 (.t 45) (.t 50), pre := [] },
  { dst := some 52, op := .fa 2 (.t 7) },
  { dst := some 53, op := .ld none (.t 52), pre := [] },
  { dst := some 54, op := .bsl true 1 ([.i .i64 0]) [(0, 1, .c (.i .i64 (-1)))], pre := [] },
  { dst := some 55, op := .app 1 8 (.t 53) (.t 54), pre := [7] },
  { dst := some 56, op := .fa 1 (.t 7) },
  { dst := none, op := .st 1 (.t 56) (.t 51), pre := [7, 11] },
  { dst := some 57, op := .fa 2 (.t 7) },
  { dst := none, op := .st 1 (.t 57) (.t 55), pre := [7, 11] }])
 (.seq (.seq (.reg false [{ dst := some 58, op := .mv (.t 9) },
  { dst := some 59, op := .bin .gtr (.t 58) (.c (.i .i64 0)) }])
 (.cond (.t 59) (.reg true [{ dst := some 60, op := .fa 1 (.t 7) },
  { dst := some 61, op := .ld none (.t 60), pre := [] },
  { dst := some 62, op := .mv (.t 8) },
  { dst := some 63, op := .bin .add (.c (.i .i64 1)) (.t 62) },
  { dst := some 64, op := .mv (.t 9) },
  { dst := some 65, op := .build (List.replicate 5 (.i .i64 0) ++ [.b false]) [(0, 1, .t 63), (1, 1, .c (.i .i64 3)), (2, 1, .t 64)] },
  { dst := some 66, op := .bsl true 1 (List.replicate 5 (.i .i64 0) ++ [.b false]) [(0, 6, .t 65)], pre := [] },
  { dst := some 67, op := .app 6 48 (.t 61) (.t 66), pre := [] },
  { dst := some 68, op := .fa 2 (.t 7) },
  { dst := some 69, op := .ld none (.t 68), pre := [] },
  { dst := some 70, op := .bsl true 1 ([.i .i64 0]) [(0, 1, .c (.i .i64 (-1)))], pre := [] },
  { dst := some 71, op := .app 1 8 (.t 69) (.t 70), pre := [7] },
  { dst := some 72, op := .fa 1 (.t 7) },
  { dst := none, op := .st 1 (.t 72) (.t 67), pre := [7, 11] },
  { dst := some 73, op := .fa 2 (.t 7) },
  { dst := none, op := .st 1 (.t 73) (.t 71), pre := [7, 11] }])
 .skip))
 (.reg true [{ dst := some 74, op := .fa 1 (.t 7) },
  { dst := some 75, op := .ld none (.t 74), pre := [] },
  { dst := some 76, op := .mv (.t 8) },
  { dst := some 77, op := .bin .add (.c (.i .i64 1)) (.t 76) },
  { dst := some 78, op := .mv (.t 8) },
  { dst := some 79, op := .bin .sub (.c (.i .i64 1)) (.t 78) },
  { dst := some 80, op := .build (List.replicate 5 (.i .i64 0) ++ [.b false]) [(0, 1, .t 77), (1, 1, .c (.i .i64 1)), (3, 1, .t 79)] },
  { dst := some 81, op := .bsl true 1 (List.replicate 5 (.i .i64 0) ++ [.b false]) [(0, 6, .t 80)], pre := [] },
  { dst := some 82, op := .app 6 48 (.t 75) (.t 81), pre := [] },
  { dst := some 83, op := .fa 2 (.t 7) },
  { dst := some 84, op := .ld none (.t 83), pre := [] },
  { dst := some 85, op := .mv (.t 8) },
  { dst := some 86, op := .bin .sub (.c (.i .i64 1)) (.t 85) },
  { dst := some 87, op := .bsl true 1 ([.i .i64 0]) [(0, 1, .t 86)], pre := [] },
  { dst := some 88, op := .app 1 8 (.t 84) (.t 87), pre := [8] },
  { dst := some 89, op := .fa 1 (.t 7) },
  { dst := none, op := .st 1 (.t 89) (.t 82), pre := [8, 14] },
  { dst := some 90, op := .fa 2 (.t 7) },
  { dst := none, op := .st 1 (.t 90) (.t 88), pre := [8, 14] }])))))))
 (.reg false [{ dst := some 24, op := .mv (.t 8) },
  { dst := some 25, op := .bin .add (.t 24) (.c (.i .i64 1)) },
  { dst := some 8, op := .mv (.t 25) }]))))))
 (.seq (.reg false [{ dst := some 91, op := .ld (some 8) (.t 7) },
  { dst := some 92, op := .call .pure (.c (.fn 161 [] [])) [.t 91] },
  { dst := some 93, op := .mv (.t 5) },
  { dst := some 94, op := .bin .eql (.t 93) (.c (.i .i64 4)) },
  { dst := some 95, op := .mv (.t 94) },
  { dst := some 96, op := .mv (.t 6), grd := some (95, true) },
  { dst := some 97, op := .bin .eql (.t 96) (.c (.i .i64 4)), grd := some (95, true) },
  { dst := some 98, op := .pick (.t 95) (.t 97) (.c (.b false)) },
  { dst := some 99, op := .un .not (.t 98) },
  { dst := some 100, op := .eqb false (.t 92) (.t 99) },
  { dst := some 101, op := .mv (.t 100) },
  { dst := some 102, op := .ld (some 8) (.t 7), grd := some (101, true) },
  { dst := some 103, op := .call .pure (.c (.fn 164 [] [])) [.t 102], grd := some (101, true) },
  { dst := some 104, op := .pick (.t 101) (.t 103) (.c (.b false)) },
  { dst := some 105, op := .mv (.t 104) },
  { dst := some 106, op := .ld (some 8) (.t 7), grd := some (105, true) },
  { dst := some 107, op := .call .pure (.c (.fn 162 [] [])) [.t 106], grd := some (105, true) },
  { dst := some 108, op := .pick (.t 105) (.t 107) (.c (.b false)) },
  { dst := some 109, op := .mv (.t 108) },
  { dst := some 110, op := .call .pure (.c (.fn 163 [] [])) [], grd := some (109, true) },
  { dst := some 111, op := .pick (.t 109) (.t 110) (.c (.b false)) },
  { dst := some 4, op := .mv (.t 111) }])
 .ret))))) }
def A_xlaw12_ImmKnown_1 : AFun := { res := [.cell 4 (some 6)], body := (.seq (.reg false [{ dst := some 4, op := .new (List.replicate 5 (.i .i64 0) ++ [.b false]) }])
 (.seq (.reg false [{ dst := some 5, op := .mv (.t 0) },
  { dst := some 6, op := .mv (.t 1) },
  { dst := some 7, op := .build (List.replicate 5 (.i .i64 0) ++ [.b false]) [(0, 1, .t 5), (1, 1, .c (.i .i64 2)), (4, 1, .t 6)] },
  { dst := none, op := .st 6 (.t 4) (.t 7) }])
 .ret)) }
def A_xlaw12_ImmKnown_2 : AFun := { res := [.cell 4 (some 6)], body := (.seq (.reg false [{ dst := some 4, op := .new (List.replicate 5 (.i .i64 0) ++ [.b false]) }])
 (.seq (.reg false [{ dst := some 5, op := .mv (.t 0) },
  { dst := some 6, op := .mv (.t 1) },
  { dst := some 7, op := .build (List.replicate 5 (.i .i64 0) ++ [.b false]) [(0, 1, .t 5), (1, 1, .c (.i .i64 1)), (4, 1, .t 6)] },
  { dst := none, op := .st 6 (.t 4) (.t 7) }])
 .ret)) }
def A_xlaw12_ImmKnown_3 : AFun := { res := [.cell 2 (some 6)], body := (.seq (.reg false [{ dst := some 1, op := .box (.t 0) },
  { dst := some 2, op := .new (List.replicate 5 (.i .i64 0) ++ [.b false]) }])
 (.seq (.reg false [{ dst := some 3, op := .fa 5 (.t 1) },
  { dst := none, op := .st 1 (.t 3) (.c (.b true)) }])
 (.seq (.reg false [{ dst := some 4, op := .ld (some 6) (.t 1) },
  { dst := none, op := .st 6 (.t 2) (.t 4) }])
 .ret))) }
def A_xlaw12_awake : AFun := { res := [.t 0], body := (.seq (.reg false [{ dst := some 0, op := .mv (.c (.b false)) }])
 (.seq (.reg false [{ dst := some 1, op := .call .pure (.c (.fn 218 [] [])) [.c (.b true)] },
  { dst := some 2, op := .call .pure (.c (.fn 217 [] [])) [.t 1] },
  { dst := some 3, op := .un .not (.t 2) },
  { dst := some 4, op := .mv (.t 3) },
  { dst := some 5, op := .call .pure (.c (.fn 218 [] [])) [.c (.b false)], grd := some (4, true) },
  { dst := some 6, op := .call .pure (.c (.fn 217 [] [])) [.t 5], grd := some (4, true) },
  { dst := some 7, op := .pick (.t 4) (.t 6) (.c (.b false)) },
  { dst := some 8, op := .mv (.t 7) },
  { dst := some 9, op := .call .pure (.c (.fn 218 [] [])) [.c (.b false)], grd := some (8, true) },
  { dst := some 10, op := .call .pure (.c (.fn 161 [] [])) [.t 9], grd := some (8, true) },
  { dst := some 11, op := .pick (.t 8) (.t 10) (.c (.b false)) },
  { dst := some 12, op := .mv (.t 11) },
  { dst := some 13, op := .call .pure (.c (.fn 218 [] [])) [.c (.b true)], grd := some (12, true) },
  { dst := some 14, op := .call .pure (.c (.fn 164 [] [])) [.t 13], grd := some (12, true) },
  { dst := some 15, op := .pick (.t 12) (.t 14) (.c (.b false)) },
  { dst := some 16, op := .mv (.t 15) },
  { dst := some 17, op := .call .pure (.c (.fn 218 [] [])) [.c (.b true)], grd := some (16, true) },
  { dst := some 18, op := .call .pure (.c (.fn 162 [] [])) [.t 17], grd := some (16, true) },
  { dst := some 19, op := .pick (.t 16) (.t 18) (.c (.b false)) },
  { dst := some 20, op := .mv (.t 19) },
  { dst := some 21, op := .build ([.i .i64 0] ++ List.replicate 7 (.sl [] 0 .rig)) [], grd := some (20, true) },
  { dst := some 22, op := .call .pure (.c (.fn 161 [] [])) [.t 21], grd := some (20, true) },
  { dst := some 23, op := .un .not (.t 22), grd := some (20, true) },
  { dst := some 24, op := .pick (.t 20) (.t 23) (.c (.b false)) },
  { dst := some 0, op := .mv (.t 24) }])
 .ret)) }
def A_xlaw12_loop : AFun := { res := [.cell 2 (some 8)], body := (.seq (.reg false [{ dst := some 2, op := .new ([.i .i64 0] ++ List.replicate 7 (.sl [] 0 .rig)) }])
 (.seq (.reg false [{ dst := some 5, op := .build (List.replicate 5 (.i .i64 0) ++ [.b false]) [(1, 1, .c (.i .i64 2))] },
  { dst := some 6, op := .build (List.replicate 5 (.i .i64 0) ++ [.b false]) [(1, 1, .c (.i .i64 2)), (3, 1, .c (.i .i64 1))] },
  { dst := some 7, op := .build (List.replicate 5 (.i .i64 0) ++ [.b false]) [(0, 1, .c (.i .i64 1)), (1, 1, .c (.i .i64 1)), (4, 1, .c (.i .i64 1))] },
  { dst := some 8, op := .build (List.replicate 5 (.i .i64 0) ++ [.b false]) [(0, 1, .c (.i .i64 1)), (1, 1, .c (.i .i64 2)), (3, 1, .c (.i .i64 1)), (4, 1, .c (.i .i64 1))] },
  { dst := some 9, op := .build (List.replicate 5 (.i .i64 0) ++ [.b false]) [(0, 1, .c (.i .i64 2)), (1, 1, .c (.i .i64 1)), (3, 1, .c (.i .i64 1)), (4, 1, .c (.i .i64 1))] },
  { dst := some 10, op := .build (List.replicate 5 (.i .i64 0) ++ [.b false]) [(0, 1, .c (.i .i64 2)), (1, 1, .c (.i .i64 2)), (4, 1, .c (.i .i64 1))] },
  { dst := some 11, op := .bsl true 6 (List.replicate 5 (.i .i64 0) ++ [.b false] ++ List.replicate 5 (.i .i64 0) ++ [.b false] ++ List.replicate 5 (.i .i64 0) ++ [.b false] ++ List.replicate 5 (.i .i64 0) ++ [.b false] ++ List.replicate 5 (.i .i64 0) ++ [.b false] ++ List.replicate 5 (.i .i64 0) ++ [.b false]) [(0, 6, .t 5), (6, 6, .t 6), (12, 6, .t 7), (18, 6, .t 8), (24, 6, .t 9), (30, 6, .t 10)] },
  { dst := some 3, op := .mv (.t 11) }])
 (.seq (.reg false [{ dst := some 12, op := .mv (.t 3) },
  { dst := some 13, op := .bsl true 6 (List.replicate 6 (.i .i64 0)) [(0, 1, .c (.i .i64 (-1))), (1, 1, .c (.i .i64 (-1))), (2, 1, .c (.i .i64 5)), (3, 1, .c (.i .i64 (-1))), (4, 1, .c (.i .i64 3)), (5, 1, .c (.i .i64 (-1)))] },
  { dst := some 14, op := .bsl true 2 ([.i .i64 0, .i .i64 0]) [(0, 1, .c (.i .i64 0)), (1, 1, .c (.i .i64 5))] },
  { dst := some 15, op := .bsl true 2 ([.i .i64 0, .i .i64 0]) [(0, 1, .c (.i .i64 1)), (1, 1, .c (.i .i64 3))] },
  { dst := some 16, op := .bsl true 2 ([.sl [] 0 .rig, .sl [] 0 .rig]) [(0, 1, .t 14), (1, 1, .t 15)] },
  { dst := some 17, op := .build ([.i .i64 0] ++ List.replicate 7 (.sl [] 0 .rig)) [(0, 1, .c (.i .i64 2)), (1, 1, .t 12), (2, 1, .t 13), (3, 1, .t 16)] },
  { dst := some 4, op := .new ([.i .i64 0] ++ List.replicate 7 (.sl [] 0 .rig)) },
  { dst := none, op := .st 8 (.t 4) (.t 17) }])
 (.seq (.seq (.reg false [{ dst := some 18, op := .mv (.t 0) }])
 (.cond (.t 18) (.reg false [{ dst := some 19, op := .build ([.i .i64 0, .i .i64 0]) [(0, 1, .c (.i .i64 2)), (1, 1, .c (.i .i64 3))] },
  { dst := some 20, op := .build ([.i .i64 0, .i .i64 0]) [(0, 1, .c (.i .i64 4)), (1, 1, .c (.i .i64 5))] },
  { dst := some 21, op := .bsl true 2 (List.replicate 4 (.i .i64 0)) [(0, 2, .t 19), (2, 2, .t 20)] },
  { dst := some 22, op := .fa 5 (.t 4) },
  { dst := none, op := .st 1 (.t 22) (.t 21) }])
 .skip))
 (.seq (.reg false [{ dst := some 23, op := .ld (some 8) (.t 4) },
  { dst := none, op := .st 8 (.t 2) (.t 23) }])
 .ret))))) }
end Go.Ab
end
section
namespace Go.Ab
def A_graph_Po : AFun := { res := [.t 2], body := (.seq (.reg false [{ dst := some 1, op := .box (.t 0) },
  { dst := some 2, op := .mv (.c (.nilp)) }])
 (.seq (.reg false [{ dst := some 3, op := .mv (.c (.sl [] 0 .rig)) }])
 (.seq (.seq (.reg false [{ dst := some 8, op := .fa 1 (.t 1) },
  { dst := some 9, op := .ld none (.t 8) },
  { dst := some 10, op := .len (.t 9) },
  { dst := some 11, op := .mv (.c (.i .i64 0)) }])
 (.blk 0 (.loop (.seq (.reg false [{ dst := some 12, op := .bin .lss (.t 11) (.t 10) }])
 (.seq (.cond (.t 12) .skip
 (.ext 0))
 (.seq (.blk 1 (.seq (.reg false [{ dst := some 13, op := .mv (.t 11) },
  { dst := some 14, op := .ia 6 (.t 9) (.t 11) },
  { dst := some 15, op := .ld (some 6) (.t 14) },
  { dst := some 5, op := .new (List.replicate 5 (.i .i64 0) ++ [.b false]) },
  { dst := some 4, op := .mv (.t 13) },
  { dst := none, op := .st 6 (.t 5) (.t 15) }])
 (.seq (.reg false [{ dst := some 16, op := .fa 1 (.t 1) },
  { dst := some 17, op := .ld none (.t 16) },
  { dst := some 18, op := .len (.t 17) },
  { dst := some 19, op := .mv (.c (.i .i64 0)) }])
 (.blk 2 (.loop (.seq (.reg false [{ dst := some 20, op := .bin .lss (.t 19) (.t 18) }])
 (.seq (.cond (.t 20) .skip
 (.ext 2))
 (.seq (.blk 3 (.seq (.reg false [{ dst := some 21, op := .mv (.t 19) },
  { dst := some 22, op := .ia 6 (.t 17) (.t 19) },
  { dst := some 23, op := .ld (some 6) (.t 22) },
  { dst := some 7, op := .new (List.replicate 5 (.i .i64 0) ++ [.b false]) },
  { dst := some 6, op := .mv (.t 21) },
  { dst := none, op := .st 6 (.t 7) (.t 23) }])
 (.seq (.reg false [{ dst := some 24, op := .fa 0 (.t 5) },
  { dst := some 25, op := .ld none (.t 24) },
  { dst := some 26, op := .bin .eql (.t 25) (.c (.i .i64 0)) },
  { dst := some 27, op := .mv (.t 26) },
  { dst := some 28, op := .fa 0 (.t 7), grd := some (27, true) },
  { dst := some 29, op := .ld none (.t 28), grd := some (27, true) },
  { dst := some 30, op := .bin .neq (.t 29) (.c (.i .i64 0)), grd := some (27, true) },
  { dst := some 31, op := .pick (.t 27) (.t 30) (.c (.b false)) },
  { dst := some 32, op := .mv (.t 31) },
  { dst := some 33, op := .fa 0 (.t 5), grd := some (32, false) },
  { dst := some 34, op := .ld none (.t 33), grd := some (32, false) },
  { dst := some 35, op := .fa 0 (.t 7), grd := some (32, false) },
  { dst := some 36, op := .ld none (.t 35), grd := some (32, false) },
  { dst := some 37, op := .bin .eql (.t 34) (.t 36), grd := some (32, false) },
  { dst := some 38, op := .mv (.t 37), grd := some (32, false) },
  { dst := some 39, op := .fa 0 (.t 5), grd := some (38, true) },
  { dst := some 40, op := .ld none (.t 39), grd := some (38, true) },
  { dst := some 41, op := .bin .neq (.t 40) (.c (.i .i64 0)), grd := some (38, true) },
  { dst := some 42, op := .pick (.t 38) (.t 41) (.c (.b false)), grd := some (32, false) },
  { dst := some 43, op := .mv (.t 42), grd := some (32, false) },
  { dst := some 44, op := .mv (.t 4), grd := some (43, true) },
  { dst := some 45, op := .mv (.t 6), grd := some (43, true) },
  { dst := some 46, op := .bin .lss (.t 44) (.t 45), grd := some (43, true) },
  { dst := some 47, op := .pick (.t 43) (.t 46) (.c (.b false)), grd := some (32, false) },
  { dst := some 48, op := .pick (.t 32) (.c (.b true)) (.t 47) }])
 (.cond (.t 48) (.reg false [{ dst := some 49, op := .mv (.t 3) },
  { dst := some 50, op := .mv (.t 4) },
  { dst := some 51, op := .mv (.t 6) },
  { dst := some 52, op := .build ([.i .i64 0, .i .i64 0]) [(0, 1, .t 50), (1, 1, .t 51)] },
  { dst := some 53, op := .bsl true 1 ([.i .i64 0, .i .i64 0]) [(0, 2, .t 52)] },
  { dst := some 54, op := .app 2 16 (.t 49) (.t 53) },
  { dst := some 3, op := .mv (.t 54) }])
 .skip))))
 (.reg false [{ dst := some 55, op := .bin .add (.t 19) (.c (.i .i64 1)) },
  { dst := some 19, op := .mv (.t 55) }])))))))))
 (.reg false [{ dst := some 56, op := .bin .add (.t 11) (.c (.i .i64 1)) },
  { dst := some 11, op := .mv (.t 56) }])))))))
 (.seq (.reg false [{ dst := some 57, op := .ld (some 8) (.t 1) },
  { dst := some 58, op := .mv (.t 3) },
  { dst := some 59, op := .call .pure (.c (.fn 81 [] [])) [.t 57, .t 58] },
  { dst := some 2, op := .mv (.t 59) }])
 .ret)))) }
def A_graph_Of : AFun := { res := [.t 4], body := (.seq (.reg false [{ dst := some 2, op := .box (.t 0) },
  { dst := some 4, op := .mv (.c (.nilp)) }])
 (.seq (.reg false [{ dst := some 5, op := .fa 1 (.t 2) },
  { dst := some 6, op := .ld none (.t 5) },
  { dst := some 7, op := .len (.t 6) },
  { dst := some 8, op := .mv (.t 1) },
  { dst := some 9, op := .call .pure (.c (.fn 11 [] [])) [.t 7, .t 8] },
  { dst := some 4, op := .mv (.t 9) }])
 .ret)) }
def A_graph_Check : AFun := { res := [.t 2], body := (.seq (.reg false [{ dst := some 1, op := .box (.t 0) },
  { dst := some 2, op := .mv (.c (.b false)) }])
 (.seq (.seq (.reg false [{ dst := some 4, op := .fa 0 (.t 1) },
  { dst := some 5, op := .ld none (.t 4) },
  { dst := some 6, op := .bin .lss (.t 5) (.c (.i .i64 1)) },
  { dst := some 7, op := .mv (.t 6) },
  { dst := some 8, op := .fa 0 (.t 1), grd := some (7, false) },
  { dst := some 9, op := .ld none (.t 8), grd := some (7, false) },
  { dst := some 10, op := .bin .gtr (.t 9) (.c (.i .i64 4)), grd := some (7, false) },
  { dst := some 11, op := .pick (.t 7) (.c (.b true)) (.t 10) },
  { dst := some 12, op := .mv (.t 11) },
  { dst := some 13, op := .fa 1 (.t 1), grd := some (12, false) },
  { dst := some 14, op := .ld none (.t 13), grd := some (12, false) },
  { dst := some 15, op := .len (.t 14), grd := some (12, false) },
  { dst := some 16, op := .bin .gtr (.t 15) (.c (.i .i64 40)), grd := some (12, false) },
  { dst := some 17, op := .pick (.t 12) (.c (.b true)) (.t 16) },
  { dst := some 18, op := .mv (.t 17) },
  { dst := some 19, op := .fa 1 (.t 1), grd := some (18, false) },
  { dst := some 20, op := .ld none (.t 19), grd := some (18, false) },
  { dst := some 21, op := .len (.t 20), grd := some (18, false) },
  { dst := some 22, op := .fa 0 (.t 1), grd := some (18, false) },
  { dst := some 23, op := .ld none (.t 22), grd := some (18, false) },
  { dst := some 24, op := .bin .lss (.t 21) (.t 23), grd := some (18, false) },
  { dst := some 25, op := .pick (.t 18) (.c (.b true)) (.t 24) },
  { dst := some 26, op := .mv (.t 25) },
  { dst := some 27, op := .ld (some 8) (.t 1), grd := some (26, false) },
  { dst := some 28, op := .call .pure (.c (.fn 186 [] [])) [.t 27], grd := some (26, false) },
  { dst := some 29, op := .un .not (.t 28), grd := some (26, false) },
  { dst := some 30, op := .pick (.t 26) (.c (.b true)) (.t 29) },
  { dst := some 31, op := .mv (.t 30) },
  { dst := some 32, op := .ld (some 8) (.t 1), grd := some (31, false) },
  { dst := some 33, op := .call .pure (.c (.fn 187 [] [])) [.t 32], grd := some (31, false) },
  { dst := some 34, op := .un .not (.t 33), grd := some (31, false) },
  { dst := some 35, op := .pick (.t 31) (.c (.b true)) (.t 34) },
  { dst := some 36, op := .mv (.t 35) },
  { dst := some 37, op := .ld (some 8) (.t 1), grd := some (36, false) },
  { dst := some 38, op := .call .pure (.c (.fn 188 [] [])) [.t 37], grd := some (36, false) },
  { dst := some 39, op := .un .not (.t 38), grd := some (36, false) },
  { dst := some 40, op := .pick (.t 36) (.c (.b true)) (.t 39) },
  { dst := some 41, op := .mv (.t 40) },
  { dst := some 42, op := .ld (some 8) (.t 1), grd := some (41, false) },
  { dst := some 43, op := .call .pure (.c (.fn 189 [] [])) [.t 42], grd := some (41, false) },
  { dst := some 44, op := .un .not (.t 43), grd := some (41, false) },
  { dst := some 45, op := .pick (.t 41) (.c (.b true)) (.t 44) },
  { dst := some 46, op := .mv (.t 45) },
  { dst := some 47, op := .ld (some 8) (.t 1), grd := some (46, false) },
  { dst := some 48, op := .call .pure (.c (.fn 190 [] [])) [.t 47], grd := some (46, false) },
  { dst := some 49, op := .un .not (.t 48), grd := some (46, false) },
  { dst := some 50, op := .pick (.t 46) (.c (.b true)) (.t 49) }])
 (.cond (.t 50) (.seq (.reg false [{ dst := some 2, op := .mv (.c (.b false)) }])
 .ret)
 .skip))
 (.seq (.reg false [{ dst := some 3, op := .mv (.c (.fn 191 [] [])) }])
 (.seq (.reg false [{ dst := some 51, op := .ld (some 8) (.t 1) },
  { dst := some 52, op := .fa 5 (.t 1) },
  { dst := some 53, op := .ld none (.t 52) },
  { dst := some 54, op := .mv (.t 3) },
  { dst := some 55, op := .call .pure (.c (.fn 192 [] [])) [.t 51, .t 53, .t 54] },
  { dst := some 56, op := .mv (.t 55) },
  { dst := some 57, op := .ld (some 8) (.t 1), grd := some (56, true) },
  { dst := some 58, op := .fa 6 (.t 1), grd := some (56, true) },
  { dst := some 59, op := .ld none (.t 58), grd := some (56, true) },
  { dst := some 60, op := .mv (.t 3), grd := some (56, true) },
  { dst := some 61, op := .call .pure (.c (.fn 192 [] [])) [.t 57, .t 59, .t 60], grd := some (56, true) },
  { dst := some 62, op := .pick (.t 56) (.t 61) (.c (.b false)) },
  { dst := some 63, op := .mv (.t 62) },
  { dst := some 64, op := .ld (some 8) (.t 1), grd := some (63, true) },
  { dst := some 65, op := .fa 7 (.t 1), grd := some (63, true) },
  { dst := some 66, op := .ld none (.t 65), grd := some (63, true) },
  { dst := some 67, op := .mv (.t 3), grd := some (63, true) },
  { dst := some 68, op := .call .pure (.c (.fn 192 [] [])) [.t 64, .t 66, .t 67], grd := some (63, true) },
  { dst := some 69, op := .pick (.t 63) (.t 68) (.c (.b false)) },
  { dst := some 2, op := .mv (.t 69) }])
 .ret)))) }
def A_graph_Set : AFun := { res := [.t 4], body := (.seq (.reg false [{ dst := some 2, op := .box (.t 0) },
  { dst := some 4, op := .mv (.c (.nilp)) }])
 (.seq (.reg false [{ dst := some 5, op := .mv (.c (.sl [] 0 .rig)) }])
 (.seq (.reg false [{ dst := some 9, op := .mv (.t 1) },
  { dst := some 10, op := .build ([.nilf]) [(0, 1, .t 9)] },
  { dst := some 6, op := .new ([.nilf]) },
  { dst := none, op := .st 1 (.t 6) (.t 10) }])
 (.seq (.seq (.reg false [{ dst := some 11, op := .fa 1 (.t 2) },
  { dst := some 12, op := .ld none (.t 11) },
  { dst := some 13, op := .len (.t 12) },
  { dst := some 14, op := .mv (.c (.i .i64 0)) }])
 (.blk 0 (.loop (.seq (.reg false [{ dst := some 15, op := .bin .lss (.t 14) (.t 13) }])
 (.seq (.cond (.t 15) .skip
 (.ext 0))
 (.seq (.blk 1 (.seq (.reg false [{ dst := some 16, op := .mv (.t 14) },
  { dst := some 17, op := .ia 6 (.t 12) (.t 14) },
  { dst := some 18, op := .ld (some 6) (.t 17) },
  { dst := some 8, op := .new (List.replicate 5 (.i .i64 0) ++ [.b false]) },
  { dst := some 7, op := .mv (.t 16) },
  { dst := none, op := .st 6 (.t 8) (.t 18) }])
 (.seq (.reg false [{ dst := some 19, op := .fa 0 (.t 6) },
  { dst := some 20, op := .ld none (.t 19) },
  { dst := some 21, op := .ld (some 6) (.t 8) },
  { dst := some 22, op := .call .pure (.t 20) [.t 21] }])
 (.cond (.t 22) (.reg false [{ dst := some 23, op := .mv (.t 5) },
  { dst := some 24, op := .mv (.t 7) },
  { dst := some 25, op := .mv (.t 7) },
  { dst := some 26, op := .build ([.i .i64 0, .i .i64 0]) [(0, 1, .t 24), (1, 1, .t 25)] },
  { dst := some 27, op := .bsl true 1 ([.i .i64 0, .i .i64 0]) [(0, 2, .t 26)] },
  { dst := some 28, op := .app 2 16 (.t 23) (.t 27) },
  { dst := some 5, op := .mv (.t 28) }])
 .skip))))
 (.reg false [{ dst := some 29, op := .bin .add (.t 14) (.c (.i .i64 1)) },
  { dst := some 14, op := .mv (.t 29) }])))))))
 (.seq (.reg false [{ dst := some 30, op := .ld (some 8) (.t 2) },
  { dst := some 31, op := .mv (.t 5) },
  { dst := some 32, op := .call .pure (.c (.fn 81 [] [])) [.t 30, .t 31] },
  { dst := some 4, op := .mv (.t 32) }])
 .ret))))) }
def A_graph_first : AFun := { res := [.t 2], body := (.seq (.reg false [{ dst := some 1, op := .box (.t 0) },
  { dst := some 2, op := .mv (.c (.b false)) }])
 (.seq (.seq (.reg false [{ dst := some 4, op := .fa 0 (.t 1) },
  { dst := some 5, op := .ld none (.t 4) },
  { dst := some 6, op := .mv (.c (.i .i64 0)) }])
 (.blk 0 (.loop (.seq (.reg false [{ dst := some 7, op := .bin .lss (.t 6) (.t 5) }])
 (.seq (.cond (.t 7) .skip
 (.ext 0))
 (.seq (.blk 1 (.seq (.reg false [{ dst := some 8, op := .mv (.t 6) },
  { dst := some 3, op := .mv (.t 8) }])
 (.seq (.reg false [{ dst := some 9, op := .fa 1 (.t 1) },
  { dst := some 10, op := .ld none (.t 9) },
  { dst := some 11, op := .mv (.t 3) },
  { dst := some 12, op := .ia 6 (.t 10) (.t 11) },
  { dst := some 13, op := .ld (some 6) (.t 12) },
  { dst := some 14, op := .mv (.t 3) },
  { dst := some 15, op := .build (List.replicate 5 (.i .i64 0) ++ [.b false]) [(1, 1, .c (.i .i64 2)), (3, 1, .t 14)] },
  { dst := some 16, op := .eqa true [0, 0, 0, 0, 0, 1] (.t 13) (.t 15) }])
 (.cond (.t 16) (.seq (.reg false [{ dst := some 2, op := .mv (.c (.b false)) }])
 .ret)
 .skip))))
 (.reg false [{ dst := some 17, op := .bin .add (.t 6) (.c (.i .i64 1)) },
  { dst := some 6, op := .mv (.t 17) }])))))))
 (.seq (.reg false [{ dst := some 2, op := .mv (.c (.b true)) }])
 .ret))) }
def A_graph_threads : AFun := { res := [.t 2], body := (.seq (.reg false [{ dst := some 1, op := .box (.t 0) },
  { dst := some 2, op := .mv (.c (.b false)) }])
 (.seq (.reg false [{ dst := some 3, op := .mv (.c (.i .i64 1)) }])
 (.seq (.seq (.reg false [{ dst := some 6, op := .fa 1 (.t 1) },
  { dst := some 7, op := .ld none (.t 6) },
  { dst := some 8, op := .fa 0 (.t 1) },
  { dst := some 9, op := .ld none (.t 8) },
  { dst := some 10, op := .slice 6 (.t 7) (some (.t 9)) none none },
  { dst := some 11, op := .len (.t 10) },
  { dst := some 12, op := .mv (.c (.i .i64 0)) }])
 (.blk 0 (.loop (.seq (.reg false [{ dst := some 13, op := .bin .lss (.t 12) (.t 11) }])
 (.seq (.cond (.t 13) .skip
 (.ext 0))
 (.seq (.blk 1 (.seq (.reg false [{ dst := some 14, op := .ia 6 (.t 10) (.t 12) },
  { dst := some 15, op := .ld (some 6) (.t 14) },
  { dst := some 5, op := .new (List.replicate 5 (.i .i64 0) ++ [.b false]) },
  { dst := none, op := .st 6 (.t 5) (.t 15) }])
 (.seq (.seq (.reg false [{ dst := some 16, op := .fa 0 (.t 5) },
  { dst := some 17, op := .ld none (.t 16) },
  { dst := some 18, op := .mv (.t 3) },
  { dst := some 19, op := .bin .lss (.t 17) (.t 18) },
  { dst := some 20, op := .mv (.t 19) },
  { dst := some 21, op := .fa 0 (.t 5), grd := some (20, false) },
  { dst := some 22, op := .ld none (.t 21), grd := some (20, false) },
  { dst := some 23, op := .bin .gtr (.t 22) (.c (.i .i64 4)), grd := some (20, false) },
  { dst := some 24, op := .pick (.t 20) (.c (.b true)) (.t 23) },
  { dst := some 25, op := .mv (.t 24) },
  { dst := some 26, op := .ld (some 6) (.t 5), grd := some (25, false) },
  { dst := some 27, op := .fa 0 (.t 1), grd := some (25, false) },
  { dst := some 28, op := .ld none (.t 27), grd := some (25, false) },
  { dst := some 29, op := .call .pure (.c (.fn 236 [] [])) [.t 26, .t 28], grd := some (25, false) },
  { dst := some 30, op := .un .not (.t 29), grd := some (25, false) },
  { dst := some 31, op := .pick (.t 25) (.c (.b true)) (.t 30) }])
 (.cond (.t 31) (.seq (.reg false [{ dst := some 2, op := .mv (.c (.b false)) }])
 .ret)
 .skip))
 (.reg false [{ dst := some 32, op := .fa 0 (.t 5) },
  { dst := some 33, op := .ld none (.t 32) },
  { dst := some 3, op := .mv (.t 33) }]))))
 (.reg false [{ dst := some 34, op := .bin .add (.t 12) (.c (.i .i64 1)) },
  { dst := some 12, op := .mv (.t 34) }])))))))
 (.seq (.reg false [{ dst := some 2, op := .mv (.c (.b true)) }])
 .ret)))) }
def A_graph_rf : AFun := { res := [.t 2], body := (.seq (.reg false [{ dst := some 1, op := .box (.t 0) },
  { dst := some 2, op := .mv (.c (.b false)) }])
 (.seq (.seq (.reg false [{ dst := some 6, op := .fa 2 (.t 1) },
  { dst := some 7, op := .ld none (.t 6) },
  { dst := some 8, op := .len (.t 7) },
  { dst := some 9, op := .fa 1 (.t 1) },
  { dst := some 10, op := .ld none (.t 9) },
  { dst := some 11, op := .len (.t 10) },
  { dst := some 12, op := .bin .neq (.t 8) (.t 11) }])
 (.cond (.t 12) (.seq (.reg false [{ dst := some 2, op := .mv (.c (.b false)) }])
 .ret)
 .skip))
 (.seq (.seq (.reg false [{ dst := some 13, op := .fa 1 (.t 1) },
  { dst := some 14, op := .ld none (.t 13) },
  { dst := some 15, op := .len (.t 14) },
  { dst := some 16, op := .mv (.c (.i .i64 0)) }])
 (.blk 0 (.loop (.seq (.reg false [{ dst := some 17, op := .bin .lss (.t 16) (.t 15) }])
 (.seq (.cond (.t 17) .skip
 (.ext 0))
 (.seq (.blk 1 (.seq (.reg false [{ dst := some 18, op := .mv (.t 16) },
  { dst := some 19, op := .ia 6 (.t 14) (.t 16) },
  { dst := some 20, op := .ld (some 6) (.t 19) },
  { dst := some 4, op := .new (List.replicate 5 (.i .i64 0) ++ [.b false]) },
  { dst := some 3, op := .mv (.t 18) },
  { dst := none, op := .st 6 (.t 4) (.t 20) }])
 (.seq (.reg false [{ dst := some 21, op := .fa 2 (.t 1) },
  { dst := some 22, op := .ld none (.t 21) },
  { dst := some 23, op := .mv (.t 3) },
  { dst := some 24, op := .ia 1 (.t 22) (.t 23) },
  { dst := some 25, op := .ld none (.t 24) },
  { dst := some 5, op := .mv (.t 25) }])
 (.blk 2 (.seq (.reg false [{ dst := some 27, op := .fa 1 (.t 4) },
  { dst := some 28, op := .ld none (.t 27) },
  { dst := some 29, op := .bin .neq (.t 28) (.c (.i .i64 1)) },
  { dst := some 30, op := .mv (.t 29) },
  { dst := some 31, op := .mv (.t 5), grd := some (30, true) },
  { dst := some 32, op := .bin .neq (.t 31) (.c (.i .i64 (-1))), grd := some (30, true) },
  { dst := some 33, op := .pick (.t 30) (.t 32) (.c (.b false)) },
  { dst := some 26, op := .mv (.t 33) }])
 (.cond (.t 26) (.seq (.reg false [{ dst := some 2, op := .mv (.c (.b false)) }])
 .ret)
 (.seq (.reg true [{ dst := some 35, op := .fa 1 (.t 4) },
  { dst := some 36, op := .ld none (.t 35), pre := [] },
  { dst := some 37, op := .bin .eql (.t 36) (.c (.i .i64 1)) },
  { dst := some 38, op := .mv (.t 37) },
  { dst := some 39, op := .ld (some 8) (.t 1), grd := some (38, true), pre := [] },
  { dst := some 40, op := .mv (.t 5), grd := some (38, true) },
  { dst := some 41, op := .fa 3 (.t 4), grd := some (38, true) },
  { dst := some 42, op := .ld none (.t 41), grd := some (38, true), pre := [] },
  { dst := some 43, op := .call .pure (.c (.fn 237 [] [])) [.t 39, .t 40, .t 42], grd := some (38, true), pre := [] },
  { dst := some 44, op := .un .not (.t 43), grd := some (38, true) },
  { dst := some 45, op := .mv (.t 44), grd := some (38, true) },
  { dst := some 46, op := .fa 1 (.t 1), grd := some (45, false) },
  { dst := some 47, op := .ld none (.t 46), grd := some (45, false), pre := [] },
  { dst := some 48, op := .mv (.t 5), grd := some (45, false) },
  { dst := some 49, op := .ia 6 (.t 47) (.t 48), grd := some (45, false) },
  { dst := some 50, op := .fa 4 (.t 49), grd := some (45, false) },
  { dst := some 51, op := .ld none (.t 50), grd := some (45, false), pre := [] },
  { dst := some 52, op := .fa 4 (.t 4), grd := some (45, false) },
  { dst := some 53, op := .ld none (.t 52), grd := some (45, false), pre := [] },
  { dst := some 54, op := .bin .neq (.t 51) (.t 53), grd := some (45, false) },
  { dst := some 55, op := .pick (.t 45) (.c (.b true)) (.t 54), grd := some (38, true) },
  { dst := some 56, op := .pick (.t 38) (.t 55) (.c (.b false)) },
  { dst := some 34, op := .mv (.t 56) }])
 (.cond (.t 34) (.seq (.reg false [{ dst := some 2, op := .mv (.c (.b false)) }])
 .ret)
 .skip))))))))
 (.reg false [{ dst := some 57, op := .bin .add (.t 16) (.c (.i .i64 1)) },
  { dst := some 16, op := .mv (.t 57) }])))))))
 (.seq (.reg false [{ dst := some 2, op := .mv (.c (.b true)) }])
 .ret)))) }
def A_graph_co : AFun := { res := [.t 2], body := (.seq (.reg false [{ dst := some 1, op := .box (.t 0) },
  { dst := some 2, op := .mv (.c (.b false)) }])
 (.seq (.seq (.reg false [{ dst := some 11, op := .fa 3 (.t 1) },
  { dst := some 12, op := .ld none (.t 11) },
  { dst := some 13, op := .len (.t 12) },
  { dst := some 14, op := .fa 0 (.t 1) },
  { dst := some 15, op := .ld none (.t 14) },
  { dst := some 16, op := .bin .neq (.t 13) (.t 15) }])
 (.cond (.t 16) (.seq (.reg false [{ dst := some 2, op := .mv (.c (.b false)) }])
 .ret)
 .skip))
 (.seq (.reg false [{ dst := some 3, op := .mv (.c (.i .i64 0)) }])
 (.seq (.reg false [{ dst := some 4, op := .new (List.replicate 40 (.b false)) }])
 (.seq (.seq (.reg false [{ dst := some 17, op := .fa 3 (.t 1) },
  { dst := some 18, op := .ld none (.t 17) },
  { dst := some 19, op := .len (.t 18) },
  { dst := some 20, op := .mv (.c (.i .i64 0)) }])
 (.blk 0 (.loop (.seq (.reg false [{ dst := some 21, op := .bin .lss (.t 20) (.t 19) }])
 (.seq (.cond (.t 21) .skip
 (.ext 0))
 (.seq (.blk 1 (.seq (.reg false [{ dst := some 22, op := .mv (.t 20) },
  { dst := some 23, op := .ia 1 (.t 18) (.t 20) },
  { dst := some 24, op := .ld none (.t 23) },
  { dst := some 5, op := .mv (.t 22) },
  { dst := some 6, op := .mv (.t 24) }])
 (.seq (.seq (.reg false [{ dst := some 25, op := .mv (.t 6) },
  { dst := some 26, op := .len (.t 25) },
  { dst := some 27, op := .bin .eql (.t 26) (.c (.i .i64 0)) },
  { dst := some 28, op := .mv (.t 27) },
  { dst := some 29, op := .mv (.t 6), grd := some (28, false) },
  { dst := some 30, op := .ia 1 (.t 29) (.c (.i .i64 0)), grd := some (28, false) },
  { dst := some 31, op := .ld none (.t 30), grd := some (28, false) },
  { dst := some 32, op := .mv (.t 5), grd := some (28, false) },
  { dst := some 33, op := .bin .neq (.t 31) (.t 32), grd := some (28, false) },
  { dst := some 34, op := .pick (.t 28) (.c (.b true)) (.t 33) }])
 (.cond (.t 34) (.seq (.reg false [{ dst := some 2, op := .mv (.c (.b false)) }])
 .ret)
 .skip))
 (.seq (.reg false [{ dst := some 35, op := .mv (.t 6) },
  { dst := some 36, op := .len (.t 35) },
  { dst := some 37, op := .mv (.c (.i .i64 0)) }])
 (.blk 2 (.loop (.seq (.reg false [{ dst := some 38, op := .bin .lss (.t 37) (.t 36) }])
 (.seq (.cond (.t 38) .skip
 (.ext 2))
 (.seq (.blk 3 (.seq (.reg false [{ dst := some 39, op := .ia 1 (.t 35) (.t 37) },
  { dst := some 40, op := .ld none (.t 39) },
  { dst := some 8, op := .mv (.t 40) }])
 (.seq (.seq (.reg false [{ dst := some 41, op := .ld (some 8) (.t 1) },
  { dst := some 42, op := .mv (.t 8) },
  { dst := some 43, op := .mv (.t 5) },
  { dst := some 44, op := .call .pure (.c (.fn 237 [] [])) [.t 41, .t 42, .t 43] },
  { dst := some 45, op := .un .not (.t 44) },
  { dst := some 46, op := .mv (.t 45) },
  { dst := some 47, op := .mv (.t 8), grd := some (46, false) },
  { dst := some 48, op := .iaa 40 1 (.t 4) (.t 47), grd := some (46, false) },
  { dst := some 49, op := .ld none (.t 48), grd := some (46, false) },
  { dst := some 50, op := .pick (.t 46) (.c (.b true)) (.t 49) }])
 (.cond (.t 50) (.seq (.reg false [{ dst := some 2, op := .mv (.c (.b false)) }])
 .ret)
 .skip))
 (.seq (.reg false [{ dst := some 51, op := .mv (.t 8) },
  { dst := some 52, op := .iaa 40 1 (.t 4) (.t 51) },
  { dst := none, op := .st 1 (.t 52) (.c (.b true)) }])
 (.reg false [{ dst := some 53, op := .mv (.t 3) },
  { dst := some 54, op := .bin .add (.t 53) (.c (.i .i64 1)) },
  { dst := some 3, op := .mv (.t 54) }])))))
 (.reg false [{ dst := some 55, op := .bin .add (.t 37) (.c (.i .i64 1)) },
  { dst := some 37, op := .mv (.t 55) }]))))))))))
 (.reg false [{ dst := some 56, op := .bin .add (.t 20) (.c (.i .i64 1)) },
  { dst := some 20, op := .mv (.t 56) }])))))))
 (.seq (.seq (.reg false [{ dst := some 57, op := .fa 1 (.t 1) },
  { dst := some 58, op := .ld none (.t 57) },
  { dst := some 59, op := .len (.t 58) },
  { dst := some 60, op := .mv (.c (.i .i64 0)) }])
 (.blk 4 (.loop (.seq (.reg false [{ dst := some 61, op := .bin .lss (.t 60) (.t 59) }])
 (.seq (.cond (.t 61) .skip
 (.ext 4))
 (.seq (.blk 5 (.seq (.reg false [{ dst := some 62, op := .ia 6 (.t 58) (.t 60) },
  { dst := some 63, op := .ld (some 6) (.t 62) },
  { dst := some 10, op := .new (List.replicate 5 (.i .i64 0) ++ [.b false]) },
  { dst := none, op := .st 6 (.t 10) (.t 63) }])
 (.seq (.reg false [{ dst := some 64, op := .fa 1 (.t 10) },
  { dst := some 65, op := .ld none (.t 64) },
  { dst := some 66, op := .bin .eql (.t 65) (.c (.i .i64 2)) }])
 (.cond (.t 66) (.reg false [{ dst := some 67, op := .mv (.t 3) },
  { dst := some 68, op := .bin .sub (.t 67) (.c (.i .i64 1)) },
  { dst := some 3, op := .mv (.t 68) }])
 .skip))))
 (.reg false [{ dst := some 69, op := .bin .add (.t 60) (.c (.i .i64 1)) },
  { dst := some 60, op := .mv (.t 69) }])))))))
 (.seq (.reg false [{ dst := some 70, op := .mv (.t 3) },
  { dst := some 71, op := .bin .eql (.t 70) (.c (.i .i64 0)) },
  { dst := some 2, op := .mv (.t 71) }])
 .ret))))))) }
def A_graph_rmw : AFun := { res := [.t 2], body := (.seq (.reg false [{ dst := some 1, op := .box (.t 0) },
  { dst := some 2, op := .mv (.c (.b false)) }])
 (.seq (.reg false [{ dst := some 3, op := .mv (.c (.fn 238 [] [])) }])
 (.seq (.seq (.reg false [{ dst := some 10, op := .ld (some 8) (.t 1) },
  { dst := some 11, op := .fa 4 (.t 1) },
  { dst := some 12, op := .ld none (.t 11) },
  { dst := some 13, op := .mv (.t 3) },
  { dst := some 14, op := .call .pure (.c (.fn 192 [] [])) [.t 10, .t 12, .t 13] },
  { dst := some 15, op := .un .not (.t 14) }])
 (.cond (.t 15) (.seq (.reg false [{ dst := some 2, op := .mv (.c (.b false)) }])
 .ret)
 .skip))
 (.seq (.reg false [{ dst := some 4, op := .mv (.c (.i .i64 0)) }])
 (.seq (.seq (.reg false [{ dst := some 16, op := .fa 1 (.t 1) },
  { dst := some 17, op := .ld none (.t 16) },
  { dst := some 18, op := .len (.t 17) },
  { dst := some 19, op := .mv (.c (.i .i64 0)) }])
 (.blk 0 (.loop (.seq (.reg false [{ dst := some 20, op := .bin .lss (.t 19) (.t 18) }])
 (.seq (.cond (.t 20) .skip
 (.ext 0))
 (.seq (.blk 1 (.seq (.reg false [{ dst := some 21, op := .ia 6 (.t 17) (.t 19) },
  { dst := some 22, op := .ld (some 6) (.t 21) },
  { dst := some 6, op := .new (List.replicate 5 (.i .i64 0) ++ [.b false]) },
  { dst := none, op := .st 6 (.t 6) (.t 22) }])
 (.seq (.reg false [{ dst := some 23, op := .fa 5 (.t 6) },
  { dst := some 24, op := .ld none (.t 23) }])
 (.cond (.t 24) (.reg false [{ dst := some 25, op := .mv (.t 4) },
  { dst := some 26, op := .bin .add (.t 25) (.c (.i .i64 1)) },
  { dst := some 4, op := .mv (.t 26) }])
 .skip))))
 (.reg false [{ dst := some 27, op := .bin .add (.t 19) (.c (.i .i64 1)) },
  { dst := some 19, op := .mv (.t 27) }])))))))
 (.seq (.reg false [{ dst := some 7, op := .mv (.c (.i .i64 (-1))) }])
 (.seq (.seq (.reg false [{ dst := some 28, op := .fa 4 (.t 1) },
  { dst := some 29, op := .ld none (.t 28) },
  { dst := some 30, op := .len (.t 29) },
  { dst := some 31, op := .mv (.c (.i .i64 0)) }])
 (.blk 2 (.loop (.seq (.reg false [{ dst := some 32, op := .bin .lss (.t 31) (.t 30) }])
 (.seq (.cond (.t 32) .skip
 (.ext 2))
 (.seq (.blk 3 (.seq (.reg false [{ dst := some 33, op := .ia 2 (.t 29) (.t 31) },
  { dst := some 34, op := .ld (some 2) (.t 33) },
  { dst := some 9, op := .new ([.i .i64 0, .i .i64 0]) },
  { dst := none, op := .st 2 (.t 9) (.t 34) }])
 (.seq (.seq (.reg false [{ dst := some 35, op := .fa 1 (.t 9) },
  { dst := some 36, op := .ld none (.t 35) },
  { dst := some 37, op := .fa 0 (.t 9) },
  { dst := some 38, op := .ld none (.t 37) },
  { dst := some 39, op := .bin .add (.t 38) (.c (.i .i64 1)) },
  { dst := some 40, op := .bin .neq (.t 36) (.t 39) },
  { dst := some 41, op := .mv (.t 40) },
  { dst := some 42, op := .fa 0 (.t 9), grd := some (41, false) },
  { dst := some 43, op := .ld none (.t 42), grd := some (41, false) },
  { dst := some 44, op := .mv (.t 7), grd := some (41, false) },
  { dst := some 45, op := .bin .leq (.t 43) (.t 44), grd := some (41, false) },
  { dst := some 46, op := .pick (.t 41) (.c (.b true)) (.t 45) }])
 (.cond (.t 46) (.seq (.reg false [{ dst := some 2, op := .mv (.c (.b false)) }])
 .ret)
 .skip))
 (.reg false [{ dst := some 47, op := .fa 1 (.t 9) },
  { dst := some 48, op := .ld none (.t 47) },
  { dst := some 7, op := .mv (.t 48) }]))))
 (.reg false [{ dst := some 49, op := .bin .add (.t 31) (.c (.i .i64 1)) },
  { dst := some 31, op := .mv (.t 49) }])))))))
 (.seq (.reg false [{ dst := some 50, op := .mv (.t 4) },
  { dst := some 51, op := .fa 4 (.t 1) },
  { dst := some 52, op := .ld none (.t 51) },
  { dst := some 53, op := .len (.t 52) },
  { dst := some 54, op := .bin .mul (.c (.i .i64 2)) (.t 53) },
  { dst := some 55, op := .bin .eql (.t 50) (.t 54) },
  { dst := some 2, op := .mv (.t 55) }])
 .ret)))))))) }
def A_graph_Check_1 : AFun := { res := [.t 4], body := (.seq (.reg false [{ dst := some 2, op := .box (.t 0) },
  { dst := some 3, op := .box (.t 1) },
  { dst := some 4, op := .mv (.c (.b false)) }])
 (.seq (.reg false [{ dst := some 5, op := .fa 1 (.t 2) },
  { dst := some 6, op := .ld none (.t 5) },
  { dst := some 7, op := .bin .eql (.t 6) (.c (.i .i64 1)) },
  { dst := some 8, op := .mv (.t 7) },
  { dst := some 9, op := .fa 0 (.t 2), grd := some (8, true) },
  { dst := some 10, op := .ld none (.t 9), grd := some (8, true) },
  { dst := some 11, op := .fa 0 (.t 3), grd := some (8, true) },
  { dst := some 12, op := .ld none (.t 11), grd := some (8, true) },
  { dst := some 13, op := .bin .eql (.t 10) (.t 12), grd := some (8, true) },
  { dst := some 14, op := .pick (.t 8) (.t 13) (.c (.b false)) },
  { dst := some 4, op := .mv (.t 14) }])
 .ret)) }
def A_graph_list : AFun := { res := [.t 6], body := (.seq (.reg false [{ dst := some 3, op := .box (.t 0) },
  { dst := some 6, op := .mv (.c (.b false)) }])
 (.seq (.seq (.reg false [{ dst := some 9, op := .mv (.t 1) },
  { dst := some 10, op := .len (.t 9) },
  { dst := some 11, op := .mv (.c (.i .i64 0)) }])
 (.blk 0 (.loop (.seq (.reg false [{ dst := some 12, op := .bin .lss (.t 11) (.t 10) }])
 (.seq (.cond (.t 12) .skip
 (.ext 0))
 (.seq (.blk 1 (.seq (.reg false [{ dst := some 13, op := .mv (.t 11) },
  { dst := some 14, op := .ia 2 (.t 9) (.t 11) },
  { dst := some 15, op := .ld (some 2) (.t 14) },
  { dst := some 8, op := .new ([.i .i64 0, .i .i64 0]) },
  { dst := some 7, op := .mv (.t 13) },
  { dst := none, op := .st 2 (.t 8) (.t 15) }])
 (.seq (.reg true [{ dst := some 16, op := .fa 0 (.t 8) },
  { dst := some 17, op := .ld none (.t 16), pre := [] },
  { dst := some 18, op := .bin .lss (.t 17) (.c (.i .i64 0)) },
  { dst := some 19, op := .mv (.t 18) },
  { dst := some 20, op := .fa 1 (.t 8), grd := some (19, false) },
  { dst := some 21, op := .ld none (.t 20), grd := some (19, false), pre := [] },
  { dst := some 22, op := .fa 1 (.t 3), grd := some (19, false) },
  { dst := some 23, op := .ld none (.t 22), grd := some (19, false), pre := [] },
  { dst := some 24, op := .len (.t 23), grd := some (19, false) },
  { dst := some 25, op := .bin .geq (.t 21) (.t 24), grd := some (19, false) },
  { dst := some 26, op := .pick (.t 19) (.c (.b true)) (.t 25) },
  { dst := some 27, op := .mv (.t 26) },
  { dst := some 28, op := .fa 0 (.t 8), grd := some (27, false) },
  { dst := some 29, op := .ld none (.t 28), grd := some (27, false), pre := [] },
  { dst := some 30, op := .fa 1 (.t 8), grd := some (27, false) },
  { dst := some 31, op := .ld none (.t 30), grd := some (27, false), pre := [] },
  { dst := some 32, op := .bin .geq (.t 29) (.t 31), grd := some (27, false) },
  { dst := some 33, op := .pick (.t 27) (.c (.b true)) (.t 32) },
  { dst := some 34, op := .mv (.t 33) },
  { dst := some 35, op := .mv (.t 7), grd := some (34, false) },
  { dst := some 36, op := .bin .gtr (.t 35) (.c (.i .i64 0)), grd := some (34, false) },
  { dst := some 37, op := .mv (.t 36), grd := some (34, false) },
  { dst := some 38, op := .mv (.t 1), grd := some (37, true) },
  { dst := some 39, op := .mv (.t 7), grd := some (37, true) },
  { dst := some 40, op := .bin .sub (.t 39) (.c (.i .i64 1)), grd := some (37, true) },
  { dst := some 41, op := .ia 2 (.t 38) (.t 40), grd := some (37, true) },
  { dst := some 42, op := .ld (some 2) (.t 41), grd := some (37, true), pre := [] },
  { dst := some 43, op := .ld (some 2) (.t 8), grd := some (37, true), pre := [] },
  { dst := some 44, op := .call .pure (.c (.fn 239 [] [])) [.t 42, .t 43], grd := some (37, true), pre := [] },
  { dst := some 45, op := .bin .geq (.t 44) (.c (.i .i64 0)), grd := some (37, true) },
  { dst := some 46, op := .pick (.t 37) (.t 45) (.c (.b false)), grd := some (34, false) },
  { dst := some 47, op := .pick (.t 34) (.c (.b true)) (.t 46) },
  { dst := some 48, op := .mv (.t 47) },
  { dst := some 49, op := .mv (.t 2), grd := some (48, false) },
  { dst := some 50, op := .fa 1 (.t 3), grd := some (48, false) },
  { dst := some 51, op := .ld none (.t 50), grd := some (48, false), pre := [] },
  { dst := some 52, op := .fa 0 (.t 8), grd := some (48, false) },
  { dst := some 53, op := .ld none (.t 52), grd := some (48, false), pre := [] },
  { dst := some 54, op := .ia 6 (.t 51) (.t 53), grd := some (48, false) },
  { dst := some 55, op := .ld (some 6) (.t 54), grd := some (48, false), pre := [] },
  { dst := some 56, op := .fa 1 (.t 3), grd := some (48, false) },
  { dst := some 57, op := .ld none (.t 56), grd := some (48, false), pre := [] },
  { dst := some 58, op := .fa 1 (.t 8), grd := some (48, false) },
  { dst := some 59, op := .ld none (.t 58), grd := some (48, false), pre := [] },
  { dst := some 60, op := .ia 6 (.t 57) (.t 59), grd := some (48, false) },
  { dst := some 61, op := .ld (some 6) (.t 60), grd := some (48, false), pre := [] },
  { dst := some 62, op := .call .pure (.t 49) [.t 55, .t 61], grd := some (48, false), pre := [] },
  { dst := some 63, op := .un .not (.t 62), grd := some (48, false) },
  { dst := some 64, op := .pick (.t 48) (.c (.b true)) (.t 63) }])
 (.cond (.t 64) (.seq (.reg false [{ dst := some 6, op := .mv (.c (.b false)) }])
 .ret)
 .skip))))
 (.reg false [{ dst := some 65, op := .bin .add (.t 11) (.c (.i .i64 1)) },
  { dst := some 11, op := .mv (.t 65) }])))))))
 (.seq (.reg false [{ dst := some 6, op := .mv (.c (.b true)) }])
 .ret))) }
def A_graph_event : AFun := { res := [.t 4], body := (.seq (.reg false [{ dst := some 2, op := .box (.t 0) },
  { dst := some 4, op := .mv (.c (.b false)) }])
 (.seq (.reg false [{ dst := some 6, op := .fa 3 (.t 2) },
  { dst := some 7, op := .ld none (.t 6) },
  { dst := some 8, op := .bin .geq (.t 7) (.c (.i .i64 0)) },
  { dst := some 9, op := .mv (.t 8) },
  { dst := some 10, op := .fa 3 (.t 2), grd := some (9, true) },
  { dst := some 11, op := .ld none (.t 10), grd := some (9, true) },
  { dst := some 12, op := .mv (.t 1), grd := some (9, true) },
  { dst := some 13, op := .bin .lss (.t 11) (.t 12), grd := some (9, true) },
  { dst := some 14, op := .pick (.t 9) (.t 13) (.c (.b false)) },
  { dst := some 5, op := .mv (.t 14) }])
 (.seq (.seq (.reg false [{ dst := some 15, op := .fa 1 (.t 2) },
  { dst := some 16, op := .ld none (.t 15) }])
 (.blk 0 (.seq (.reg false [{ dst := some 18, op := .bin .eql (.t 16) (.c (.i .i64 1)) },
  { dst := some 17, op := .mv (.t 18) }])
 (.cond (.t 17) (.seq (.reg false [{ dst := some 19, op := .mv (.t 5) },
  { dst := some 20, op := .mv (.t 19) },
  { dst := some 21, op := .fa 2 (.t 2), grd := some (20, true) },
  { dst := some 22, op := .ld none (.t 21), grd := some (20, true) },
  { dst := some 23, op := .bin .eql (.t 22) (.c (.i .i64 0)), grd := some (20, true) },
  { dst := some 24, op := .mv (.t 23), grd := some (20, true) },
  { dst := some 25, op := .fa 2 (.t 2), grd := some (24, false) },
  { dst := some 26, op := .ld none (.t 25), grd := some (24, false) },
  { dst := some 27, op := .bin .eql (.t 26) (.c (.i .i64 1)), grd := some (24, false) },
  { dst := some 28, op := .pick (.t 24) (.c (.b true)) (.t 27), grd := some (20, true) },
  { dst := some 29, op := .pick (.t 20) (.t 28) (.c (.b false)) },
  { dst := some 4, op := .mv (.t 29) }])
 .ret)
 (.seq (.reg false [{ dst := some 31, op := .bin .eql (.t 16) (.c (.i .i64 2)) },
  { dst := some 30, op := .mv (.t 31) }])
 (.cond (.t 30) (.seq (.reg false [{ dst := some 32, op := .mv (.t 5) },
  { dst := some 33, op := .mv (.t 32) },
  { dst := some 34, op := .fa 2 (.t 2), grd := some (33, true) },
  { dst := some 35, op := .ld none (.t 34), grd := some (33, true) },
  { dst := some 36, op := .bin .eql (.t 35) (.c (.i .i64 0)), grd := some (33, true) },
  { dst := some 37, op := .mv (.t 36), grd := some (33, true) },
  { dst := some 38, op := .fa 2 (.t 2), grd := some (37, false) },
  { dst := some 39, op := .ld none (.t 38), grd := some (37, false) },
  { dst := some 40, op := .bin .eql (.t 39) (.c (.i .i64 2)), grd := some (37, false) },
  { dst := some 41, op := .pick (.t 37) (.c (.b true)) (.t 40), grd := some (33, true) },
  { dst := some 42, op := .pick (.t 33) (.t 41) (.c (.b false)) },
  { dst := some 4, op := .mv (.t 42) }])
 .ret)
 .skip))))))
 (.seq (.reg false [{ dst := some 43, op := .fa 1 (.t 2) },
  { dst := some 44, op := .ld none (.t 43) },
  { dst := some 45, op := .bin .eql (.t 44) (.c (.i .i64 3)) },
  { dst := some 46, op := .mv (.t 45) },
  { dst := some 47, op := .fa 2 (.t 2), grd := some (46, true) },
  { dst := some 48, op := .ld none (.t 47), grd := some (46, true) },
  { dst := some 49, op := .bin .geq (.t 48) (.c (.i .i64 1)), grd := some (46, true) },
  { dst := some 50, op := .pick (.t 46) (.t 49) (.c (.b false)) },
  { dst := some 51, op := .mv (.t 50) },
  { dst := some 52, op := .fa 2 (.t 2), grd := some (51, true) },
  { dst := some 53, op := .ld none (.t 52), grd := some (51, true) },
  { dst := some 54, op := .bin .leq (.t 53) (.c (.i .i64 4)), grd := some (51, true) },
  { dst := some 55, op := .pick (.t 51) (.t 54) (.c (.b false)) },
  { dst := some 56, op := .mv (.t 55) },
  { dst := some 57, op := .fa 3 (.t 2), grd := some (56, true) },
  { dst := some 58, op := .ld none (.t 57), grd := some (56, true) },
  { dst := some 59, op := .bin .eql (.t 58) (.c (.i .i64 0)), grd := some (56, true) },
  { dst := some 60, op := .pick (.t 56) (.t 59) (.c (.b false)) },
  { dst := some 61, op := .mv (.t 60) },
  { dst := some 62, op := .fa 4 (.t 2), grd := some (61, true) },
  { dst := some 63, op := .ld none (.t 62), grd := some (61, true) },
  { dst := some 64, op := .bin .eql (.t 63) (.c (.i .i64 0)), grd := some (61, true) },
  { dst := some 65, op := .pick (.t 61) (.t 64) (.c (.b false)) },
  { dst := some 66, op := .mv (.t 65) },
  { dst := some 67, op := .fa 5 (.t 2), grd := some (66, true) },
  { dst := some 68, op := .ld none (.t 67), grd := some (66, true) },
  { dst := some 69, op := .un .not (.t 68), grd := some (66, true) },
  { dst := some 70, op := .pick (.t 66) (.t 69) (.c (.b false)) },
  { dst := some 4, op := .mv (.t 70) }])
 .ret)))) }
def A_graph_write : AFun := { res := [.t 6], body := (.seq (.reg false [{ dst := some 3, op := .box (.t 0) },
  { dst := some 6, op := .mv (.c (.b false)) }])
 (.seq (.reg false [{ dst := some 7, op := .mv (.t 1) },
  { dst := some 8, op := .bin .geq (.t 7) (.c (.i .i64 0)) },
  { dst := some 9, op := .mv (.t 8) },
  { dst := some 10, op := .mv (.t 1), grd := some (9, true) },
  { dst := some 11, op := .fa 1 (.t 3), grd := some (9, true) },
  { dst := some 12, op := .ld none (.t 11), grd := some (9, true) },
  { dst := some 13, op := .len (.t 12), grd := some (9, true) },
  { dst := some 14, op := .bin .lss (.t 10) (.t 13), grd := some (9, true) },
  { dst := some 15, op := .pick (.t 9) (.t 14) (.c (.b false)) },
  { dst := some 16, op := .mv (.t 15) },
  { dst := some 17, op := .fa 1 (.t 3), grd := some (16, true) },
  { dst := some 18, op := .ld none (.t 17), grd := some (16, true) },
  { dst := some 19, op := .mv (.t 1), grd := some (16, true) },
  { dst := some 20, op := .ia 6 (.t 18) (.t 19), grd := some (16, true) },
  { dst := some 21, op := .fa 1 (.t 20), grd := some (16, true) },
  { dst := some 22, op := .ld none (.t 21), grd := some (16, true) },
  { dst := some 23, op := .bin .eql (.t 22) (.c (.i .i64 2)), grd := some (16, true) },
  { dst := some 24, op := .pick (.t 16) (.t 23) (.c (.b false)) },
  { dst := some 25, op := .mv (.t 24) },
  { dst := some 26, op := .fa 1 (.t 3), grd := some (25, true) },
  { dst := some 27, op := .ld none (.t 26), grd := some (25, true) },
  { dst := some 28, op := .mv (.t 1), grd := some (25, true) },
  { dst := some 29, op := .ia 6 (.t 27) (.t 28), grd := some (25, true) },
  { dst := some 30, op := .fa 3 (.t 29), grd := some (25, true) },
  { dst := some 31, op := .ld none (.t 30), grd := some (25, true) },
  { dst := some 32, op := .mv (.t 2), grd := some (25, true) },
  { dst := some 33, op := .bin .eql (.t 31) (.t 32), grd := some (25, true) },
  { dst := some 34, op := .pick (.t 25) (.t 33) (.c (.b false)) },
  { dst := some 6, op := .mv (.t 34) }])
 .ret)) }
def A_graph_rmw_1 : AFun := { res := [.t 4], body := (.seq (.reg false [{ dst := some 2, op := .box (.t 0) },
  { dst := some 3, op := .box (.t 1) },
  { dst := some 4, op := .mv (.c (.b false)) }])
 (.seq (.reg false [{ dst := some 5, op := .fa 1 (.t 2) },
  { dst := some 6, op := .ld none (.t 5) },
  { dst := some 7, op := .bin .eql (.t 6) (.c (.i .i64 1)) },
  { dst := some 8, op := .mv (.t 7) },
  { dst := some 9, op := .fa 1 (.t 3), grd := some (8, true) },
  { dst := some 10, op := .ld none (.t 9), grd := some (8, true) },
  { dst := some 11, op := .bin .eql (.t 10) (.c (.i .i64 2)), grd := some (8, true) },
  { dst := some 12, op := .pick (.t 8) (.t 11) (.c (.b false)) },
  { dst := some 13, op := .mv (.t 12) },
  { dst := some 14, op := .fa 3 (.t 2), grd := some (13, true) },
  { dst := some 15, op := .ld none (.t 14), grd := some (13, true) },
  { dst := some 16, op := .fa 3 (.t 3), grd := some (13, true) },
  { dst := some 17, op := .ld none (.t 16), grd := some (13, true) },
  { dst := some 18, op := .bin .eql (.t 15) (.t 17), grd := some (13, true) },
  { dst := some 19, op := .pick (.t 13) (.t 18) (.c (.b false)) },
  { dst := some 20, op := .mv (.t 19) },
  { dst := some 21, op := .fa 5 (.t 2), grd := some (20, true) },
  { dst := some 22, op := .ld none (.t 21), grd := some (20, true) },
  { dst := some 23, op := .pick (.t 20) (.t 22) (.c (.b false)) },
  { dst := some 24, op := .mv (.t 23) },
  { dst := some 25, op := .fa 5 (.t 3), grd := some (24, true) },
  { dst := some 26, op := .ld none (.t 25), grd := some (24, true) },
  { dst := some 27, op := .pick (.t 24) (.t 26) (.c (.b false)) },
  { dst := some 28, op := .mv (.t 27) },
  { dst := some 29, op := .fa 0 (.t 2), grd := some (28, true) },
  { dst := some 30, op := .ld none (.t 29), grd := some (28, true) },
  { dst := some 31, op := .fa 0 (.t 3), grd := some (28, true) },
  { dst := some 32, op := .ld none (.t 31), grd := some (28, true) },
  { dst := some 33, op := .bin .eql (.t 30) (.t 32), grd := some (28, true) },
  { dst := some 34, op := .pick (.t 28) (.t 33) (.c (.b false)) },
  { dst := some 4, op := .mv (.t 34) }])
 .ret)) }
def A_graph_order : AFun := { res := [.t 4], body := (.seq (.reg false [{ dst := some 2, op := .box (.t 0) },
  { dst := some 3, op := .box (.t 1) },
  { dst := some 4, op := .mv (.c (.i .i64 0)) }])
 (.seq (.reg true [{ dst := some 5, op := .fa 0 (.t 2) },
  { dst := some 6, op := .ld none (.t 5), pre := [] },
  { dst := some 7, op := .fa 0 (.t 3) },
  { dst := some 8, op := .ld none (.t 7), pre := [] },
  { dst := some 9, op := .call .pure (.c (.fn 248 [] [])) [.t 6, .t 8], pre := [] },
  { dst := some 10, op := .fa 1 (.t 2) },
  { dst := some 11, op := .ld none (.t 10), pre := [] },
  { dst := some 12, op := .fa 1 (.t 3) },
  { dst := some 13, op := .ld none (.t 12), pre := [] },
  { dst := some 14, op := .call .pure (.c (.fn 248 [] [])) [.t 11, .t 13], pre := [] },
  { dst := some 15, op := .bsl true 2 ([.i .i64 0, .i .i64 0]) [(0, 1, .t 9), (1, 1, .t 14)], pre := [] },
  { dst := some 16, op := .call .pure (.c (.fn 249 [] [])) [.t 15], pre := [] },
  { dst := some 4, op := .mv (.t 16) }])
 .ret)) }
end Go.Ab
end
section
namespace Go.Ab
def A_imm_Consistent : AFun := { res := [.t 2], body := (.seq (.reg false [{ dst := some 1, op := .box (.t 0) },
  { dst := some 2, op := .mv (.c (.b false)) }])
 (.seq (.seq (.reg false [{ dst := some 6, op := .ld (some 8) (.t 1) },
  { dst := some 7, op := .call .pure (.c (.fn 152 [] [])) [.t 6] },
  { dst := some 8, op := .un .not (.t 7) }])
 (.cond (.t 8) (.seq (.reg false [{ dst := some 2, op := .mv (.c (.b false)) }])
 .ret)
 .skip))
 (.seq (.reg false [{ dst := some 9, op := .ld (some 8) (.t 1) },
  { dst := some 10, op := .build ([.i .i64 0] ++ List.replicate 7 (.sl [] 0 .rig)) [(0, 8, .t 9)] },
  { dst := some 3, op := .new ([.i .i64 0] ++ List.replicate 7 (.sl [] 0 .rig)) },
  { dst := none, op := .st 8 (.t 3) (.t 10) }])
 (.seq (.seq (.reg false [{ dst := some 11, op := .ld (some 8) (.t 3) },
  { dst := some 12, op := .mkfn 214 [.t 11] [] },
  { dst := some 13, op := .build ([.nilf]) [(0, 1, .t 12)] },
  { dst := some 14, op := .ld (some 8) (.t 3) },
  { dst := some 15, op := .mkfn 215 [.t 14] [] },
  { dst := some 16, op := .build ([.nilf]) [(0, 1, .t 15)] },
  { dst := some 17, op := .ld (some 8) (.t 3) },
  { dst := some 18, op := .mkfn 216 [.t 17] [] },
  { dst := some 19, op := .build ([.nilf]) [(0, 1, .t 18)] },
  { dst := some 20, op := .bsl true 3 ([.nilf, .nilf, .nilf]) [(0, 1, .t 13), (1, 1, .t 16), (2, 1, .t 19)] },
  { dst := some 21, op := .len (.t 20) },
  { dst := some 22, op := .mv (.c (.i .i64 0)) }])
 (.blk 0 (.loop (.seq (.reg false [{ dst := some 23, op := .bin .lss (.t 22) (.t 21) }])
 (.seq (.cond (.t 23) .skip
 (.ext 0))
 (.seq (.blk 1 (.seq (.reg false [{ dst := some 24, op := .ia 1 (.t 20) (.t 22) },
  { dst := some 25, op := .ld (some 1) (.t 24) },
  { dst := some 5, op := .new ([.nilf]) },
  { dst := none, op := .st 1 (.t 5) (.t 25) }])
 (.seq (.reg false [{ dst := some 26, op := .fa 0 (.t 5) },
  { dst := some 27, op := .ld none (.t 26) },
  { dst := some 28, op := .call .pure (.t 27) [] },
  { dst := some 29, op := .un .not (.t 28) }])
 (.cond (.t 29) (.seq (.reg false [{ dst := some 2, op := .mv (.c (.b false)) }])
 .ret)
 .skip))))
 (.reg false [{ dst := some 30, op := .bin .add (.t 22) (.c (.i .i64 1)) },
  { dst := some 22, op := .mv (.t 30) }])))))))
 (.seq (.reg false [{ dst := some 2, op := .mv (.c (.b true)) }])
 .ret))))) }
def A_imm_Atomic : AFun := { res := [.t 2], body := (.seq (.reg false [{ dst := some 1, op := .box (.t 0) },
  { dst := some 2, op := .mv (.c (.b false)) }])
 (.seq (.reg false [{ dst := some 3, op := .ld (some 8) (.t 1) },
  { dst := some 4, op := .build ([.i .i64 0] ++ List.replicate 7 (.sl [] 0 .rig)) [(0, 8, .t 3)] },
  { dst := some 5, op := .call .pure (.c (.fn 215 [] [])) [.t 4] },
  { dst := some 2, op := .mv (.t 5) }])
 .ret)) }
def A_imm_Coherent : AFun := { res := [.t 2], body := (.seq (.reg false [{ dst := some 1, op := .box (.t 0) },
  { dst := some 2, op := .mv (.c (.b false)) }])
 (.seq (.reg false [{ dst := some 3, op := .ld (some 8) (.t 1) },
  { dst := some 4, op := .build ([.i .i64 0] ++ List.replicate 7 (.sl [] 0 .rig)) [(0, 8, .t 3)] },
  { dst := some 5, op := .call .pure (.c (.fn 214 [] [])) [.t 4] },
  { dst := some 2, op := .mv (.t 5) }])
 .ret)) }
def A_imm_looked_coherent : AFun := { res := [.t 2], body := (.seq (.reg false [{ dst := some 1, op := .box (.t 0) },
  { dst := some 2, op := .mv (.c (.b false)) }])
 (.seq (.reg false [{ dst := some 6, op := .fa 0 (.t 1) },
  { dst := some 7, op := .ld (some 8) (.t 6) },
  { dst := some 8, op := .call .pure (.c (.fn 148 [] [])) [.t 7] },
  { dst := some 3, op := .mv (.t 8) }])
 (.seq (.reg false [{ dst := some 9, op := .mv (.t 3) },
  { dst := some 10, op := .mv (.t 3) },
  { dst := some 11, op := .fa 0 (.t 1) },
  { dst := some 12, op := .ld (some 8) (.t 11) },
  { dst := some 13, op := .call .pure (.c (.fn 42 [] [])) [.t 12] },
  { dst := some 14, op := .call .pure (.c (.fn 23 [] [])) [.t 10, .t 13] },
  { dst := some 15, op := .call .pure (.c (.fn 24 [] [])) [.t 9, .t 14] },
  { dst := some 4, op := .mv (.t 15) }])
 (.seq (.seq (.reg false [{ dst := some 16, op := .fa 0 (.t 1) },
  { dst := some 17, op := .fa 1 (.t 16) },
  { dst := some 18, op := .ld none (.t 17) },
  { dst := some 19, op := .len (.t 18) },
  { dst := some 20, op := .mv (.c (.i .i64 0)) }])
 (.blk 0 (.loop (.seq (.reg false [{ dst := some 21, op := .bin .lss (.t 20) (.t 19) }])
 (.seq (.cond (.t 21) .skip
 (.ext 0))
 (.seq (.blk 1 (.seq (.reg false [{ dst := some 22, op := .mv (.t 20) },
  { dst := some 5, op := .mv (.t 22) }])
 (.seq (.reg false [{ dst := some 23, op := .mv (.t 4) },
  { dst := some 24, op := .mv (.t 5) },
  { dst := some 25, op := .mv (.t 5) },
  { dst := some 26, op := .call .pure (.c (.fn 13 [] [])) [.t 23, .t 24, .t 25] }])
 (.cond (.t 26) (.seq (.reg false [{ dst := some 2, op := .mv (.c (.b false)) }])
 .ret)
 .skip))))
 (.reg false [{ dst := some 27, op := .bin .add (.t 20) (.c (.i .i64 1)) },
  { dst := some 20, op := .mv (.t 27) }])))))))
 (.seq (.reg false [{ dst := some 2, op := .mv (.c (.b true)) }])
 .ret))))) }
def A_imm_looked_atomic : AFun := { res := [.t 2], body := (.seq (.reg false [{ dst := some 1, op := .box (.t 0) },
  { dst := some 2, op := .mv (.c (.b false)) }])
 (.seq (.reg false [{ dst := some 5, op := .fa 0 (.t 1) },
  { dst := some 6, op := .ld (some 8) (.t 5) },
  { dst := some 3, op := .new ([.i .i64 0] ++ List.replicate 7 (.sl [] 0 .rig)) },
  { dst := none, op := .st 8 (.t 3) (.t 6) }])
 (.seq (.reg true [{ dst := some 7, op := .ld (some 8) (.t 3), pre := [] },
  { dst := some 8, op := .ld (some 8) (.t 3), pre := [] },
  { dst := some 9, op := .call .pure (.c (.fn 50 [] [])) [.t 8], pre := [] },
  { dst := some 10, op := .call .pure (.c (.fn 40 [] [])) [.t 7, .t 9], pre := [] },
  { dst := some 11, op := .ld (some 8) (.t 3), pre := [] },
  { dst := some 12, op := .ld (some 8) (.t 3), pre := [] },
  { dst := some 13, op := .call .pure (.c (.fn 49 [] [])) [.t 12], pre := [] },
  { dst := some 14, op := .call .pure (.c (.fn 40 [] [])) [.t 11, .t 13], pre := [] },
  { dst := some 15, op := .call .pure (.c (.fn 23 [] [])) [.t 10, .t 14], pre := [] },
  { dst := some 4, op := .mv (.t 15) }])
 (.seq (.reg false [{ dst := some 16, op := .ld (some 8) (.t 3) },
  { dst := some 17, op := .fa 4 (.t 3) },
  { dst := some 18, op := .ld none (.t 17) },
  { dst := some 19, op := .call .pure (.c (.fn 81 [] [])) [.t 16, .t 18] },
  { dst := some 20, op := .mv (.t 4) },
  { dst := some 21, op := .call .pure (.c (.fn 18 [] [])) [.t 19, .t 20] },
  { dst := some 22, op := .call .pure (.c (.fn 15 [] [])) [.t 21] },
  { dst := some 23, op := .len (.t 22) },
  { dst := some 24, op := .bin .eql (.t 23) (.c (.i .i64 0)) },
  { dst := some 2, op := .mv (.t 24) }])
 .ret)))) }
def A_imm_looked_ordered : AFun := { res := [.t 2], body := (.seq (.reg false [{ dst := some 1, op := .box (.t 0) },
  { dst := some 2, op := .mv (.c (.b false)) }])
 (.seq (.reg false [{ dst := some 3, op := .fa 0 (.t 1) },
  { dst := some 4, op := .ld (some 8) (.t 3) },
  { dst := some 5, op := .call .pure (.c (.fn 156 [] [])) [.t 4] },
  { dst := some 6, op := .call .pure (.c (.fn 14 [] [])) [.t 5] },
  { dst := some 7, op := .un .not (.t 6) },
  { dst := some 2, op := .mv (.t 7) }])
 .ret)) }
def A_imm_Ordered : AFun := { res := [.t 2], body := (.seq (.reg false [{ dst := some 1, op := .box (.t 0) },
  { dst := some 2, op := .mv (.c (.b false)) }])
 (.seq (.reg false [{ dst := some 3, op := .ld (some 8) (.t 1) },
  { dst := some 4, op := .build ([.i .i64 0] ++ List.replicate 7 (.sl [] 0 .rig)) [(0, 8, .t 3)] },
  { dst := some 5, op := .call .pure (.c (.fn 216 [] [])) [.t 4] },
  { dst := some 2, op := .mv (.t 5) }])
 .ret)) }
structure Pk_imm (F : Funs) : Prop where
  imm_Consistent : F 161 = some A_imm_Consistent
  imm_Atomic : F 162 = some A_imm_Atomic
  imm_Coherent : F 164 = some A_imm_Coherent
  imm_looked_coherent : F 214 = some A_imm_looked_coherent
  imm_looked_atomic : F 215 = some A_imm_looked_atomic
  imm_looked_ordered : F 216 = some A_imm_looked_ordered
  imm_Ordered : F 217 = some A_imm_Ordered
end Go.Ab
end
section
namespace Go.Ab
def A_order_Bob : AFun := { res := [.t 2], body := (.seq (.reg false [{ dst := some 1, op := .boxI (.t 0) },
  { dst := some 2, op := .mv (.c (.nilp)) }])
 (.seq (.reg false [{ dst := some 4, op := .ld (some 8) (.t 1) },
  { dst := some 5, op := .call .pure (.c (.fn 60 [] [])) [.t 4] },
  { dst := some 3, op := .new ([.nilp]) },
  { dst := none, op := .st 1 (.t 3) (.t 5) }])
 (.seq (.imm 3 (.reg false [{ dst := some 6, op := .ld (some 8) (.t 1) },
  { dst := some 7, op := .mkfn 194 [] [.t 3, .t 1] },
  { dst := some 8, op := .mkfn 197 [] [.t 1, .t 3] },
  { dst := some 9, op := .mkfn 199 [] [.t 3, .t 1] },
  { dst := some 10, op := .mkfn 201 [] [.t 1, .t 3] },
  { dst := some 11, op := .mkfn 202 [] [.t 1] },
  { dst := some 12, op := .bsl true 5 (List.replicate 5 (.nilf)) [(0, 1, .t 7), (1, 1, .t 8), (2, 1, .t 9), (3, 1, .t 10), (4, 1, .t 11)] },
  { dst := some 13, op := .call .pure (.c (.fn 193 [] [])) [.t 6, .t 12] },
  { dst := some 2, op := .mv (.t 13) }]))
 .ret))) }
def A_order_Ar : AFun := { res := [.t 2], body := (.seq (.reg false [{ dst := some 1, op := .boxI (.t 0) },
  { dst := some 2, op := .mv (.c (.nilp)) }])
 (.seq (.reg false [{ dst := some 3, op := .ld (some 8) (.t 1) },
  { dst := some 4, op := .mkfn 204 [] [.t 1] },
  { dst := some 5, op := .mkfn 205 [] [.t 1] },
  { dst := some 6, op := .mkfn 206 [] [.t 1] },
  { dst := some 7, op := .mkfn 208 [] [.t 1] },
  { dst := some 8, op := .mkfn 210 [] [.t 1] },
  { dst := some 9, op := .bsl true 5 (List.replicate 5 (.nilf)) [(0, 1, .t 4), (1, 1, .t 5), (2, 1, .t 6), (3, 1, .t 7), (4, 1, .t 8)] },
  { dst := some 10, op := .call .pure (.c (.fn 193 [] [])) [.t 3, .t 9] },
  { dst := some 2, op := .mv (.t 10) }])
 .ret)) }
def A_order_all : AFun := { res := [.t 4], body := (.seq (.reg false [{ dst := some 2, op := .box (.t 0) },
  { dst := some 4, op := .mv (.c (.nilp)) }])
 (.seq (.reg false [{ dst := some 8, op := .fa 1 (.t 2) },
  { dst := some 9, op := .ld none (.t 8) },
  { dst := some 10, op := .len (.t 9) },
  { dst := some 11, op := .call .pure (.c (.fn 11 [] [])) [.t 10, .c (.sl [] 0 .rig)] },
  { dst := some 5, op := .mv (.t 11) }])
 (.seq (.seq (.reg false [{ dst := some 12, op := .mv (.t 1) },
  { dst := some 13, op := .len (.t 12) },
  { dst := some 14, op := .mv (.c (.i .i64 0)) }])
 (.blk 0 (.loop (.seq (.reg false [{ dst := some 15, op := .bin .lss (.t 14) (.t 13) }])
 (.seq (.cond (.t 15) .skip
 (.ext 0))
 (.seq (.blk 1 (.seq (.reg false [{ dst := some 16, op := .ia 1 (.t 12) (.t 14) },
  { dst := some 17, op := .ld none (.t 16) },
  { dst := some 7, op := .mv (.t 17) }])
 (.reg false [{ dst := some 18, op := .mv (.t 5) },
  { dst := some 19, op := .mv (.t 7) },
  { dst := some 20, op := .call .pure (.t 19) [] },
  { dst := some 21, op := .call .pure (.c (.fn 24 [] [])) [.t 18, .t 20] },
  { dst := some 5, op := .mv (.t 21) }])))
 (.reg false [{ dst := some 22, op := .bin .add (.t 14) (.c (.i .i64 1)) },
  { dst := some 14, op := .mv (.t 22) }])))))))
 (.seq (.reg false [{ dst := some 23, op := .mv (.t 5) },
  { dst := some 4, op := .mv (.t 23) }])
 .ret)))) }
def A_order_Bob_1 : AFun := { res := [.t 2], body := (.seq (.reg false [{ dst := some 2, op := .mv (.c (.nilp)) }])
 (.seq (.reg true [{ dst := some 3, op := .ld none (.t 0), pre := [] },
  { dst := some 4, op := .ld (some 8) (.t 1), pre := [] },
  { dst := some 5, op := .call .pure (.c (.fn 195 [] [])) [.t 4, .c (.fn 196 [] [])], pre := [] },
  { dst := some 6, op := .call .pure (.c (.fn 23 [] [])) [.t 3, .t 5], pre := [] },
  { dst := some 2, op := .mv (.t 6) }])
 .ret)) }
def A_order_set : AFun := { res := [.t 4], body := (.seq (.reg false [{ dst := some 2, op := .box (.t 0) },
  { dst := some 4, op := .mv (.c (.nilp)) }])
 (.seq (.reg false [{ dst := some 5, op := .ld (some 8) (.t 2) },
  { dst := some 6, op := .mv (.t 1) },
  { dst := some 7, op := .call .pure (.c (.fn 166 [] [])) [.t 5, .t 6] },
  { dst := some 4, op := .mv (.t 7) }])
 .ret)) }
def A_order_isRel : AFun := { res := [.t 2], body := (.seq (.reg false [{ dst := some 1, op := .box (.t 0) },
  { dst := some 2, op := .mv (.c (.b false)) }])
 (.seq (.reg false [{ dst := some 3, op := .ld (some 6) (.t 1) },
  { dst := some 4, op := .call .pure (.c (.fn 203 [] [])) [.t 3] },
  { dst := some 5, op := .mv (.t 4) },
  { dst := some 6, op := .fa 2 (.t 1), grd := some (5, true) },
  { dst := some 7, op := .ld none (.t 6), grd := some (5, true) },
  { dst := some 8, op := .bin .eql (.t 7) (.c (.i .i64 2)), grd := some (5, true) },
  { dst := some 9, op := .pick (.t 5) (.t 8) (.c (.b false)) },
  { dst := some 2, op := .mv (.t 9) }])
 .ret)) }
def A_order_Bob_2 : AFun := { res := [.t 2], body := (.seq (.reg false [{ dst := some 2, op := .mv (.c (.nilp)) }])
 (.seq (.reg true [{ dst := some 3, op := .ld (some 8) (.t 0), pre := [] },
  { dst := some 4, op := .call .pure (.c (.fn 195 [] [])) [.t 3, .c (.fn 198 [] [])], pre := [] },
  { dst := some 5, op := .ld none (.t 1), pre := [] },
  { dst := some 6, op := .call .pure (.c (.fn 23 [] [])) [.t 4, .t 5], pre := [] },
  { dst := some 2, op := .mv (.t 6) }])
 .ret)) }
def A_order_isAcq : AFun := { res := [.t 2], body := (.seq (.reg false [{ dst := some 1, op := .box (.t 0) },
  { dst := some 2, op := .mv (.c (.b false)) }])
 (.seq (.reg false [{ dst := some 3, op := .ld (some 6) (.t 1) },
  { dst := some 4, op := .call .pure (.c (.fn 240 [] [])) [.t 3] },
  { dst := some 5, op := .mv (.t 4) },
  { dst := some 6, op := .fa 2 (.t 1), grd := some (5, true) },
  { dst := some 7, op := .ld none (.t 6), grd := some (5, true) },
  { dst := some 8, op := .bin .eql (.t 7) (.c (.i .i64 1)), grd := some (5, true) },
  { dst := some 9, op := .pick (.t 5) (.t 8) (.c (.b false)) },
  { dst := some 2, op := .mv (.t 9) }])
 .ret)) }
def A_order_Bob_3 : AFun := { res := [.t 2], body := (.seq (.reg false [{ dst := some 2, op := .mv (.c (.nilp)) }])
 (.seq (.reg true [{ dst := some 3, op := .ld none (.t 0), pre := [] },
  { dst := some 4, op := .ld (some 8) (.t 1), pre := [] },
  { dst := some 5, op := .call .pure (.c (.fn 195 [] [])) [.t 4, .c (.fn 200 [] [])], pre := [] },
  { dst := some 6, op := .call .pure (.c (.fn 23 [] [])) [.t 3, .t 5], pre := [] },
  { dst := some 2, op := .mv (.t 6) }])
 .ret)) }
def A_order_isF : AFun := { res := [.t 2], body := (.seq (.reg false [{ dst := some 1, op := .box (.t 0) },
  { dst := some 2, op := .mv (.c (.b false)) }])
 (.seq (.reg false [{ dst := some 3, op := .fa 1 (.t 1) },
  { dst := some 4, op := .ld none (.t 3) },
  { dst := some 5, op := .bin .eql (.t 4) (.c (.i .i64 3)) },
  { dst := some 2, op := .mv (.t 5) }])
 .ret)) }
def A_order_Bob_4 : AFun := { res := [.t 2], body := (.seq (.reg false [{ dst := some 2, op := .mv (.c (.nilp)) }])
 (.seq (.reg true [{ dst := some 3, op := .ld (some 8) (.t 0), pre := [] },
  { dst := some 4, op := .call .pure (.c (.fn 195 [] [])) [.t 3, .c (.fn 200 [] [])], pre := [] },
  { dst := some 5, op := .ld none (.t 1), pre := [] },
  { dst := some 6, op := .call .pure (.c (.fn 23 [] [])) [.t 4, .t 5], pre := [] },
  { dst := some 2, op := .mv (.t 6) }])
 .ret)) }
def A_order_Bob_5 : AFun := { res := [.t 1], body := (.seq (.reg false [{ dst := some 1, op := .mv (.c (.nilp)) }])
 (.seq (.reg true [{ dst := some 2, op := .ld (some 8) (.t 0), pre := [] },
  { dst := some 3, op := .call .pure (.c (.fn 195 [] [])) [.t 2, .c (.fn 196 [] [])], pre := [] },
  { dst := some 4, op := .ld (some 8) (.t 0), pre := [] },
  { dst := some 5, op := .call .pure (.c (.fn 41 [] [])) [.t 4], pre := [] },
  { dst := some 6, op := .call .pure (.c (.fn 23 [] [])) [.t 3, .t 5], pre := [] },
  { dst := some 7, op := .ld (some 8) (.t 0), pre := [] },
  { dst := some 8, op := .call .pure (.c (.fn 195 [] [])) [.t 7, .c (.fn 203 [] [])], pre := [] },
  { dst := some 9, op := .call .pure (.c (.fn 23 [] [])) [.t 6, .t 8], pre := [] },
  { dst := some 1, op := .mv (.t 9) }])
 .ret)) }
def A_order_isW : AFun := { res := [.t 2], body := (.seq (.reg false [{ dst := some 1, op := .box (.t 0) },
  { dst := some 2, op := .mv (.c (.b false)) }])
 (.seq (.reg false [{ dst := some 3, op := .fa 1 (.t 1) },
  { dst := some 4, op := .ld none (.t 3) },
  { dst := some 5, op := .bin .eql (.t 4) (.c (.i .i64 2)) },
  { dst := some 2, op := .mv (.t 5) }])
 .ret)) }
def A_order_Ar_1 : AFun := { res := [.t 1], body := (.seq (.reg false [{ dst := some 1, op := .mv (.c (.nilp)) }])
 (.seq (.reg true [{ dst := some 2, op := .ld (some 8) (.t 0), pre := [] },
  { dst := some 3, op := .ld (some 8) (.t 0), pre := [] },
  { dst := some 4, op := .call .pure (.c (.fn 48 [] [])) [.t 3], pre := [] },
  { dst := some 5, op := .call .pure (.c (.fn 40 [] [])) [.t 2, .t 4], pre := [] },
  { dst := some 1, op := .mv (.t 5) }])
 .ret)) }
def A_order_Ar_2 : AFun := { res := [.t 1], body := (.seq (.reg false [{ dst := some 1, op := .mv (.c (.nilp)) }])
 (.seq (.reg false [{ dst := some 2, op := .ld (some 8) (.t 0) },
  { dst := some 3, op := .call .pure (.c (.fn 155 [] [])) [.t 2] },
  { dst := some 1, op := .mv (.t 3) }])
 .ret)) }
def A_order_Ar_3 : AFun := { res := [.t 1], body := (.seq (.reg false [{ dst := some 1, op := .mv (.c (.nilp)) }])
 (.seq (.reg false [{ dst := some 2, op := .ld (some 8) (.t 0) },
  { dst := some 3, op := .call .pure (.c (.fn 207 [] [])) [.t 2] },
  { dst := some 1, op := .mv (.t 3) }])
 .ret)) }
def A_order_Ppo : AFun := { res := [.t 2], body := (.seq (.reg false [{ dst := some 1, op := .box (.t 0) },
  { dst := some 2, op := .mv (.c (.nilp)) }])
 (.seq (.reg true [{ dst := some 4, op := .ld (some 8) (.t 1), pre := [] },
  { dst := some 5, op := .call .pure (.c (.fn 213 [] [])) [.t 4], pre := [] },
  { dst := some 6, op := .ld (some 8) (.t 1), pre := [] },
  { dst := some 7, op := .ld (some 8) (.t 1), pre := [] },
  { dst := some 8, op := .call .pure (.c (.fn 48 [] [])) [.t 7], pre := [] },
  { dst := some 9, op := .call .pure (.c (.fn 39 [] [])) [.t 6, .t 8], pre := [] },
  { dst := some 10, op := .call .pure (.c (.fn 24 [] [])) [.t 5, .t 9], pre := [] },
  { dst := some 11, op := .call .pure (.c (.fn 12 [] [])) [.t 10], pre := [] },
  { dst := some 3, op := .mv (.t 11) }])
 (.seq (.reg true [{ dst := some 12, op := .ld (some 8) (.t 1), pre := [] },
  { dst := some 13, op := .call .pure (.c (.fn 195 [] [])) [.t 12, .c (.fn 240 [] [])], pre := [] },
  { dst := some 14, op := .mv (.t 3) },
  { dst := some 15, op := .call .pure (.c (.fn 23 [] [])) [.t 13, .t 14], pre := [] },
  { dst := some 16, op := .ld (some 8) (.t 1), pre := [] },
  { dst := some 17, op := .call .pure (.c (.fn 195 [] [])) [.t 16, .c (.fn 203 [] [])], pre := [] },
  { dst := some 18, op := .call .pure (.c (.fn 23 [] [])) [.t 15, .t 17], pre := [] },
  { dst := some 2, op := .mv (.t 18) }])
 .ret))) }
def A_order_Ar_4 : AFun := { res := [.t 1], body := (.seq (.reg false [{ dst := some 1, op := .mv (.c (.nilp)) }])
 (.seq (.reg false [{ dst := some 2, op := .ld (some 8) (.t 0) },
  { dst := some 3, op := .call .pure (.c (.fn 209 [] [])) [.t 2] },
  { dst := some 1, op := .mv (.t 3) }])
 .ret)) }
def A_order_Detour : AFun := { res := [.t 2], body := (.seq (.reg false [{ dst := some 1, op := .box (.t 0) },
  { dst := some 2, op := .mv (.c (.nilp)) }])
 (.seq (.reg true [{ dst := some 4, op := .ld (some 8) (.t 1), pre := [] },
  { dst := some 5, op := .ld (some 8) (.t 1), pre := [] },
  { dst := some 6, op := .call .pure (.c (.fn 49 [] [])) [.t 5], pre := [] },
  { dst := some 7, op := .call .pure (.c (.fn 40 [] [])) [.t 4, .t 6], pre := [] },
  { dst := some 8, op := .ld (some 8) (.t 1), pre := [] },
  { dst := some 9, op := .ld (some 8) (.t 1), pre := [] },
  { dst := some 10, op := .call .pure (.c (.fn 48 [] [])) [.t 9], pre := [] },
  { dst := some 11, op := .call .pure (.c (.fn 40 [] [])) [.t 8, .t 10], pre := [] },
  { dst := some 12, op := .call .pure (.c (.fn 23 [] [])) [.t 7, .t 11], pre := [] },
  { dst := some 3, op := .mv (.t 12) }])
 (.seq (.reg false [{ dst := some 13, op := .mv (.t 3) },
  { dst := some 14, op := .ld (some 8) (.t 1) },
  { dst := some 15, op := .call .pure (.c (.fn 60 [] [])) [.t 14] },
  { dst := some 16, op := .call .pure (.c (.fn 18 [] [])) [.t 13, .t 15] },
  { dst := some 2, op := .mv (.t 16) }])
 .ret))) }
def A_order_Ar_5 : AFun := { res := [.t 1], body := (.seq (.reg false [{ dst := some 1, op := .mv (.c (.nilp)) }])
 (.seq (.reg false [{ dst := some 2, op := .ld (some 8) (.t 0) },
  { dst := some 3, op := .call .pure (.c (.fn 211 [] [])) [.t 2] },
  { dst := some 1, op := .mv (.t 3) }])
 .ret)) }
def A_order_Psc : AFun := { res := [.t 2], body := (.seq (.reg false [{ dst := some 1, op := .box (.t 0) },
  { dst := some 2, op := .mv (.c (.nilp)) }])
 (.seq (.reg true [{ dst := some 5, op := .ld (some 8) (.t 1), pre := [] },
  { dst := some 6, op := .call .pure (.c (.fn 195 [] [])) [.t 5, .c (.fn 241 [] [])], pre := [] },
  { dst := some 7, op := .ld (some 8) (.t 1), pre := [] },
  { dst := some 8, op := .call .pure (.c (.fn 148 [] [])) [.t 7], pre := [] },
  { dst := some 3, op := .mv (.t 6) },
  { dst := some 4, op := .mv (.t 8) }])
 (.seq (.reg true [{ dst := some 9, op := .mv (.t 3) },
  { dst := some 10, op := .mv (.t 4) },
  { dst := some 11, op := .call .pure (.c (.fn 23 [] [])) [.t 9, .t 10], pre := [] },
  { dst := some 12, op := .ld (some 8) (.t 1), pre := [] },
  { dst := some 13, op := .call .pure (.c (.fn 42 [] [])) [.t 12], pre := [] },
  { dst := some 14, op := .call .pure (.c (.fn 23 [] [])) [.t 11, .t 13], pre := [] },
  { dst := some 15, op := .mv (.t 4) },
  { dst := some 16, op := .call .pure (.c (.fn 23 [] [])) [.t 14, .t 15], pre := [] },
  { dst := some 17, op := .mv (.t 3) },
  { dst := some 18, op := .call .pure (.c (.fn 23 [] [])) [.t 16, .t 17], pre := [] },
  { dst := some 2, op := .mv (.t 18) }])
 .ret))) }
def A_order_Deps : AFun := { res := [.t 2], body := (.seq (.reg false [{ dst := some 1, op := .boxI (.t 0) },
  { dst := some 2, op := .mv (.c (.nilp)) }])
 (.seq (.reg false [{ dst := some 3, op := .ld (some 8) (.t 1) },
  { dst := some 4, op := .mkfn 242 [] [.t 1] },
  { dst := some 5, op := .mkfn 243 [] [.t 1] },
  { dst := some 6, op := .mkfn 244 [] [.t 1] },
  { dst := some 7, op := .bsl true 3 ([.nilf, .nilf, .nilf]) [(0, 1, .t 4), (1, 1, .t 5), (2, 1, .t 6)] },
  { dst := some 8, op := .call .pure (.c (.fn 193 [] [])) [.t 3, .t 7] },
  { dst := some 2, op := .mv (.t 8) }])
 .ret)) }
def A_order_isR : AFun := { res := [.t 2], body := (.seq (.reg false [{ dst := some 1, op := .box (.t 0) },
  { dst := some 2, op := .mv (.c (.b false)) }])
 (.seq (.reg false [{ dst := some 3, op := .fa 1 (.t 1) },
  { dst := some 4, op := .ld none (.t 3) },
  { dst := some 5, op := .bin .eql (.t 4) (.c (.i .i64 1)) },
  { dst := some 2, op := .mv (.t 5) }])
 .ret)) }
def A_order_isSc : AFun := { res := [.t 2], body := (.seq (.reg false [{ dst := some 1, op := .box (.t 0) },
  { dst := some 2, op := .mv (.c (.b false)) }])
 (.seq (.reg false [{ dst := some 3, op := .ld (some 6) (.t 1) },
  { dst := some 4, op := .call .pure (.c (.fn 200 [] [])) [.t 3] },
  { dst := some 5, op := .mv (.t 4) },
  { dst := some 6, op := .fa 2 (.t 1), grd := some (5, true) },
  { dst := some 7, op := .ld none (.t 6), grd := some (5, true) },
  { dst := some 8, op := .bin .eql (.t 7) (.c (.i .i64 4)), grd := some (5, true) },
  { dst := some 9, op := .pick (.t 5) (.t 8) (.c (.b false)) },
  { dst := some 2, op := .mv (.t 9) }])
 .ret)) }
def A_order_Deps_1 : AFun := { res := [.t 1], body := (.seq (.reg false [{ dst := some 1, op := .mv (.c (.nilp)) }])
 (.seq (.reg false [{ dst := some 2, op := .ld (some 8) (.t 0) },
  { dst := some 3, op := .fa 5 (.t 0) },
  { dst := some 4, op := .ld none (.t 3) },
  { dst := some 5, op := .call .pure (.c (.fn 81 [] [])) [.t 2, .t 4] },
  { dst := some 1, op := .mv (.t 5) }])
 .ret)) }
def A_order_Deps_2 : AFun := { res := [.t 1], body := (.seq (.reg false [{ dst := some 1, op := .mv (.c (.nilp)) }])
 (.seq (.reg false [{ dst := some 2, op := .ld (some 8) (.t 0) },
  { dst := some 3, op := .fa 6 (.t 0) },
  { dst := some 4, op := .ld none (.t 3) },
  { dst := some 5, op := .call .pure (.c (.fn 81 [] [])) [.t 2, .t 4] },
  { dst := some 1, op := .mv (.t 5) }])
 .ret)) }
def A_order_Deps_3 : AFun := { res := [.t 1], body := (.seq (.reg false [{ dst := some 1, op := .mv (.c (.nilp)) }])
 (.seq (.reg true [{ dst := some 2, op := .ld (some 8) (.t 0), pre := [] },
  { dst := some 3, op := .call .pure (.c (.fn 195 [] [])) [.t 2, .c (.fn 245 [] [])], pre := [] },
  { dst := some 4, op := .ld (some 8) (.t 0), pre := [] },
  { dst := some 5, op := .call .pure (.c (.fn 60 [] [])) [.t 4], pre := [] },
  { dst := some 6, op := .call .pure (.c (.fn 23 [] [])) [.t 3, .t 5], pre := [] },
  { dst := some 1, op := .mv (.t 6) }])
 .ret)) }
def A_order_isEx : AFun := { res := [.t 2], body := (.seq (.reg false [{ dst := some 1, op := .box (.t 0) },
  { dst := some 2, op := .mv (.c (.b false)) }])
 (.seq (.reg false [{ dst := some 3, op := .ld (some 6) (.t 1) },
  { dst := some 4, op := .call .pure (.c (.fn 240 [] [])) [.t 3] },
  { dst := some 5, op := .mv (.t 4) },
  { dst := some 6, op := .fa 5 (.t 1), grd := some (5, true) },
  { dst := some 7, op := .ld none (.t 6), grd := some (5, true) },
  { dst := some 8, op := .pick (.t 5) (.t 7) (.c (.b false)) },
  { dst := some 2, op := .mv (.t 8) }])
 .ret)) }
structure Pk_order (F : Funs) : Prop where
  order_Bob : F 155 = some A_order_Bob
  order_Ar : F 156 = some A_order_Ar
  order_all : F 193 = some A_order_all
  order_Bob_1 : F 194 = some A_order_Bob_1
  order_set : F 195 = some A_order_set
  order_isRel : F 196 = some A_order_isRel
  order_Bob_2 : F 197 = some A_order_Bob_2
  order_isAcq : F 198 = some A_order_isAcq
  order_Bob_3 : F 199 = some A_order_Bob_3
  order_isF : F 200 = some A_order_isF
  order_Bob_4 : F 201 = some A_order_Bob_4
  order_Bob_5 : F 202 = some A_order_Bob_5
  order_isW : F 203 = some A_order_isW
  order_Ar_1 : F 204 = some A_order_Ar_1
  order_Ar_2 : F 205 = some A_order_Ar_2
  order_Ar_3 : F 206 = some A_order_Ar_3
  order_Ppo : F 207 = some A_order_Ppo
  order_Ar_4 : F 208 = some A_order_Ar_4
  order_Detour : F 209 = some A_order_Detour
  order_Ar_5 : F 210 = some A_order_Ar_5
  order_Psc : F 211 = some A_order_Psc
  order_Deps : F 213 = some A_order_Deps
  order_isR : F 240 = some A_order_isR
  order_isSc : F 241 = some A_order_isSc
  order_Deps_1 : F 242 = some A_order_Deps_1
  order_Deps_2 : F 243 = some A_order_Deps_2
  order_Deps_3 : F 244 = some A_order_Deps_3
  order_isEx : F 245 = some A_order_isEx
end Go.Ab
end
section
namespace Go.Ab
def A_rel_New : AFun := { res := [.t 4], body := (.seq (.reg false [{ dst := some 4, op := .mv (.c (.nilp)) }])
 (.seq (.reg false [{ dst := some 8, op := .mv (.t 0) },
  { dst := some 9, op := .mn (.t 8) (.c (.i .i64 40)) },
  { dst := some 10, op := .mx (.c (.i .i64 0)) (.t 9) },
  { dst := some 11, op := .build ([.i .i64 0] ++ List.replicate 40 (.i .u64 0)) [(0, 1, .t 10)] },
  { dst := some 12, op := .box (.t 11) },
  { dst := some 5, op := .mv (.t 12) }])
 (.seq (.seq (.reg false [{ dst := some 13, op := .mv (.t 1) },
  { dst := some 14, op := .len (.t 13) },
  { dst := some 15, op := .mv (.c (.i .i64 0)) }])
 (.blk 0 (.loop (.seq (.reg false [{ dst := some 16, op := .bin .lss (.t 15) (.t 14) }])
 (.seq (.cond (.t 16) .skip
 (.ext 0))
 (.seq (.blk 1 (.seq (.reg false [{ dst := some 17, op := .ia 2 (.t 13) (.t 15) },
  { dst := some 18, op := .ld (some 2) (.t 17) },
  { dst := some 7, op := .new ([.i .i64 0, .i .i64 0]) },
  { dst := none, op := .st 2 (.t 7) (.t 18) }])
 (.seq (.reg true [{ dst := some 19, op := .fa 0 (.t 7) },
  { dst := some 20, op := .ld none (.t 19), pre := [] },
  { dst := some 21, op := .bin .geq (.t 20) (.c (.i .i64 0)) },
  { dst := some 22, op := .mv (.t 21) },
  { dst := some 23, op := .fa 0 (.t 7), grd := some (22, true) },
  { dst := some 24, op := .ld none (.t 23), grd := some (22, true), pre := [] },
  { dst := some 25, op := .mv (.t 5), grd := some (22, true) },
  { dst := some 26, op := .nilck (.t 25), grd := some (22, true) },
  { dst := some 27, op := .fa 0 (.t 26), grd := some (22, true) },
  { dst := some 28, op := .ld none (.t 27), grd := some (22, true), pre := [] },
  { dst := some 29, op := .bin .lss (.t 24) (.t 28), grd := some (22, true) },
  { dst := some 30, op := .pick (.t 22) (.t 29) (.c (.b false)) },
  { dst := some 31, op := .mv (.t 30) },
  { dst := some 32, op := .fa 1 (.t 7), grd := some (31, true) },
  { dst := some 33, op := .ld none (.t 32), grd := some (31, true), pre := [] },
  { dst := some 34, op := .bin .geq (.t 33) (.c (.i .i64 0)), grd := some (31, true) },
  { dst := some 35, op := .pick (.t 31) (.t 34) (.c (.b false)) },
  { dst := some 36, op := .mv (.t 35) },
  { dst := some 37, op := .fa 1 (.t 7), grd := some (36, true) },
  { dst := some 38, op := .ld none (.t 37), grd := some (36, true), pre := [] },
  { dst := some 39, op := .mv (.t 5), grd := some (36, true) },
  { dst := some 40, op := .nilck (.t 39), grd := some (36, true) },
  { dst := some 41, op := .fa 0 (.t 40), grd := some (36, true) },
  { dst := some 42, op := .ld none (.t 41), grd := some (36, true), pre := [] },
  { dst := some 43, op := .bin .lss (.t 38) (.t 42), grd := some (36, true) },
  { dst := some 44, op := .pick (.t 36) (.t 43) (.c (.b false)) }])
 (.cond (.t 44) (.reg true [{ dst := some 45, op := .mv (.t 5) },
  { dst := some 46, op := .fa 0 (.t 7) },
  { dst := some 47, op := .ld none (.t 46), pre := [] },
  { dst := some 48, op := .nilck (.t 45) },
  { dst := some 49, op := .fa 1 (.t 48) },
  { dst := some 50, op := .iaa 40 1 (.t 49) (.t 47) },
  { dst := some 51, op := .ld none (.t 50), pre := [] },
  { dst := some 52, op := .fa 1 (.t 7) },
  { dst := some 53, op := .ld none (.t 52), pre := [] },
  { dst := some 54, op := .bin .shl (.c (.i .u64 1)) (.t 53) },
  { dst := some 55, op := .bin .or (.t 51) (.t 54) },
  { dst := some 56, op := .nilck (.t 45) },
  { dst := some 57, op := .fa 1 (.t 56) },
  { dst := some 58, op := .iaa 40 1 (.t 57) (.t 47) },
  { dst := none, op := .st 1 (.t 58) (.t 55), pre := [] }])
 .skip))))
 (.reg false [{ dst := some 59, op := .bin .add (.t 15) (.c (.i .i64 1)) },
  { dst := some 15, op := .mv (.t 59) }])))))))
 (.seq (.reg false [{ dst := some 60, op := .mv (.t 5) },
  { dst := some 4, op := .mv (.t 60) }])
 .ret)))) }
def A_rel_Rel_Plus : AFun := { res := [.t 2], body := (.seq (.reg false [{ dst := some 2, op := .mv (.c (.nilp)) }])
 (.seq (.reg false [{ dst := some 6, op := .mv (.t 0) },
  { dst := some 7, op := .nilck (.t 6) },
  { dst := some 8, op := .ld (some 41) (.t 7) },
  { dst := some 3, op := .new ([.i .i64 0] ++ List.replicate 40 (.i .u64 0)) },
  { dst := none, op := .st 41 (.t 3) (.t 8) }])
 (.seq (.seq (.reg false [{ dst := some 9, op := .mv (.t 0) },
  { dst := some 10, op := .nilck (.t 9) },
  { dst := some 11, op := .fa 0 (.t 10) },
  { dst := some 12, op := .ld none (.t 11) },
  { dst := some 13, op := .mv (.c (.i .i64 0)) }])
 (.blk 0 (.loop (.seq (.reg false [{ dst := some 14, op := .bin .lss (.t 13) (.t 12) }])
 (.seq (.cond (.t 14) .skip
 (.ext 0))
 (.seq (.blk 1 (.seq (.reg false [{ dst := some 15, op := .mv (.t 13) },
  { dst := some 4, op := .mv (.t 15) }])
 (.seq (.reg false [{ dst := some 16, op := .mv (.t 0) },
  { dst := some 17, op := .nilck (.t 16) },
  { dst := some 18, op := .fa 0 (.t 17) },
  { dst := some 19, op := .ld none (.t 18) },
  { dst := some 20, op := .mv (.c (.i .i64 0)) }])
 (.blk 2 (.loop (.seq (.reg false [{ dst := some 21, op := .bin .lss (.t 20) (.t 19) }])
 (.seq (.cond (.t 21) .skip
 (.ext 2))
 (.seq (.blk 3 (.seq (.reg false [{ dst := some 22, op := .mv (.t 20) },
  { dst := some 5, op := .mv (.t 22) }])
 (.seq (.reg false [{ dst := some 23, op := .mv (.t 5) },
  { dst := some 24, op := .mv (.t 4) },
  { dst := some 25, op := .call .pure (.c (.fn 13 [] [])) [.t 3, .t 23, .t 24] }])
 (.cond (.t 25) (.reg true [{ dst := some 26, op := .mv (.t 5) },
  { dst := some 27, op := .fa 1 (.t 3) },
  { dst := some 28, op := .iaa 40 1 (.t 27) (.t 26) },
  { dst := some 29, op := .ld none (.t 28), pre := [] },
  { dst := some 30, op := .mv (.t 4) },
  { dst := some 31, op := .fa 1 (.t 3) },
  { dst := some 32, op := .iaa 40 1 (.t 31) (.t 30) },
  { dst := some 33, op := .ld none (.t 32), pre := [] },
  { dst := some 34, op := .bin .or (.t 29) (.t 33) },
  { dst := some 35, op := .fa 1 (.t 3) },
  { dst := some 36, op := .iaa 40 1 (.t 35) (.t 26) },
  { dst := none, op := .st 1 (.t 36) (.t 34), pre := [] }])
 .skip))))
 (.reg false [{ dst := some 37, op := .bin .add (.t 20) (.c (.i .i64 1)) },
  { dst := some 20, op := .mv (.t 37) }])))))))))
 (.reg false [{ dst := some 38, op := .bin .add (.t 13) (.c (.i .i64 1)) },
  { dst := some 13, op := .mv (.t 38) }])))))))
 (.seq (.reg false [{ dst := some 2, op := .mv (.t 3) }])
 .ret)))) }
def A_rel_Rel_Has : AFun := { res := [.t 6], body := (.seq (.reg false [{ dst := some 6, op := .mv (.c (.b false)) }])
 (.seq (.reg false [{ dst := some 7, op := .mv (.t 1) },
  { dst := some 8, op := .bin .geq (.t 7) (.c (.i .i64 0)) },
  { dst := some 9, op := .mv (.t 8) },
  { dst := some 10, op := .mv (.t 1), grd := some (9, true) },
  { dst := some 11, op := .mv (.t 0), grd := some (9, true) },
  { dst := some 12, op := .nilck (.t 11), grd := some (9, true) },
  { dst := some 13, op := .fa 0 (.t 12), grd := some (9, true) },
  { dst := some 14, op := .ld none (.t 13), grd := some (9, true) },
  { dst := some 15, op := .bin .lss (.t 10) (.t 14), grd := some (9, true) },
  { dst := some 16, op := .pick (.t 9) (.t 15) (.c (.b false)) },
  { dst := some 17, op := .mv (.t 16) },
  { dst := some 18, op := .mv (.t 2), grd := some (17, true) },
  { dst := some 19, op := .bin .geq (.t 18) (.c (.i .i64 0)), grd := some (17, true) },
  { dst := some 20, op := .pick (.t 17) (.t 19) (.c (.b false)) },
  { dst := some 21, op := .mv (.t 20) },
  { dst := some 22, op := .mv (.t 2), grd := some (21, true) },
  { dst := some 23, op := .mv (.t 0), grd := some (21, true) },
  { dst := some 24, op := .nilck (.t 23), grd := some (21, true) },
  { dst := some 25, op := .fa 0 (.t 24), grd := some (21, true) },
  { dst := some 26, op := .ld none (.t 25), grd := some (21, true) },
  { dst := some 27, op := .bin .lss (.t 22) (.t 26), grd := some (21, true) },
  { dst := some 28, op := .pick (.t 21) (.t 27) (.c (.b false)) },
  { dst := some 29, op := .mv (.t 28) },
  { dst := some 30, op := .mv (.t 0), grd := some (29, true) },
  { dst := some 31, op := .mv (.t 1), grd := some (29, true) },
  { dst := some 32, op := .nilck (.t 30), grd := some (29, true) },
  { dst := some 33, op := .fa 1 (.t 32), grd := some (29, true) },
  { dst := some 34, op := .iaa 40 1 (.t 33) (.t 31), grd := some (29, true) },
  { dst := some 35, op := .ld none (.t 34), grd := some (29, true) },
  { dst := some 36, op := .mv (.t 2), grd := some (29, true) },
  { dst := some 37, op := .bin .shr (.t 35) (.t 36), grd := some (29, true) },
  { dst := some 38, op := .bin .and (.t 37) (.c (.i .u64 1)), grd := some (29, true) },
  { dst := some 39, op := .bin .neq (.t 38) (.c (.i .u64 0)), grd := some (29, true) },
  { dst := some 40, op := .pick (.t 29) (.t 39) (.c (.b false)) },
  { dst := some 6, op := .mv (.t 40) }])
 .ret)) }
def A_rel_Rel_Loops : AFun := { res := [.t 2], body := (.seq (.reg false [{ dst := some 2, op := .mv (.c (.b false)) }])
 (.seq (.reg false [{ dst := some 5, op := .mv (.t 0) },
  { dst := some 6, op := .call .pure (.c (.fn 12 [] [])) [.t 5] },
  { dst := some 3, op := .mv (.t 6) }])
 (.seq (.seq (.reg false [{ dst := some 7, op := .mv (.t 0) },
  { dst := some 8, op := .nilck (.t 7) },
  { dst := some 9, op := .fa 0 (.t 8) },
  { dst := some 10, op := .ld none (.t 9) },
  { dst := some 11, op := .mv (.c (.i .i64 0)) }])
 (.blk 0 (.loop (.seq (.reg false [{ dst := some 12, op := .bin .lss (.t 11) (.t 10) }])
 (.seq (.cond (.t 12) .skip
 (.ext 0))
 (.seq (.blk 1 (.seq (.reg false [{ dst := some 13, op := .mv (.t 11) },
  { dst := some 4, op := .mv (.t 13) }])
 (.seq (.reg false [{ dst := some 14, op := .mv (.t 3) },
  { dst := some 15, op := .mv (.t 4) },
  { dst := some 16, op := .mv (.t 4) },
  { dst := some 17, op := .call .pure (.c (.fn 13 [] [])) [.t 14, .t 15, .t 16] }])
 (.cond (.t 17) (.seq (.reg false [{ dst := some 2, op := .mv (.c (.b true)) }])
 .ret)
 .skip))))
 (.reg false [{ dst := some 18, op := .bin .add (.t 11) (.c (.i .i64 1)) },
  { dst := some 11, op := .mv (.t 18) }])))))))
 (.seq (.reg false [{ dst := some 2, op := .mv (.c (.b false)) }])
 .ret)))) }
def A_rel_Rel_Pairs : AFun := { res := [.t 2], body := (.seq (.reg false [{ dst := some 2, op := .mv (.c (.sl [] 0 .rig)) }])
 (.seq (.reg false [{ dst := some 3, op := .mv (.c (.sl [] 0 .rig)) }])
 (.seq (.seq (.reg false [{ dst := some 6, op := .mv (.t 0) },
  { dst := some 7, op := .nilck (.t 6) },
  { dst := some 8, op := .fa 0 (.t 7) },
  { dst := some 9, op := .ld none (.t 8) },
  { dst := some 10, op := .mv (.c (.i .i64 0)) }])
 (.blk 0 (.loop (.seq (.reg false [{ dst := some 11, op := .bin .lss (.t 10) (.t 9) }])
 (.seq (.cond (.t 11) .skip
 (.ext 0))
 (.seq (.blk 1 (.seq (.reg false [{ dst := some 12, op := .mv (.t 10) },
  { dst := some 4, op := .mv (.t 12) }])
 (.seq (.reg false [{ dst := some 13, op := .mv (.t 0) },
  { dst := some 14, op := .nilck (.t 13) },
  { dst := some 15, op := .fa 0 (.t 14) },
  { dst := some 16, op := .ld none (.t 15) },
  { dst := some 17, op := .mv (.c (.i .i64 0)) }])
 (.blk 2 (.loop (.seq (.reg false [{ dst := some 18, op := .bin .lss (.t 17) (.t 16) }])
 (.seq (.cond (.t 18) .skip
 (.ext 2))
 (.seq (.blk 3 (.seq (.reg false [{ dst := some 19, op := .mv (.t 17) },
  { dst := some 5, op := .mv (.t 19) }])
 (.seq (.reg false [{ dst := some 20, op := .mv (.t 0) },
  { dst := some 21, op := .mv (.t 4) },
  { dst := some 22, op := .mv (.t 5) },
  { dst := some 23, op := .call .pure (.c (.fn 13 [] [])) [.t 20, .t 21, .t 22] }])
 (.cond (.t 23) (.reg false [{ dst := some 24, op := .mv (.t 3) },
  { dst := some 25, op := .mv (.t 4) },
  { dst := some 26, op := .mv (.t 5) },
  { dst := some 27, op := .build ([.i .i64 0, .i .i64 0]) [(0, 1, .t 25), (1, 1, .t 26)] },
  { dst := some 28, op := .bsl true 1 ([.i .i64 0, .i .i64 0]) [(0, 2, .t 27)] },
  { dst := some 29, op := .app 2 16 (.t 24) (.t 28) },
  { dst := some 3, op := .mv (.t 29) }])
 .skip))))
 (.reg false [{ dst := some 30, op := .bin .add (.t 17) (.c (.i .i64 1)) },
  { dst := some 17, op := .mv (.t 30) }])))))))))
 (.reg false [{ dst := some 31, op := .bin .add (.t 10) (.c (.i .i64 1)) },
  { dst := some 10, op := .mv (.t 31) }])))))))
 (.seq (.reg false [{ dst := some 32, op := .mv (.t 3) },
  { dst := some 2, op := .mv (.t 32) }])
 .ret)))) }
def A_rel_Rel_Maybe : AFun := { res := [.t 2], body := (.seq (.reg false [{ dst := some 2, op := .mv (.c (.nilp)) }])
 (.seq (.reg false [{ dst := some 5, op := .mv (.t 0) },
  { dst := some 6, op := .nilck (.t 5) },
  { dst := some 7, op := .ld (some 41) (.t 6) },
  { dst := some 3, op := .new ([.i .i64 0] ++ List.replicate 40 (.i .u64 0)) },
  { dst := none, op := .st 41 (.t 3) (.t 7) }])
 (.seq (.seq (.reg false [{ dst := some 8, op := .mv (.t 0) },
  { dst := some 9, op := .nilck (.t 8) },
  { dst := some 10, op := .fa 0 (.t 9) },
  { dst := some 11, op := .ld none (.t 10) },
  { dst := some 12, op := .mv (.c (.i .i64 0)) }])
 (.blk 0 (.loop (.seq (.reg false [{ dst := some 13, op := .bin .lss (.t 12) (.t 11) }])
 (.seq (.cond (.t 13) .skip
 (.ext 0))
 (.seq (.blk 1 (.seq (.reg false [{ dst := some 14, op := .mv (.t 12) },
  { dst := some 4, op := .mv (.t 14) }])
 (.reg true [{ dst := some 15, op := .mv (.t 4) },
  { dst := some 16, op := .fa 1 (.t 3) },
  { dst := some 17, op := .iaa 40 1 (.t 16) (.t 15) },
  { dst := some 18, op := .ld none (.t 17), pre := [] },
  { dst := some 19, op := .mv (.t 4) },
  { dst := some 20, op := .bin .shl (.c (.i .u64 1)) (.t 19) },
  { dst := some 21, op := .bin .or (.t 18) (.t 20) },
  { dst := some 22, op := .fa 1 (.t 3) },
  { dst := some 23, op := .iaa 40 1 (.t 22) (.t 15) },
  { dst := none, op := .st 1 (.t 23) (.t 21), pre := [] }])))
 (.reg false [{ dst := some 24, op := .bin .add (.t 12) (.c (.i .i64 1)) },
  { dst := some 12, op := .mv (.t 24) }])))))))
 (.seq (.reg false [{ dst := some 2, op := .mv (.t 3) }])
 .ret)))) }
def A_rel_Rel_Len : AFun := { res := [.t 2], body := (.seq (.reg false [{ dst := some 2, op := .mv (.c (.i .i64 0)) }])
 (.seq (.reg false [{ dst := some 3, op := .mv (.t 0) },
  { dst := some 4, op := .nilck (.t 3) },
  { dst := some 5, op := .fa 0 (.t 4) },
  { dst := some 6, op := .ld none (.t 5) },
  { dst := some 2, op := .mv (.t 6) }])
 .ret)) }
def A_rel_Rel_And : AFun := { res := [.t 4], body := (.seq (.reg false [{ dst := some 4, op := .mv (.c (.nilp)) }])
 (.seq (.reg false [{ dst := some 5, op := .mv (.t 0) },
  { dst := some 6, op := .mv (.t 1) },
  { dst := some 7, op := .call .pure (.c (.fn 51 [] [])) [.t 5, .t 6, .c (.fn 52 [] [])] },
  { dst := some 4, op := .mv (.t 7) }])
 .ret)) }
def A_rel_Rel_In : AFun := { res := [.t 4], body := (.seq (.reg false [{ dst := some 4, op := .mv (.c (.b false)) }])
 (.seq (.reg false [{ dst := some 5, op := .mv (.t 0) },
  { dst := some 6, op := .mv (.t 1) },
  { dst := some 7, op := .call .pure (.c (.fn 26 [] [])) [.t 5, .t 6] },
  { dst := some 8, op := .nilck (.t 7) },
  { dst := some 9, op := .fa 1 (.t 8) },
  { dst := some 10, op := .ld (some 40) (.t 9) },
  { dst := some 11, op := .build (List.replicate 40 (.i .u64 0)) [] },
  { dst := some 12, op := .eqa false (List.replicate 40 0) (.t 10) (.t 11) },
  { dst := some 4, op := .mv (.t 12) }])
 .ret)) }
def A_rel_Rel_Then : AFun := { res := [.t 4], body := (.seq (.reg false [{ dst := some 4, op := .mv (.c (.nilp)) }])
 (.seq (.reg true [{ dst := some 8, op := .mv (.t 0) },
  { dst := some 9, op := .nilck (.t 8) },
  { dst := some 10, op := .fa 0 (.t 9) },
  { dst := some 11, op := .ld none (.t 10), pre := [] },
  { dst := some 12, op := .mv (.t 1) },
  { dst := some 13, op := .nilck (.t 12) },
  { dst := some 14, op := .fa 0 (.t 13) },
  { dst := some 15, op := .ld none (.t 14), pre := [] },
  { dst := some 16, op := .mx (.t 11) (.t 15) },
  { dst := some 17, op := .build ([.i .i64 0] ++ List.replicate 40 (.i .u64 0)) [(0, 1, .t 16)] },
  { dst := some 18, op := .box (.t 17) },
  { dst := some 5, op := .mv (.t 18) }])
 (.seq (.seq (.reg false [{ dst := some 19, op := .mv (.t 0) },
  { dst := some 20, op := .nilck (.t 19) },
  { dst := some 21, op := .fa 0 (.t 20) },
  { dst := some 22, op := .ld none (.t 21) },
  { dst := some 23, op := .mv (.c (.i .i64 0)) }])
 (.blk 0 (.loop (.seq (.reg false [{ dst := some 24, op := .bin .lss (.t 23) (.t 22) }])
 (.seq (.cond (.t 24) .skip
 (.ext 0))
 (.seq (.blk 1 (.seq (.reg false [{ dst := some 25, op := .mv (.t 23) },
  { dst := some 6, op := .mv (.t 25) }])
 (.seq (.reg false [{ dst := some 26, op := .mv (.t 0) },
  { dst := some 27, op := .nilck (.t 26) },
  { dst := some 28, op := .fa 0 (.t 27) },
  { dst := some 29, op := .ld none (.t 28) },
  { dst := some 30, op := .mv (.c (.i .i64 0)) }])
 (.blk 2 (.loop (.seq (.reg false [{ dst := some 31, op := .bin .lss (.t 30) (.t 29) }])
 (.seq (.cond (.t 31) .skip
 (.ext 2))
 (.seq (.blk 3 (.seq (.reg false [{ dst := some 32, op := .mv (.t 30) },
  { dst := some 7, op := .mv (.t 32) }])
 (.seq (.reg false [{ dst := some 33, op := .mv (.t 0) },
  { dst := some 34, op := .mv (.t 6) },
  { dst := some 35, op := .mv (.t 7) },
  { dst := some 36, op := .call .pure (.c (.fn 13 [] [])) [.t 33, .t 34, .t 35] }])
 (.cond (.t 36) (.reg true [{ dst := some 37, op := .mv (.t 5) },
  { dst := some 38, op := .mv (.t 6) },
  { dst := some 39, op := .nilck (.t 37) },
  { dst := some 40, op := .fa 1 (.t 39) },
  { dst := some 41, op := .iaa 40 1 (.t 40) (.t 38) },
  { dst := some 42, op := .ld none (.t 41), pre := [] },
  { dst := some 43, op := .mv (.t 1) },
  { dst := some 44, op := .mv (.t 7) },
  { dst := some 45, op := .nilck (.t 43) },
  { dst := some 46, op := .fa 1 (.t 45) },
  { dst := some 47, op := .iaa 40 1 (.t 46) (.t 44) },
  { dst := some 48, op := .ld none (.t 47), pre := [] },
  { dst := some 49, op := .bin .or (.t 42) (.t 48) },
  { dst := some 50, op := .nilck (.t 37) },
  { dst := some 51, op := .fa 1 (.t 50) },
  { dst := some 52, op := .iaa 40 1 (.t 51) (.t 38) },
  { dst := none, op := .st 1 (.t 52) (.t 49), pre := [] }])
 .skip))))
 (.reg false [{ dst := some 53, op := .bin .add (.t 30) (.c (.i .i64 1)) },
  { dst := some 30, op := .mv (.t 53) }])))))))))
 (.reg false [{ dst := some 54, op := .bin .add (.t 23) (.c (.i .i64 1)) },
  { dst := some 23, op := .mv (.t 54) }])))))))
 (.seq (.reg false [{ dst := some 55, op := .mv (.t 5) },
  { dst := some 4, op := .mv (.t 55) }])
 .ret)))) }
def A_rel_Rel_Or : AFun := { res := [.t 4], body := (.seq (.reg false [{ dst := some 4, op := .mv (.c (.nilp)) }])
 (.seq (.reg false [{ dst := some 5, op := .mv (.t 0) },
  { dst := some 6, op := .mv (.t 1) },
  { dst := some 7, op := .call .pure (.c (.fn 51 [] [])) [.t 5, .t 6, .c (.fn 53 [] [])] },
  { dst := some 4, op := .mv (.t 7) }])
 .ret)) }
def A_rel_Rel_Less : AFun := { res := [.t 4], body := (.seq (.reg false [{ dst := some 4, op := .mv (.c (.nilp)) }])
 (.seq (.reg false [{ dst := some 5, op := .mv (.t 0) },
  { dst := some 6, op := .mv (.t 1) },
  { dst := some 7, op := .call .pure (.c (.fn 51 [] [])) [.t 5, .t 6, .c (.fn 54 [] [])] },
  { dst := some 4, op := .mv (.t 7) }])
 .ret)) }
def A_rel_Rel_by : AFun := { res := [.t 6], body := (.seq (.reg false [{ dst := some 6, op := .mv (.c (.nilp)) }])
 (.seq (.reg true [{ dst := some 9, op := .mv (.t 0) },
  { dst := some 10, op := .nilck (.t 9) },
  { dst := some 11, op := .fa 0 (.t 10) },
  { dst := some 12, op := .ld none (.t 11), pre := [] },
  { dst := some 13, op := .mv (.t 1) },
  { dst := some 14, op := .nilck (.t 13) },
  { dst := some 15, op := .fa 0 (.t 14) },
  { dst := some 16, op := .ld none (.t 15), pre := [] },
  { dst := some 17, op := .mx (.t 12) (.t 16) },
  { dst := some 18, op := .build ([.i .i64 0] ++ List.replicate 40 (.i .u64 0)) [(0, 1, .t 17)] },
  { dst := some 19, op := .box (.t 18) },
  { dst := some 7, op := .mv (.t 19) }])
 (.seq (.seq (.reg false [{ dst := some 20, op := .mv (.c (.i .i64 0)) }])
 (.blk 0 (.loop (.seq (.reg false [{ dst := some 21, op := .bin .lss (.t 20) (.c (.i .i64 40)) }])
 (.seq (.cond (.t 21) .skip
 (.ext 0))
 (.seq (.blk 1 (.seq (.reg false [{ dst := some 22, op := .mv (.t 20) },
  { dst := some 8, op := .mv (.t 22) }])
 (.reg true [{ dst := some 23, op := .mv (.t 7) },
  { dst := some 24, op := .mv (.t 8) },
  { dst := some 25, op := .mv (.t 2) },
  { dst := some 26, op := .mv (.t 0) },
  { dst := some 27, op := .mv (.t 8) },
  { dst := some 28, op := .nilck (.t 26) },
  { dst := some 29, op := .fa 1 (.t 28) },
  { dst := some 30, op := .iaa 40 1 (.t 29) (.t 27) },
  { dst := some 31, op := .ld none (.t 30), pre := [] },
  { dst := some 32, op := .mv (.t 1) },
  { dst := some 33, op := .mv (.t 8) },
  { dst := some 34, op := .nilck (.t 32) },
  { dst := some 35, op := .fa 1 (.t 34) },
  { dst := some 36, op := .iaa 40 1 (.t 35) (.t 33) },
  { dst := some 37, op := .ld none (.t 36), pre := [] },
  { dst := some 38, op := .call .pure (.t 25) [.t 31, .t 37], pre := [] },
  { dst := some 39, op := .nilck (.t 23) },
  { dst := some 40, op := .fa 1 (.t 39) },
  { dst := some 41, op := .iaa 40 1 (.t 40) (.t 24) },
  { dst := none, op := .st 1 (.t 41) (.t 38), pre := [] }])))
 (.reg false [{ dst := some 42, op := .bin .add (.t 20) (.c (.i .i64 1)) },
  { dst := some 20, op := .mv (.t 42) }])))))))
 (.seq (.reg false [{ dst := some 43, op := .mv (.t 7) },
  { dst := some 6, op := .mv (.t 43) }])
 .ret)))) }
def A_rel_Rel_And_1 : AFun := { res := [.t 4], body := (.seq (.reg false [{ dst := some 4, op := .mv (.c (.i .u64 0)) }])
 (.seq (.reg false [{ dst := some 5, op := .mv (.t 0) },
  { dst := some 6, op := .mv (.t 1) },
  { dst := some 7, op := .bin .and (.t 5) (.t 6) },
  { dst := some 4, op := .mv (.t 7) }])
 .ret)) }
def A_rel_Rel_Or_1 : AFun := { res := [.t 4], body := (.seq (.reg false [{ dst := some 4, op := .mv (.c (.i .u64 0)) }])
 (.seq (.reg false [{ dst := some 5, op := .mv (.t 0) },
  { dst := some 6, op := .mv (.t 1) },
  { dst := some 7, op := .bin .or (.t 5) (.t 6) },
  { dst := some 4, op := .mv (.t 7) }])
 .ret)) }
def A_rel_Rel_Less_1 : AFun := { res := [.t 4], body := (.seq (.reg false [{ dst := some 4, op := .mv (.c (.i .u64 0)) }])
 (.seq (.reg false [{ dst := some 5, op := .mv (.t 0) },
  { dst := some 6, op := .mv (.t 1) },
  { dst := some 7, op := .bin .andNot (.t 5) (.t 6) },
  { dst := some 4, op := .mv (.t 7) }])
 .ret)) }
structure Pk_rel (F : Funs) : Prop where
  rel_New : F 11 = some A_rel_New
  rel_Rel_Plus : F 12 = some A_rel_Rel_Plus
  rel_Rel_Has : F 13 = some A_rel_Rel_Has
  rel_Rel_Loops : F 14 = some A_rel_Rel_Loops
  rel_Rel_Pairs : F 15 = some A_rel_Rel_Pairs
  rel_Rel_Maybe : F 16 = some A_rel_Rel_Maybe
  rel_Rel_Len : F 17 = some A_rel_Rel_Len
  rel_Rel_And : F 18 = some A_rel_Rel_And
  rel_Rel_Then : F 23 = some A_rel_Rel_Then
  rel_Rel_Or : F 24 = some A_rel_Rel_Or
  rel_Rel_by : F 51 = some A_rel_Rel_by
  rel_Rel_And_1 : F 52 = some A_rel_Rel_And_1
  rel_Rel_Or_1 : F 53 = some A_rel_Rel_Or_1
end Go.Ab
end
section
namespace Go.Ab
def A_sync_Hb : AFun := { res := [.t 2], body := (.seq (.reg false [{ dst := some 1, op := .box (.t 0) },
  { dst := some 2, op := .mv (.c (.nilp)) }])
 (.seq (.reg true [{ dst := some 3, op := .ld (some 8) (.t 1), pre := [] },
  { dst := some 4, op := .call .pure (.c (.fn 60 [] [])) [.t 3], pre := [] },
  { dst := some 5, op := .ld (some 8) (.t 1), pre := [] },
  { dst := some 6, op := .call .pure (.c (.fn 176 [] [])) [.t 5], pre := [] },
  { dst := some 7, op := .call .pure (.c (.fn 24 [] [])) [.t 4, .t 6], pre := [] },
  { dst := some 8, op := .call .pure (.c (.fn 12 [] [])) [.t 7], pre := [] },
  { dst := some 2, op := .mv (.t 8) }])
 .ret)) }
def A_sync_Release : AFun := { res := [.t 2], body := (.seq (.reg false [{ dst := some 1, op := .box (.t 0) },
  { dst := some 2, op := .mv (.c (.nilp)) }])
 (.seq (.reg true [{ dst := some 4, op := .ld (some 8) (.t 1), pre := [] },
  { dst := some 5, op := .bsl true 3 ([.i .i64 0, .i .i64 0, .i .i64 0]) [(0, 1, .c (.i .i64 2)), (1, 1, .c (.i .i64 3)), (2, 1, .c (.i .i64 4))], pre := [] },
  { dst := some 6, op := .call .pure (.c (.fn 178 [] [])) [.t 4, .c (.i .i64 3), .t 5], pre := [] },
  { dst := some 7, op := .ld (some 8) (.t 1), pre := [] },
  { dst := some 8, op := .call .pure (.c (.fn 60 [] [])) [.t 7], pre := [] },
  { dst := some 9, op := .bsl true 1 ([.nilp]) [(0, 1, .t 8)], pre := [] },
  { dst := some 10, op := .call .pure (.c (.fn 177 [] [])) [.t 6, .t 9], pre := [] },
  { dst := some 3, op := .mv (.t 10) }])
 (.seq (.reg true [{ dst := some 11, op := .ld (some 8) (.t 1), pre := [] },
  { dst := some 12, op := .bsl true 1 ([.i .i64 0]) [(0, 1, .c (.i .i64 2))], pre := [] },
  { dst := some 13, op := .call .pure (.c (.fn 178 [] [])) [.t 11, .c (.i .i64 2), .t 12], pre := [] },
  { dst := some 14, op := .mv (.t 3) },
  { dst := some 15, op := .call .pure (.c (.fn 24 [] [])) [.t 13, .t 14], pre := [] },
  { dst := some 16, op := .ld (some 8) (.t 1), pre := [] },
  { dst := some 17, op := .call .pure (.c (.fn 179 [] [])) [.t 16], pre := [] },
  { dst := some 18, op := .bsl true 1 ([.nilp]) [(0, 1, .t 17)], pre := [] },
  { dst := some 19, op := .call .pure (.c (.fn 177 [] [])) [.t 15, .t 18], pre := [] },
  { dst := some 2, op := .mv (.t 19) }])
 .ret))) }
def A_sync_Sw : AFun := { res := [.t 2], body := (.seq (.reg false [{ dst := some 1, op := .box (.t 0) },
  { dst := some 2, op := .mv (.c (.nilp)) }])
 (.seq (.reg false [{ dst := some 6, op := .ld (some 8) (.t 1) },
  { dst := some 7, op := .call .pure (.c (.fn 48 [] [])) [.t 6] },
  { dst := some 3, op := .mv (.t 7) }])
 (.seq (.reg true [{ dst := some 8, op := .ld (some 8) (.t 1), pre := [] },
  { dst := some 9, op := .mv (.t 3) },
  { dst := some 10, op := .call .pure (.c (.fn 39 [] [])) [.t 8, .t 9], pre := [] },
  { dst := some 11, op := .ld (some 8) (.t 1), pre := [] },
  { dst := some 12, op := .call .pure (.c (.fn 41 [] [])) [.t 11], pre := [] },
  { dst := some 13, op := .call .pure (.c (.fn 16 [] [])) [.t 12], pre := [] },
  { dst := some 14, op := .ld (some 8) (.t 1), pre := [] },
  { dst := some 15, op := .mv (.t 3) },
  { dst := some 16, op := .call .pure (.c (.fn 40 [] [])) [.t 14, .t 15], pre := [] },
  { dst := some 17, op := .bsl true 1 ([.nilp]) [(0, 1, .t 16)], pre := [] },
  { dst := some 18, op := .call .pure (.c (.fn 177 [] [])) [.t 13, .t 17], pre := [] },
  { dst := some 19, op := .call .pure (.c (.fn 24 [] [])) [.t 10, .t 18], pre := [] },
  { dst := some 4, op := .mv (.t 19) }])
 (.seq (.reg true [{ dst := some 20, op := .ld (some 8) (.t 1), pre := [] },
  { dst := some 21, op := .call .pure (.c (.fn 60 [] [])) [.t 20], pre := [] },
  { dst := some 22, op := .ld (some 8) (.t 1), pre := [] },
  { dst := some 23, op := .bsl true 3 ([.i .i64 0, .i .i64 0, .i .i64 0]) [(0, 1, .c (.i .i64 1)), (1, 1, .c (.i .i64 3)), (2, 1, .c (.i .i64 4))], pre := [] },
  { dst := some 24, op := .call .pure (.c (.fn 178 [] [])) [.t 22, .c (.i .i64 3), .t 23], pre := [] },
  { dst := some 25, op := .bsl true 1 ([.nilp]) [(0, 1, .t 24)], pre := [] },
  { dst := some 26, op := .call .pure (.c (.fn 177 [] [])) [.t 21, .t 25], pre := [] },
  { dst := some 5, op := .mv (.t 26) }])
 (.seq (.reg true [{ dst := some 27, op := .ld (some 8) (.t 1), pre := [] },
  { dst := some 28, op := .call .pure (.c (.fn 149 [] [])) [.t 27], pre := [] },
  { dst := some 29, op := .mv (.t 4) },
  { dst := some 30, op := .ld (some 8) (.t 1), pre := [] },
  { dst := some 31, op := .bsl true 1 ([.i .i64 0]) [(0, 1, .c (.i .i64 1))], pre := [] },
  { dst := some 32, op := .call .pure (.c (.fn 178 [] [])) [.t 30, .c (.i .i64 1), .t 31], pre := [] },
  { dst := some 33, op := .mv (.t 5) },
  { dst := some 34, op := .call .pure (.c (.fn 24 [] [])) [.t 32, .t 33], pre := [] },
  { dst := some 35, op := .bsl true 2 ([.nilp, .nilp]) [(0, 1, .t 29), (1, 1, .t 34)], pre := [] },
  { dst := some 36, op := .call .pure (.c (.fn 177 [] [])) [.t 28, .t 35], pre := [] },
  { dst := some 2, op := .mv (.t 36) }])
 .ret))))) }
def A_sync_then : AFun := { res := [.t 4], body := (.seq (.reg false [{ dst := some 4, op := .mv (.c (.nilp)) }])
 (.seq (.seq (.reg false [{ dst := some 7, op := .mv (.t 1) },
  { dst := some 8, op := .len (.t 7) },
  { dst := some 9, op := .mv (.c (.i .i64 0)) }])
 (.blk 0 (.loop (.seq (.reg false [{ dst := some 10, op := .bin .lss (.t 9) (.t 8) }])
 (.seq (.cond (.t 10) .skip
 (.ext 0))
 (.seq (.blk 1 (.seq (.reg false [{ dst := some 11, op := .ia 1 (.t 7) (.t 9) },
  { dst := some 12, op := .ld none (.t 11) },
  { dst := some 6, op := .mv (.t 12) }])
 (.reg false [{ dst := some 13, op := .mv (.t 0) },
  { dst := some 14, op := .mv (.t 6) },
  { dst := some 15, op := .call .pure (.c (.fn 23 [] [])) [.t 13, .t 14] },
  { dst := some 0, op := .mv (.t 15) }])))
 (.reg false [{ dst := some 16, op := .bin .add (.t 9) (.c (.i .i64 1)) },
  { dst := some 9, op := .mv (.t 16) }])))))))
 (.seq (.reg false [{ dst := some 17, op := .mv (.t 0) },
  { dst := some 4, op := .mv (.t 17) }])
 .ret))) }
def A_sync_set : AFun := { res := [.t 6], body := (.seq (.reg false [{ dst := some 3, op := .boxI (.t 0) },
  { dst := some 4, op := .boxI (.t 1) },
  { dst := some 5, op := .boxI (.t 2) },
  { dst := some 6, op := .mv (.c (.nilp)) }])
 (.seq (.reg false [{ dst := some 7, op := .ld (some 8) (.t 3) },
  { dst := some 8, op := .mkfn 229 [] [.t 5, .t 4] },
  { dst := some 9, op := .call .pure (.c (.fn 166 [] [])) [.t 7, .t 8] },
  { dst := some 6, op := .mv (.t 9) }])
 .ret)) }
def A_sync_Rs : AFun := { res := [.t 2], body := (.seq (.reg false [{ dst := some 1, op := .box (.t 0) },
  { dst := some 2, op := .mv (.c (.nilp)) }])
 (.seq (.reg true [{ dst := some 6, op := .ld (some 8) (.t 1), pre := [] },
  { dst := some 7, op := .call .pure (.c (.fn 178 [] [])) [.t 6, .c (.i .i64 2), .c (.sl [] 0 .rig)], pre := [] },
  { dst := some 8, op := .ld (some 8) (.t 1), pre := [] },
  { dst := some 9, op := .call .pure (.c (.fn 41 [] [])) [.t 8], pre := [] },
  { dst := some 3, op := .mv (.t 7) },
  { dst := some 4, op := .mv (.t 9) }])
 (.seq (.reg true [{ dst := some 10, op := .mv (.t 4) },
  { dst := some 11, op := .call .pure (.c (.fn 16 [] [])) [.t 10], pre := [] },
  { dst := some 12, op := .ld (some 8) (.t 1), pre := [] },
  { dst := some 13, op := .call .pure (.c (.fn 48 [] [])) [.t 12], pre := [] },
  { dst := some 14, op := .ld (some 8) (.t 1), pre := [] },
  { dst := some 15, op := .fa 4 (.t 1) },
  { dst := some 16, op := .ld none (.t 15), pre := [] },
  { dst := some 17, op := .call .pure (.c (.fn 81 [] [])) [.t 14, .t 16], pre := [] },
  { dst := some 18, op := .bsl true 2 ([.nilp, .nilp]) [(0, 1, .t 13), (1, 1, .t 17)], pre := [] },
  { dst := some 19, op := .call .pure (.c (.fn 177 [] [])) [.t 11, .t 18], pre := [] },
  { dst := some 5, op := .mv (.t 19) }])
 (.seq (.reg false [{ dst := some 20, op := .mv (.t 3) },
  { dst := some 21, op := .mv (.t 4) },
  { dst := some 22, op := .mv (.t 3) },
  { dst := some 23, op := .bsl true 2 ([.nilp, .nilp]) [(0, 1, .t 21), (1, 1, .t 22)] },
  { dst := some 24, op := .call .pure (.c (.fn 177 [] [])) [.t 20, .t 23] },
  { dst := some 25, op := .mv (.t 3) },
  { dst := some 26, op := .mv (.t 5) },
  { dst := some 27, op := .call .pure (.c (.fn 12 [] [])) [.t 26] },
  { dst := some 28, op := .call .pure (.c (.fn 16 [] [])) [.t 27] },
  { dst := some 29, op := .bsl true 1 ([.nilp]) [(0, 1, .t 28)] },
  { dst := some 30, op := .call .pure (.c (.fn 177 [] [])) [.t 25, .t 29] },
  { dst := some 31, op := .call .pure (.c (.fn 24 [] [])) [.t 24, .t 30] },
  { dst := some 2, op := .mv (.t 31) }])
 .ret)))) }
def A_sync_set_1 : AFun := { res := [.t 4], body := (.seq (.reg false [{ dst := some 3, op := .box (.t 0) },
  { dst := some 4, op := .mv (.c (.b false)) }])
 (.seq (.reg false [{ dst := some 8, op := .ld none (.t 1) },
  { dst := some 9, op := .len (.t 8) },
  { dst := some 10, op := .bin .eql (.t 9) (.c (.i .i64 0)) },
  { dst := some 5, op := .mv (.t 10) }])
 (.seq (.seq (.reg false [{ dst := some 11, op := .ld none (.t 1) },
  { dst := some 12, op := .len (.t 11) },
  { dst := some 13, op := .mv (.c (.i .i64 0)) }])
 (.blk 0 (.loop (.seq (.reg false [{ dst := some 14, op := .bin .lss (.t 13) (.t 12) }])
 (.seq (.cond (.t 14) .skip
 (.ext 0))
 (.seq (.blk 1 (.seq (.reg false [{ dst := some 15, op := .ia 1 (.t 11) (.t 13) },
  { dst := some 16, op := .ld none (.t 15) },
  { dst := some 7, op := .mv (.t 16) }])
 (.reg false [{ dst := some 17, op := .mv (.t 5) },
  { dst := some 18, op := .mv (.t 17) },
  { dst := some 19, op := .fa 2 (.t 3), grd := some (18, false) },
  { dst := some 20, op := .ld none (.t 19), grd := some (18, false) },
  { dst := some 21, op := .mv (.t 7), grd := some (18, false) },
  { dst := some 22, op := .bin .eql (.t 20) (.t 21), grd := some (18, false) },
  { dst := some 23, op := .pick (.t 18) (.c (.b true)) (.t 22) },
  { dst := some 5, op := .mv (.t 23) }])))
 (.reg false [{ dst := some 24, op := .bin .add (.t 13) (.c (.i .i64 1)) },
  { dst := some 13, op := .mv (.t 24) }])))))))
 (.seq (.reg false [{ dst := some 25, op := .fa 1 (.t 3) },
  { dst := some 26, op := .ld none (.t 25) },
  { dst := some 27, op := .ld none (.t 2) },
  { dst := some 28, op := .bin .eql (.t 26) (.t 27) },
  { dst := some 29, op := .mv (.t 28) },
  { dst := some 30, op := .mv (.t 5), grd := some (29, true) },
  { dst := some 31, op := .pick (.t 29) (.t 30) (.c (.b false)) },
  { dst := some 4, op := .mv (.t 31) }])
 .ret)))) }
structure Pk_sync (F : Funs) : Prop where
  sync_Hb : F 148 = some A_sync_Hb
  sync_Release : F 149 = some A_sync_Release
  sync_Sw : F 176 = some A_sync_Sw
  sync_then : F 177 = some A_sync_then
  sync_set : F 178 = some A_sync_set
  sync_Rs : F 179 = some A_sync_Rs
  sync_set_1 : F 229 = some A_sync_set_1
end Go.Ab
end
section
set_option maxRecDepth 100000
set_option linter.unusedVariables false
namespace Go.Proofs.Ytkiecemdbkjccaa
open Go.Ab
def tab : List (Nat × Nat × AFun) := [(10, 13, A_xlaw00_Place),
 (11, 115, A_rel_New),
 (12, 31, A_rel_Rel_Plus),
 (13, 15, A_rel_Rel_Has),
 (14, 30, A_rel_Rel_Loops),
 (15, 24, A_rel_Rel_Pairs),
 (16, 139, A_rel_Rel_Maybe),
 (17, 131, A_rel_Rel_Len),
 (18, 119, A_rel_Rel_And),
 (23, 48, A_rel_Rel_Then),
 (24, 49, A_rel_Rel_Or),
 (39, 114, A_eco_Inner),
 (40, 96, A_eco_Outer),
 (41, 93, A_eco_Loc),
 (42, 162, A_eco_Eco),
 (48, 97, A_eco_Rf),
 (49, 53, A_eco_Co),
 (50, 52, A_eco_Fr),
 (51, 117, A_rel_Rel_by),
 (52, 169, A_rel_Rel_And_1),
 (53, 118, A_rel_Rel_Or_1),
 (57, 158, A_eco_some),
 (58, 167, A_eco_Inner_1),
 (59, 160, A_eco_Outer_1),
 (60, 28, A_graph_Po),
 (61, 159, A_eco_Loc_1),
 (80, 120, A_eco_pairs),
 (81, 81, A_graph_Of),
 (92, 170, A_eco_pairs_1),
 (93, 171, A_eco_pairs_2),
 (94, 172, A_eco_pairs_3),
 (95, 173, A_eco_pairs_4),
 (96, 174, A_eco_pairs_5),
 (141, 11, A_xlaw12_ImmKnown),
 (142, 12, A_xlaw12_ImmFences),
 (148, 22, A_sync_Hb),
 (149, 23, A_sync_Release),
 (152, 27, A_graph_Check),
 (155, 34, A_order_Bob),
 (156, 35, A_order_Ar),
 (158, 37, A_xlaw12_ImmKnown_1),
 (159, 38, A_xlaw12_ImmKnown_2),
 (160, 39, A_xlaw12_ImmKnown_3),
 (161, 40, A_imm_Consistent),
 (162, 41, A_imm_Atomic),
 (163, 42, A_xlaw12_awake),
 (164, 43, A_imm_Coherent),
 (166, 45, A_graph_Set),
 (176, 64, A_sync_Sw),
 (177, 65, A_sync_then),
 (178, 66, A_sync_set),
 (179, 67, A_sync_Rs),
 (186, 74, A_graph_first),
 (187, 75, A_graph_threads),
 (188, 76, A_graph_rf),
 (189, 77, A_graph_co),
 (190, 78, A_graph_rmw),
 (191, 79, A_graph_Check_1),
 (192, 80, A_graph_list),
 (193, 83, A_order_all),
 (194, 84, A_order_Bob_1),
 (195, 85, A_order_set),
 (196, 86, A_order_isRel),
 (197, 87, A_order_Bob_2),
 (198, 88, A_order_isAcq),
 (199, 89, A_order_Bob_3),
 (200, 90, A_order_isF),
 (201, 91, A_order_Bob_4),
 (202, 92, A_order_Bob_5),
 (203, 94, A_order_isW),
 (204, 95, A_order_Ar_1),
 (205, 98, A_order_Ar_2),
 (206, 99, A_order_Ar_3),
 (207, 100, A_order_Ppo),
 (208, 101, A_order_Ar_4),
 (209, 102, A_order_Detour),
 (210, 103, A_order_Ar_5),
 (211, 104, A_order_Psc),
 (213, 106, A_order_Deps),
 (214, 107, A_imm_looked_coherent),
 (215, 108, A_imm_looked_atomic),
 (216, 109, A_imm_looked_ordered),
 (217, 110, A_imm_Ordered),
 (218, 111, A_xlaw12_loop),
 (229, 140, A_sync_set_1),
 (236, 152, A_graph_event),
 (237, 153, A_graph_write),
 (238, 154, A_graph_rmw_1),
 (239, 155, A_graph_order),
 (240, 157, A_order_isR),
 (241, 161, A_order_isSc),
 (242, 163, A_order_Deps_1),
 (243, 164, A_order_Deps_2),
 (244, 165, A_order_Deps_3),
 (245, 166, A_order_isEx),
 (248, 181, A_cmp_Compare_int),
 (249, 180, A_cmp_Or_int),
 (266, 183, A_cmp_isNaN_int)]
def num (f : Nat) : Nat := ((tab.find? (fun r => r.1 == f)).map (·.2.1)).getD 0
def funs : Funs := fun f => (tab.find? (fun r => r.1 == f)).map (·.2.2)
theorem c10 : funB Try.prog num Try.f13 A_xlaw00_Place = true := by kernel_rfl
theorem c11 : funB Try.prog num Try.f115 A_rel_New = true := by kernel_rfl
theorem c12 : funB Try.prog num Try.f31 A_rel_Rel_Plus = true := by kernel_rfl
theorem c13 : funB Try.prog num Try.f15 A_rel_Rel_Has = true := by kernel_rfl
theorem c14 : funB Try.prog num Try.f30 A_rel_Rel_Loops = true := by kernel_rfl
theorem c15 : funB Try.prog num Try.f24 A_rel_Rel_Pairs = true := by kernel_rfl
theorem c16 : funB Try.prog num Try.f139 A_rel_Rel_Maybe = true := by kernel_rfl
theorem c17 : funB Try.prog num Try.f131 A_rel_Rel_Len = true := by kernel_rfl
theorem c18 : funB Try.prog num Try.f119 A_rel_Rel_And = true := by kernel_rfl
theorem c23 : funB Try.prog num Try.f48 A_rel_Rel_Then = true := by kernel_rfl
theorem c24 : funB Try.prog num Try.f49 A_rel_Rel_Or = true := by kernel_rfl
theorem c39 : funB Try.prog num Try.f114 A_eco_Inner = true := by kernel_rfl
theorem c40 : funB Try.prog num Try.f96 A_eco_Outer = true := by kernel_rfl
theorem c41 : funB Try.prog num Try.f93 A_eco_Loc = true := by kernel_rfl
theorem c42 : funB Try.prog num Try.f162 A_eco_Eco = true := by kernel_rfl
theorem c48 : funB Try.prog num Try.f97 A_eco_Rf = true := by kernel_rfl
theorem c49 : funB Try.prog num Try.f53 A_eco_Co = true := by kernel_rfl
theorem c50 : funB Try.prog num Try.f52 A_eco_Fr = true := by kernel_rfl
theorem c51 : funB Try.prog num Try.f117 A_rel_Rel_by = true := by kernel_rfl
theorem c52 : funB Try.prog num Try.f169 A_rel_Rel_And_1 = true := by kernel_rfl
theorem c53 : funB Try.prog num Try.f118 A_rel_Rel_Or_1 = true := by kernel_rfl
theorem c57 : funB Try.prog num Try.f158 A_eco_some = true := by kernel_rfl
theorem c58 : funB Try.prog num Try.f167 A_eco_Inner_1 = true := by kernel_rfl
theorem c59 : funB Try.prog num Try.f160 A_eco_Outer_1 = true := by kernel_rfl
theorem c60 : funB Try.prog num Try.f28 A_graph_Po = true := by kernel_rfl
theorem c61 : funB Try.prog num Try.f159 A_eco_Loc_1 = true := by kernel_rfl
theorem c80 : funB Try.prog num Try.f120 A_eco_pairs = true := by kernel_rfl
theorem c81 : funB Try.prog num Try.f81 A_graph_Of = true := by kernel_rfl
theorem c92 : funB Try.prog num Try.f170 A_eco_pairs_1 = true := by kernel_rfl
theorem c93 : funB Try.prog num Try.f171 A_eco_pairs_2 = true := by kernel_rfl
theorem c94 : funB Try.prog num Try.f172 A_eco_pairs_3 = true := by kernel_rfl
theorem c95 : funB Try.prog num Try.f173 A_eco_pairs_4 = true := by kernel_rfl
theorem c96 : funB Try.prog num Try.f174 A_eco_pairs_5 = true := by kernel_rfl
theorem c141 : funB Try.prog num Try.f11 A_xlaw12_ImmKnown = true := by kernel_rfl
theorem c142 : funB Try.prog num Try.f12 A_xlaw12_ImmFences = true := by kernel_rfl
theorem c148 : funB Try.prog num Try.f22 A_sync_Hb = true := by kernel_rfl
theorem c149 : funB Try.prog num Try.f23 A_sync_Release = true := by kernel_rfl
theorem c152 : funB Try.prog num Try.f27 A_graph_Check = true := by kernel_rfl
theorem c155 : funB Try.prog num Try.f34 A_order_Bob = true := by kernel_rfl
theorem c156 : funB Try.prog num Try.f35 A_order_Ar = true := by kernel_rfl
theorem c158 : funB Try.prog num Try.f37 A_xlaw12_ImmKnown_1 = true := by kernel_rfl
theorem c159 : funB Try.prog num Try.f38 A_xlaw12_ImmKnown_2 = true := by kernel_rfl
theorem c160 : funB Try.prog num Try.f39 A_xlaw12_ImmKnown_3 = true := by kernel_rfl
theorem c161 : funB Try.prog num Try.f40 A_imm_Consistent = true := by kernel_rfl
theorem c162 : funB Try.prog num Try.f41 A_imm_Atomic = true := by kernel_rfl
theorem c163 : funB Try.prog num Try.f42 A_xlaw12_awake = true := by kernel_rfl
theorem c164 : funB Try.prog num Try.f43 A_imm_Coherent = true := by kernel_rfl
theorem c166 : funB Try.prog num Try.f45 A_graph_Set = true := by kernel_rfl
theorem c176 : funB Try.prog num Try.f64 A_sync_Sw = true := by kernel_rfl
theorem c177 : funB Try.prog num Try.f65 A_sync_then = true := by kernel_rfl
theorem c178 : funB Try.prog num Try.f66 A_sync_set = true := by kernel_rfl
theorem c179 : funB Try.prog num Try.f67 A_sync_Rs = true := by kernel_rfl
theorem c186 : funB Try.prog num Try.f74 A_graph_first = true := by kernel_rfl
theorem c187 : funB Try.prog num Try.f75 A_graph_threads = true := by kernel_rfl
theorem c188 : funB Try.prog num Try.f76 A_graph_rf = true := by kernel_rfl
theorem c189 : funB Try.prog num Try.f77 A_graph_co = true := by kernel_rfl
theorem c190 : funB Try.prog num Try.f78 A_graph_rmw = true := by kernel_rfl
theorem c191 : funB Try.prog num Try.f79 A_graph_Check_1 = true := by kernel_rfl
theorem c192 : funB Try.prog num Try.f80 A_graph_list = true := by kernel_rfl
theorem c193 : funB Try.prog num Try.f83 A_order_all = true := by kernel_rfl
theorem c194 : funB Try.prog num Try.f84 A_order_Bob_1 = true := by kernel_rfl
theorem c195 : funB Try.prog num Try.f85 A_order_set = true := by kernel_rfl
theorem c196 : funB Try.prog num Try.f86 A_order_isRel = true := by kernel_rfl
theorem c197 : funB Try.prog num Try.f87 A_order_Bob_2 = true := by kernel_rfl
theorem c198 : funB Try.prog num Try.f88 A_order_isAcq = true := by kernel_rfl
theorem c199 : funB Try.prog num Try.f89 A_order_Bob_3 = true := by kernel_rfl
theorem c200 : funB Try.prog num Try.f90 A_order_isF = true := by kernel_rfl
theorem c201 : funB Try.prog num Try.f91 A_order_Bob_4 = true := by kernel_rfl
theorem c202 : funB Try.prog num Try.f92 A_order_Bob_5 = true := by kernel_rfl
theorem c203 : funB Try.prog num Try.f94 A_order_isW = true := by kernel_rfl
theorem c204 : funB Try.prog num Try.f95 A_order_Ar_1 = true := by kernel_rfl
theorem c205 : funB Try.prog num Try.f98 A_order_Ar_2 = true := by kernel_rfl
theorem c206 : funB Try.prog num Try.f99 A_order_Ar_3 = true := by kernel_rfl
theorem c207 : funB Try.prog num Try.f100 A_order_Ppo = true := by kernel_rfl
theorem c208 : funB Try.prog num Try.f101 A_order_Ar_4 = true := by kernel_rfl
theorem c209 : funB Try.prog num Try.f102 A_order_Detour = true := by kernel_rfl
theorem c210 : funB Try.prog num Try.f103 A_order_Ar_5 = true := by kernel_rfl
theorem c211 : funB Try.prog num Try.f104 A_order_Psc = true := by kernel_rfl
theorem c213 : funB Try.prog num Try.f106 A_order_Deps = true := by kernel_rfl
theorem c214 : funB Try.prog num Try.f107 A_imm_looked_coherent = true := by kernel_rfl
theorem c215 : funB Try.prog num Try.f108 A_imm_looked_atomic = true := by kernel_rfl
theorem c216 : funB Try.prog num Try.f109 A_imm_looked_ordered = true := by kernel_rfl
theorem c217 : funB Try.prog num Try.f110 A_imm_Ordered = true := by kernel_rfl
theorem c218 : funB Try.prog num Try.f111 A_xlaw12_loop = true := by kernel_rfl
theorem c229 : funB Try.prog num Try.f140 A_sync_set_1 = true := by kernel_rfl
theorem c236 : funB Try.prog num Try.f152 A_graph_event = true := by kernel_rfl
theorem c237 : funB Try.prog num Try.f153 A_graph_write = true := by kernel_rfl
theorem c238 : funB Try.prog num Try.f154 A_graph_rmw_1 = true := by kernel_rfl
theorem c239 : funB Try.prog num Try.f155 A_graph_order = true := by kernel_rfl
theorem c240 : funB Try.prog num Try.f157 A_order_isR = true := by kernel_rfl
theorem c241 : funB Try.prog num Try.f161 A_order_isSc = true := by kernel_rfl
theorem c242 : funB Try.prog num Try.f163 A_order_Deps_1 = true := by kernel_rfl
theorem c243 : funB Try.prog num Try.f164 A_order_Deps_2 = true := by kernel_rfl
theorem c244 : funB Try.prog num Try.f165 A_order_Deps_3 = true := by kernel_rfl
theorem c245 : funB Try.prog num Try.f166 A_order_isEx = true := by kernel_rfl
theorem c248 : funB Try.prog num Try.f181 A_cmp_Compare_int = true := by kernel_rfl
theorem c249 : funB Try.prog num Try.f180 A_cmp_Or_int = true := by kernel_rfl
theorem c266 : funB Try.prog num Try.f183 A_cmp_isNaN_int = true := by kernel_rfl
def Good (r : Nat × Nat × AFun) : Prop := num r.1 = r.2.1 ∧ ∃ fn, Try.prog.funcs[r.2.1]? = some fn ∧ funB Try.prog num fn r.2.2 = true
theorem good : ∀ r ∈ tab, Good r := by
  intro r hr
  unfold tab at hr
  rcases List.mem_cons.1 hr with rfl | hr
  · exact ⟨by kernel_rfl, _, Try.func13, c10⟩
  rcases List.mem_cons.1 hr with rfl | hr
  · exact ⟨by kernel_rfl, _, Try.func115, c11⟩
  rcases List.mem_cons.1 hr with rfl | hr
  · exact ⟨by kernel_rfl, _, Try.func31, c12⟩
  rcases List.mem_cons.1 hr with rfl | hr
  · exact ⟨by kernel_rfl, _, Try.func15, c13⟩
  rcases List.mem_cons.1 hr with rfl | hr
  · exact ⟨by kernel_rfl, _, Try.func30, c14⟩
  rcases List.mem_cons.1 hr with rfl | hr
  · exact ⟨by kernel_rfl, _, Try.func24, c15⟩
  rcases List.mem_cons.1 hr with rfl | hr
  · exact ⟨by kernel_rfl, _, Try.func139, c16⟩
  rcases List.mem_cons.1 hr with rfl | hr
  · exact ⟨by kernel_rfl, _, Try.func131, c17⟩
  rcases List.mem_cons.1 hr with rfl | hr
  · exact ⟨by kernel_rfl, _, Try.func119, c18⟩
  rcases List.mem_cons.1 hr with rfl | hr
  · exact ⟨by kernel_rfl, _, Try.func48, c23⟩
  rcases List.mem_cons.1 hr with rfl | hr
  · exact ⟨by kernel_rfl, _, Try.func49, c24⟩
  rcases List.mem_cons.1 hr with rfl | hr
  · exact ⟨by kernel_rfl, _, Try.func114, c39⟩
  rcases List.mem_cons.1 hr with rfl | hr
  · exact ⟨by kernel_rfl, _, Try.func96, c40⟩
  rcases List.mem_cons.1 hr with rfl | hr
  · exact ⟨by kernel_rfl, _, Try.func93, c41⟩
  rcases List.mem_cons.1 hr with rfl | hr
  · exact ⟨by kernel_rfl, _, Try.func162, c42⟩
  rcases List.mem_cons.1 hr with rfl | hr
  · exact ⟨by kernel_rfl, _, Try.func97, c48⟩
  rcases List.mem_cons.1 hr with rfl | hr
  · exact ⟨by kernel_rfl, _, Try.func53, c49⟩
  rcases List.mem_cons.1 hr with rfl | hr
  · exact ⟨by kernel_rfl, _, Try.func52, c50⟩
  rcases List.mem_cons.1 hr with rfl | hr
  · exact ⟨by kernel_rfl, _, Try.func117, c51⟩
  rcases List.mem_cons.1 hr with rfl | hr
  · exact ⟨by kernel_rfl, _, Try.func169, c52⟩
  rcases List.mem_cons.1 hr with rfl | hr
  · exact ⟨by kernel_rfl, _, Try.func118, c53⟩
  rcases List.mem_cons.1 hr with rfl | hr
  · exact ⟨by kernel_rfl, _, Try.func158, c57⟩
  rcases List.mem_cons.1 hr with rfl | hr
  · exact ⟨by kernel_rfl, _, Try.func167, c58⟩
  rcases List.mem_cons.1 hr with rfl | hr
  · exact ⟨by kernel_rfl, _, Try.func160, c59⟩
  rcases List.mem_cons.1 hr with rfl | hr
  · exact ⟨by kernel_rfl, _, Try.func28, c60⟩
  rcases List.mem_cons.1 hr with rfl | hr
  · exact ⟨by kernel_rfl, _, Try.func159, c61⟩
  rcases List.mem_cons.1 hr with rfl | hr
  · exact ⟨by kernel_rfl, _, Try.func120, c80⟩
  rcases List.mem_cons.1 hr with rfl | hr
  · exact ⟨by kernel_rfl, _, Try.func81, c81⟩
  rcases List.mem_cons.1 hr with rfl | hr
  · exact ⟨by kernel_rfl, _, Try.func170, c92⟩
  rcases List.mem_cons.1 hr with rfl | hr
  · exact ⟨by kernel_rfl, _, Try.func171, c93⟩
  rcases List.mem_cons.1 hr with rfl | hr
  · exact ⟨by kernel_rfl, _, Try.func172, c94⟩
  rcases List.mem_cons.1 hr with rfl | hr
  · exact ⟨by kernel_rfl, _, Try.func173, c95⟩
  rcases List.mem_cons.1 hr with rfl | hr
  · exact ⟨by kernel_rfl, _, Try.func174, c96⟩
  rcases List.mem_cons.1 hr with rfl | hr
  · exact ⟨by kernel_rfl, _, Try.func11, c141⟩
  rcases List.mem_cons.1 hr with rfl | hr
  · exact ⟨by kernel_rfl, _, Try.func12, c142⟩
  rcases List.mem_cons.1 hr with rfl | hr
  · exact ⟨by kernel_rfl, _, Try.func22, c148⟩
  rcases List.mem_cons.1 hr with rfl | hr
  · exact ⟨by kernel_rfl, _, Try.func23, c149⟩
  rcases List.mem_cons.1 hr with rfl | hr
  · exact ⟨by kernel_rfl, _, Try.func27, c152⟩
  rcases List.mem_cons.1 hr with rfl | hr
  · exact ⟨by kernel_rfl, _, Try.func34, c155⟩
  rcases List.mem_cons.1 hr with rfl | hr
  · exact ⟨by kernel_rfl, _, Try.func35, c156⟩
  rcases List.mem_cons.1 hr with rfl | hr
  · exact ⟨by kernel_rfl, _, Try.func37, c158⟩
  rcases List.mem_cons.1 hr with rfl | hr
  · exact ⟨by kernel_rfl, _, Try.func38, c159⟩
  rcases List.mem_cons.1 hr with rfl | hr
  · exact ⟨by kernel_rfl, _, Try.func39, c160⟩
  rcases List.mem_cons.1 hr with rfl | hr
  · exact ⟨by kernel_rfl, _, Try.func40, c161⟩
  rcases List.mem_cons.1 hr with rfl | hr
  · exact ⟨by kernel_rfl, _, Try.func41, c162⟩
  rcases List.mem_cons.1 hr with rfl | hr
  · exact ⟨by kernel_rfl, _, Try.func42, c163⟩
  rcases List.mem_cons.1 hr with rfl | hr
  · exact ⟨by kernel_rfl, _, Try.func43, c164⟩
  rcases List.mem_cons.1 hr with rfl | hr
  · exact ⟨by kernel_rfl, _, Try.func45, c166⟩
  rcases List.mem_cons.1 hr with rfl | hr
  · exact ⟨by kernel_rfl, _, Try.func64, c176⟩
  rcases List.mem_cons.1 hr with rfl | hr
  · exact ⟨by kernel_rfl, _, Try.func65, c177⟩
  rcases List.mem_cons.1 hr with rfl | hr
  · exact ⟨by kernel_rfl, _, Try.func66, c178⟩
  rcases List.mem_cons.1 hr with rfl | hr
  · exact ⟨by kernel_rfl, _, Try.func67, c179⟩
  rcases List.mem_cons.1 hr with rfl | hr
  · exact ⟨by kernel_rfl, _, Try.func74, c186⟩
  rcases List.mem_cons.1 hr with rfl | hr
  · exact ⟨by kernel_rfl, _, Try.func75, c187⟩
  rcases List.mem_cons.1 hr with rfl | hr
  · exact ⟨by kernel_rfl, _, Try.func76, c188⟩
  rcases List.mem_cons.1 hr with rfl | hr
  · exact ⟨by kernel_rfl, _, Try.func77, c189⟩
  rcases List.mem_cons.1 hr with rfl | hr
  · exact ⟨by kernel_rfl, _, Try.func78, c190⟩
  rcases List.mem_cons.1 hr with rfl | hr
  · exact ⟨by kernel_rfl, _, Try.func79, c191⟩
  rcases List.mem_cons.1 hr with rfl | hr
  · exact ⟨by kernel_rfl, _, Try.func80, c192⟩
  rcases List.mem_cons.1 hr with rfl | hr
  · exact ⟨by kernel_rfl, _, Try.func83, c193⟩
  rcases List.mem_cons.1 hr with rfl | hr
  · exact ⟨by kernel_rfl, _, Try.func84, c194⟩
  rcases List.mem_cons.1 hr with rfl | hr
  · exact ⟨by kernel_rfl, _, Try.func85, c195⟩
  rcases List.mem_cons.1 hr with rfl | hr
  · exact ⟨by kernel_rfl, _, Try.func86, c196⟩
  rcases List.mem_cons.1 hr with rfl | hr
  · exact ⟨by kernel_rfl, _, Try.func87, c197⟩
  rcases List.mem_cons.1 hr with rfl | hr
  · exact ⟨by kernel_rfl, _, Try.func88, c198⟩
  rcases List.mem_cons.1 hr with rfl | hr
  · exact ⟨by kernel_rfl, _, Try.func89, c199⟩
  rcases List.mem_cons.1 hr with rfl | hr
  · exact ⟨by kernel_rfl, _, Try.func90, c200⟩
  rcases List.mem_cons.1 hr with rfl | hr
  · exact ⟨by kernel_rfl, _, Try.func91, c201⟩
  rcases List.mem_cons.1 hr with rfl | hr
  · exact ⟨by kernel_rfl, _, Try.func92, c202⟩
  rcases List.mem_cons.1 hr with rfl | hr
  · exact ⟨by kernel_rfl, _, Try.func94, c203⟩
  rcases List.mem_cons.1 hr with rfl | hr
  · exact ⟨by kernel_rfl, _, Try.func95, c204⟩
  rcases List.mem_cons.1 hr with rfl | hr
  · exact ⟨by kernel_rfl, _, Try.func98, c205⟩
  rcases List.mem_cons.1 hr with rfl | hr
  · exact ⟨by kernel_rfl, _, Try.func99, c206⟩
  rcases List.mem_cons.1 hr with rfl | hr
  · exact ⟨by kernel_rfl, _, Try.func100, c207⟩
  rcases List.mem_cons.1 hr with rfl | hr
  · exact ⟨by kernel_rfl, _, Try.func101, c208⟩
  rcases List.mem_cons.1 hr with rfl | hr
  · exact ⟨by kernel_rfl, _, Try.func102, c209⟩
  rcases List.mem_cons.1 hr with rfl | hr
  · exact ⟨by kernel_rfl, _, Try.func103, c210⟩
  rcases List.mem_cons.1 hr with rfl | hr
  · exact ⟨by kernel_rfl, _, Try.func104, c211⟩
  rcases List.mem_cons.1 hr with rfl | hr
  · exact ⟨by kernel_rfl, _, Try.func106, c213⟩
  rcases List.mem_cons.1 hr with rfl | hr
  · exact ⟨by kernel_rfl, _, Try.func107, c214⟩
  rcases List.mem_cons.1 hr with rfl | hr
  · exact ⟨by kernel_rfl, _, Try.func108, c215⟩
  rcases List.mem_cons.1 hr with rfl | hr
  · exact ⟨by kernel_rfl, _, Try.func109, c216⟩
  rcases List.mem_cons.1 hr with rfl | hr
  · exact ⟨by kernel_rfl, _, Try.func110, c217⟩
  rcases List.mem_cons.1 hr with rfl | hr
  · exact ⟨by kernel_rfl, _, Try.func111, c218⟩
  rcases List.mem_cons.1 hr with rfl | hr
  · exact ⟨by kernel_rfl, _, Try.func140, c229⟩
  rcases List.mem_cons.1 hr with rfl | hr
  · exact ⟨by kernel_rfl, _, Try.func152, c236⟩
  rcases List.mem_cons.1 hr with rfl | hr
  · exact ⟨by kernel_rfl, _, Try.func153, c237⟩
  rcases List.mem_cons.1 hr with rfl | hr
  · exact ⟨by kernel_rfl, _, Try.func154, c238⟩
  rcases List.mem_cons.1 hr with rfl | hr
  · exact ⟨by kernel_rfl, _, Try.func155, c239⟩
  rcases List.mem_cons.1 hr with rfl | hr
  · exact ⟨by kernel_rfl, _, Try.func157, c240⟩
  rcases List.mem_cons.1 hr with rfl | hr
  · exact ⟨by kernel_rfl, _, Try.func161, c241⟩
  rcases List.mem_cons.1 hr with rfl | hr
  · exact ⟨by kernel_rfl, _, Try.func163, c242⟩
  rcases List.mem_cons.1 hr with rfl | hr
  · exact ⟨by kernel_rfl, _, Try.func164, c243⟩
  rcases List.mem_cons.1 hr with rfl | hr
  · exact ⟨by kernel_rfl, _, Try.func165, c244⟩
  rcases List.mem_cons.1 hr with rfl | hr
  · exact ⟨by kernel_rfl, _, Try.func166, c245⟩
  rcases List.mem_cons.1 hr with rfl | hr
  · exact ⟨by kernel_rfl, _, Try.func181, c248⟩
  rcases List.mem_cons.1 hr with rfl | hr
  · exact ⟨by kernel_rfl, _, Try.func180, c249⟩
  rcases List.mem_cons.1 hr with rfl | hr
  · exact ⟨by kernel_rfl, _, Try.func183, c266⟩
  cases hr
theorem table : Table Try.prog num funs := by
  intro f A h
  unfold funs at h
  cases hf : tab.find? (fun r => r.1 == f) with
  | none => rw [hf] at h; cases h
  | some r =>
    rw [hf] at h; cases h
    have h1 := List.find?_some hf
    simp only [beq_iff_eq] at h1
    subst h1
    obtain ⟨h2, h3⟩ := good r (List.mem_of_find?_eq_some hf)
    rw [h2]; exact h3
theorem pk_eco : Pk_eco funs := ⟨rfl, rfl, rfl, rfl, rfl, rfl, rfl, rfl, rfl, rfl, rfl, rfl, rfl, rfl, rfl, rfl, rfl⟩
theorem pk_imm : Pk_imm funs := ⟨rfl, rfl, rfl, rfl, rfl, rfl, rfl⟩
theorem pk_order : Pk_order funs := ⟨rfl, rfl, rfl, rfl, rfl, rfl, rfl, rfl, rfl, rfl, rfl, rfl, rfl, rfl, rfl, rfl, rfl, rfl, rfl, rfl, rfl, rfl, rfl, rfl, rfl, rfl, rfl, rfl⟩
theorem pk_rel : Pk_rel funs := ⟨rfl, rfl, rfl, rfl, rfl, rfl, rfl, rfl, rfl, rfl, rfl, rfl, rfl⟩
theorem pk_sync : Pk_sync funs := ⟨rfl, rfl, rfl, rfl, rfl, rfl, rfl⟩
end Go.Proofs.Ytkiecemdbkjccaa
end
section
namespace Go.Ab
def CLe (c d : CS) : Prop := ∀ f asx g r, c f asx g = some r → d f asx g = some r
theorem opE_mono {c d : CS} (h : CLe c d) {al : Nat → Bool} {lo id : Nat} {op : AOp} {e : Env} {g : G} {r : AV × G} (hr : opE c al lo id op e g = some r) : opE d al lo id op e g = some r := by
  cases op with
  | call m f args =>
    simp only [opE, vCall] at hr ⊢
    split at hr
    · cases m with
      | raw => exact h _ _ _ _ hr
      | pure =>
        simp only at hr ⊢
        split at hr
        · cases hr
        · split at hr
          · cases hr
          · rename_i hc
            rw [h _ _ _ _ hc]
            exact hr
      | lock =>
        simp only at hr ⊢
        split at hr
        · cases hr
        · split at hr
          · cases hr
          · rename_i hc
            rw [h _ _ _ _ hc]
            exact hr
      | thaw =>
        simp only at hr ⊢
        split at hr
        · cases hr
        · split at hr
          · rename_i hc
            rw [h _ _ _ _ hc]
            exact hr
          · cases hr
    · cases hr
  | _ => exact hr
theorem regE_mono {c d : CS} (h : CLe c d) {draw : Bool} {base : Nat} : ∀ {os : List AOper} {j : Nat} {e : Env} {g : G} {r}, regE c draw base j os e g = some r → regE d draw base j os e g = some r
  | [], _, _, _, _, hr => hr
  | o :: os, j, e, g, r, hr => by
    simp only [regE] at hr ⊢
    split
    · rename_i hw
      simp only [hw, if_true] at hr
      split at hr
      · rename_i ho
        rw [opE_mono h ho]
        exact regE_mono h hr
      · cases hr
    · rename_i hw
      simp only [hw, Bool.false_eq_true, if_false] at hr
      exact regE_mono h hr
theorem iter_mono {f f' : Env → G → Option (Out × Env × G)} (h : ∀ e g r, f e g = some r → f' e g = some r) : ∀ {k k' : Nat} {e g r}, k ≤ k' → iter f k e g = some r → iter f' k' e g = some r
  | 0, _, _, _, _, _, hr => by simp [iter] at hr
  | k + 1, k', e, g, r, hk, hr => by
    obtain ⟨k', rfl⟩ : ∃ j, k' = j + 1 := ⟨k' - 1, by omega⟩
    simp only [iter] at hr ⊢
    split at hr
    · rename_i hf
      rw [h _ _ _ hf]
      exact iter_mono h (by omega) hr
    · rename_i hn
      cases hf : f e g with
      | none => rw [hf] at hr; cases hr
      | some q =>
        rw [hf] at hr
        obtain rfl : q = r := Option.some.inj hr
        obtain ⟨o, e', g'⟩ := q
        cases o with
        | nrm => exact absurd hf (hn _ _)
        | ext n => rw [h _ _ _ hf]
        | ret => rw [h _ _ _ hf]
theorem codeE_mono {c d : CS} (h : CLe c d) {k k' : Nat} (hk : k ≤ k') : ∀ {x : ACode} {e : Env} {g : G} {r}, codeE c k x e g = some r → codeE d k' x e g = some r := by
  intro x
  induction x with
  | skip => intro e g r hr; exact hr
  | reg draw ops =>
    intro e g r hr
    simp only [codeE] at hr ⊢
    split at hr
    · rename_i ho
      rw [regE_mono h ho]
      exact hr
    · cases hr
  | seq a b iha ihb =>
    intro e g r hr
    simp only [codeE] at hr ⊢
    split at hr
    · rename_i ho
      rw [iha ho]
      exact ihb hr
    · rename_i hn
      cases hf : codeE c k a e g with
      | none => rw [hf] at hr; cases hr
      | some q =>
        rw [hf] at hr
        obtain rfl : q = r := Option.some.inj hr
        obtain ⟨o, e', g'⟩ := q
        cases o with
        | nrm => exact absurd hf (hn _ _)
        | ext n => rw [iha hf]
        | ret => rw [iha hf]
  | cond cc t f iht ihf =>
    intro e g r hr
    simp only [codeE] at hr ⊢
    split at hr
    · split
      · rename_i hx
        simp only [hx, if_true] at hr
        exact iht hr
      · rename_i hx
        simp only [hx, Bool.false_eq_true, if_false] at hr
        exact ihf hr
    · cases hr
  | lck t cc ih =>
    intro e g r hr
    simp only [codeE] at hr ⊢
    exact ih hr
  | imm t cc ih =>
    intro e g r hr
    simp only [codeE] at hr ⊢
    cases hf : frz g.hp depth (e t) with
    | none => rw [hf] at hr; cases hr
    | some v => rw [hf] at hr; exact ih hr
  | scp cc ih =>
    intro e g r hr
    simp only [codeE] at hr ⊢
    exact ih hr
  | lab =>
    intro e g r hr
    simp only [codeE] at hr ⊢
    exact hr
  | blk id cc ih =>
    intro e g r hr
    simp only [codeE] at hr ⊢
    split at hr
    · rename_i hf
      rw [ih hf]
      exact hr
    · rename_i hn
      cases hf : codeE c k cc e g with
      | none => rw [hf] at hr; cases hr
      | some q =>
        rw [hf] at hr
        obtain rfl : q = r := Option.some.inj hr
        obtain ⟨o, e', g'⟩ := q
        cases o with
        | nrm => rw [ih hf]
        | ext n => exact absurd hf (hn _ _ _)
        | ret => rw [ih hf]
  | loop cc ih =>
    intro e g r hr
    simp only [codeE] at hr ⊢
    exact iter_mono (fun _ _ _ => ih) hk hr
  | ext id => intro e g r hr; exact hr
  | ret => intro e g r hr; exact hr
theorem callE_mono (F : Funs) : ∀ {k k' : Nat}, k ≤ k' → CLe (callE F k) (callE F k')
  | 0, _, _, _, _, _, _, hr => by simp [callE] at hr
  | k + 1, k', hk, f, asx, g, r, hr => by
    obtain ⟨k', rfl⟩ : ∃ j, k' = j + 1 := ⟨k' - 1, by omega⟩
    simp only [callE] at hr ⊢
    split at hr
    · cases hr
    · rename_i fn hF
      have hm := fun {x} => codeE_mono (callE_mono F (show k ≤ k' by omega)) (show k ≤ k' by omega) (x := fn.body) (e := argEnv asx) (g := g) (r := x)
      split at hr
      · rename_i hc
        rw [hm hc]
        exact hr
      · rename_i hc
        rw [hm hc]
        exact hr
      · cases hr
open Classical in
noncomputable def lim {α : Type} (f : Nat → Option α) : Option α :=
  if h : ∃ r k, f k = some r then some (Classical.choose h) else none
theorem lim_some {α : Type} {f : Nat → Option α} (hm : ∀ k k' r, k ≤ k' → f k = some r → f k' = some r) {r : α} : lim f = some r ↔ ∃ k, f k = some r := by
  unfold lim
  constructor
  · intro h
    split at h
    · rename_i hx
      have := Classical.choose_spec hx
      rwa [Option.some.inj h] at this
    · cases h
  · rintro ⟨k, hk⟩
    rw [dif_pos ⟨r, k, hk⟩]
    obtain ⟨k', hk'⟩ := Classical.choose_spec (⟨r, k, hk⟩ : ∃ r k, f k = some r)
    have h1 := hm k (max k k') _ (by omega) hk
    have h2 := hm k' (max k k') _ (by omega) hk'
    rw [h1] at h2
    exact congrArg some (Option.some.inj h2).symm
theorem lim_ext {α : Type} {a b : Option α} (h : ∀ r, a = some r ↔ b = some r) : a = b := by
  cases a with
  | none =>
    cases b with
    | none => rfl
    | some r => exact (((h r).2 rfl).symm ▸ rfl : none = some r)
  | some r => exact ((h r).1 rfl).symm
variable (F : Funs)
noncomputable def callS : CS := fun f asx g => lim fun k => callE F k f asx g
noncomputable def codeS (x : ACode) (e : Env) (g : G) : Option (Out × Env × G) := lim fun k => codeE (callE F k) k x e g
theorem callS_some {f asx g r} : callS F f asx g = some r ↔ ∃ k, callE F k f asx g = some r :=
  lim_some fun _ _ _ hk h => callE_mono F hk _ _ _ _ h
theorem codeS_some {x e g r} : codeS F x e g = some r ↔ ∃ k, codeE (callE F k) k x e g = some r :=
  lim_some fun _ _ _ hk h => codeE_mono (callE_mono F hk) hk h
theorem callE_le (k : Nat) : CLe (callE F k) (callS F) := fun _ _ _ _ h => (callS_some F).2 ⟨k, h⟩
theorem opE_lim {al lo id op e g r} : opE (callS F) al lo id op e g = some r ↔ ∃ k, opE (callE F k) al lo id op e g = some r := by
  refine ⟨fun h => ?_, fun ⟨k, h⟩ => opE_mono (callE_le F k) h⟩
  cases op with
  | call m f args =>
    simp only [opE, vCall] at h ⊢
    split at h
    · cases m with
      | raw => exact (callS_some F).1 h
      | pure =>
        simp only at h ⊢
        split at h
        · cases h
        · split at h
          · cases h
          · rename_i hc
            obtain ⟨k, hk⟩ := (callS_some F).1 hc
            exact ⟨k, by rw [hk]; exact h⟩
      | lock =>
        simp only at h ⊢
        split at h
        · cases h
        · split at h
          · cases h
          · rename_i hc
            obtain ⟨k, hk⟩ := (callS_some F).1 hc
            exact ⟨k, by rw [hk]; exact h⟩
      | thaw =>
        simp only at h ⊢
        split at h
        · cases h
        · split at h
          · rename_i hc
            obtain ⟨k, hk⟩ := (callS_some F).1 hc
            exact ⟨k, by rw [hk]; exact h⟩
          · cases h
    · cases h
  | _ => exact ⟨0, h⟩
theorem regE_lim {draw base} : ∀ {os : List AOper} {j e g r}, regE (callS F) draw base j os e g = some r ↔ ∃ k, regE (callE F k) draw base j os e g = some r
  | [], _, _, _, _ => ⟨fun h => ⟨0, h⟩, fun ⟨_, h⟩ => h⟩
  | o :: os, j, e, g, r => by
    refine ⟨fun h => ?_, fun ⟨k, h⟩ => regE_mono (callE_le F k) h⟩
    simp only [regE] at h
    split at h
    · rename_i hw
      split at h
      · rename_i ho
        obtain ⟨k1, h1⟩ := (opE_lim F).1 ho
        obtain ⟨k2, h2⟩ := (regE_lim).1 h
        refine ⟨max k1 k2, ?_⟩
        simp only [regE]
        rw [if_pos hw, opE_mono (callE_mono F (Nat.le_max_left k1 k2)) h1]
        exact regE_mono (callE_mono F (Nat.le_max_right k1 k2)) h2
      · cases h
    · rename_i hw
      obtain ⟨k2, h2⟩ := (regE_lim).1 h
      refine ⟨k2, ?_⟩
      simp only [regE]
      rw [if_neg hw]
      exact h2
theorem codeS_skip (e g) : codeS F .skip e g = some (.nrm, e, g) := (codeS_some F).2 ⟨0, rfl⟩
theorem codeS_ext (id e g) : codeS F (.ext id) e g = some (.ext id, e, g) := (codeS_some F).2 ⟨0, rfl⟩
theorem codeS_ret (e g) : codeS F .ret e g = some (.ret, e, g) := (codeS_some F).2 ⟨0, rfl⟩
theorem codeS_reg (draw ops e g) : codeS F (.reg draw ops) e g = match regE (callS F) draw g.nx 0 ops e { g with nx := g.nx + ops.length } with
    | some (e, g) => some (.nrm, e, g)
    | none => none := by
  refine lim_ext fun r => ?_
  rw [codeS_some]
  constructor
  · rintro ⟨k, h⟩
    simp only [codeE] at h
    split at h
    · rename_i ho
      rw [(regE_lim F).2 ⟨k, ho⟩]
      exact h
    · cases h
  · intro h
    split at h
    · rename_i ho
      obtain ⟨k, hk⟩ := (regE_lim F).1 ho
      exact ⟨k, by simp only [codeE]; rw [hk]; exact h⟩
    · cases h
theorem codeS_seq (a b e g) : codeS F (.seq a b) e g = match codeS F a e g with
    | some (.nrm, e, g) => codeS F b e g
    | r => r := by
  refine lim_ext fun r => ?_
  rw [codeS_some]
  constructor
  · rintro ⟨k, h⟩
    simp only [codeE] at h
    split at h
    · rename_i ho
      rw [(codeS_some F).2 ⟨k, ho⟩]
      exact (codeS_some F).2 ⟨k, h⟩
    · rename_i hn
      rw [(codeS_some F).2 ⟨k, h⟩]
      obtain ⟨o, e', g'⟩ := r
      cases o with
      | nrm => exact absurd h (hn _ _)
      | ext n => rfl
      | ret => rfl
  · intro h
    split at h
    · rename_i ho
      obtain ⟨k1, h1⟩ := (codeS_some F).1 ho
      obtain ⟨k2, h2⟩ := (codeS_some F).1 h
      refine ⟨max k1 k2, ?_⟩
      simp only [codeE]
      rw [codeE_mono (callE_mono F (Nat.le_max_left k1 k2)) (Nat.le_max_left k1 k2) h1]
      exact codeE_mono (callE_mono F (Nat.le_max_right k1 k2)) (Nat.le_max_right k1 k2) h2
    · rename_i hn
      obtain ⟨k1, h1⟩ := (codeS_some F).1 h
      refine ⟨k1, ?_⟩
      simp only [codeE]
      rw [h1]
      obtain ⟨o, e', g'⟩ := r
      cases o with
      | nrm => exact absurd h (hn _ _)
      | ext n => rfl
      | ret => rfl
theorem codeS_cond (c t f e g) : codeS F (.cond c t f) e g = match c.ev e with
    | .b x => if x then codeS F t e g else codeS F f e g
    | _ => none := by
  refine lim_ext fun r => ?_
  rw [codeS_some]
  simp only [codeE]
  cases c.ev e with
  | b x =>
    cases x with
    | true => simp only [if_true]; exact (codeS_some F).symm
    | false => simp only [Bool.false_eq_true, if_false]; exact (codeS_some F).symm
  | _ => simp
theorem codeS_lck (t c e g) : codeS F (.lck t c) e g = codeS F c e ⟨lock g.hp (vis g.hp depth (e t)), g.nx⟩ := by
  refine lim_ext fun r => ?_
  rw [codeS_some]
  simp only [codeE]
  exact (codeS_some F).symm
theorem codeS_imm (t c e g) : codeS F (.imm t c) e g = match frz g.hp depth (e t) with
    | some v => codeS F c (upd e t v) ⟨lock g.hp (vis g.hp depth (e t)), g.nx⟩
    | none => none := by
  refine lim_ext fun r => ?_
  rw [codeS_some]
  simp only [codeE]
  cases frz g.hp depth (e t) with
  | none => simp
  | some v => exact (codeS_some F).symm
theorem codeS_scp (c e g) : codeS F (.scp c) e g = codeS F c e g := by
  refine lim_ext fun r => ?_
  rw [codeS_some]
  simp only [codeE]
  exact (codeS_some F).symm
theorem codeS_lab (e g) : codeS F .lab e g = some (.nrm, e, g) := by
  refine lim_ext fun r => ?_
  rw [codeS_some]
  simp only [codeE]
  exact ⟨fun ⟨_, h⟩ => h, fun h => ⟨0, h⟩⟩
theorem codeS_blk (id c e g) : codeS F (.blk id c) e g = match codeS F c e g with
    | some (.ext n, e, g) => some (if n = id then .nrm else .ext n, e, g)
    | r => r := by
  refine lim_ext fun r => ?_
  rw [codeS_some]
  constructor
  · rintro ⟨k, h⟩
    simp only [codeE] at h
    split at h
    · rename_i ho
      rw [(codeS_some F).2 ⟨k, ho⟩]
      exact h
    · rename_i hn
      rw [(codeS_some F).2 ⟨k, h⟩]
      obtain ⟨o, e', g'⟩ := r
      cases o with
      | nrm => rfl
      | ext n => exact absurd h (hn _ _ _)
      | ret => rfl
  · intro h
    split at h
    · rename_i ho
      obtain ⟨k1, h1⟩ := (codeS_some F).1 ho
      exact ⟨k1, by simp only [codeE]; rw [h1]; exact h⟩
    · rename_i hn
      obtain ⟨k1, h1⟩ := (codeS_some F).1 h
      refine ⟨k1, ?_⟩
      simp only [codeE]
      rw [h1]
      obtain ⟨o, e', g'⟩ := r
      cases o with
      | nrm => rfl
      | ext n => exact absurd h (hn _ _ _)
      | ret => rfl
theorem codeS_loop (c e g) : codeS F (.loop c) e g = match codeS F c e g with
    | some (.nrm, e, g) => codeS F (.loop c) e g
    | r => r := by
  refine lim_ext fun r => ?_
  rw [codeS_some]
  constructor
  · rintro ⟨k, h⟩
    simp only [codeE] at h
    cases k with
    | zero => simp [iter] at h
    | succ k =>
      simp only [iter] at h
      split at h
      · rename_i ho
        rw [(codeS_some F).2 ⟨k + 1, ho⟩]
        refine (codeS_some F).2 ⟨k + 1, ?_⟩
        simp only [codeE]
        exact iter_mono (fun _ _ _ h => h) (Nat.le_succ k) h
      · rename_i hn
        rw [(codeS_some F).2 ⟨k + 1, h⟩]
        obtain ⟨o, e', g'⟩ := r
        cases o with
        | nrm => exact absurd h (hn _ _)
        | ext n => rfl
        | ret => rfl
  · intro h
    split at h
    · rename_i ho
      obtain ⟨k1, h1⟩ := (codeS_some F).1 ho
      obtain ⟨k2, h2⟩ := (codeS_some F).1 h
      simp only [codeE] at h2
      refine ⟨max k1 k2 + 1, ?_⟩
      simp only [codeE, iter]
      rw [codeE_mono (callE_mono F (by omega : k1 ≤ max k1 k2 + 1)) (by omega : k1 ≤ max k1 k2 + 1) h1]
      exact iter_mono (fun _ _ _ h => codeE_mono (callE_mono F (by omega : k2 ≤ max k1 k2 + 1)) (by omega : k2 ≤ max k1 k2 + 1) h) (by omega) h2
    · rename_i hn
      obtain ⟨k1, h1⟩ := (codeS_some F).1 h
      refine ⟨k1 + 1, ?_⟩
      simp only [codeE, iter]
      rw [codeE_mono (callE_mono F (by omega : k1 ≤ k1 + 1)) (by omega : k1 ≤ k1 + 1) h1]
      obtain ⟨o, e', g'⟩ := r
      cases o with
      | nrm => exact absurd h (hn _ _)
      | ext n => rfl
      | ret => rfl
theorem callS_eq (f asx g) : callS F f asx g = match F f with
    | none => none
    | some fn => match codeS F fn.body (argEnv asx) g with
      | some (.nrm, e, g) | some (.ret, e, g) => (resE fn.res e g).map (·, g)
      | _ => none := by
  refine lim_ext fun r => ?_
  rw [callS_some]
  constructor
  · rintro ⟨k, h⟩
    cases k with
    | zero => simp [callE] at h
    | succ k =>
      simp only [callE] at h
      split at h
      · cases h
      · rename_i fn hF
        rw [hF]
        simp only
        split at h
        · rename_i hc
          rw [(codeS_some F).2 ⟨k, hc⟩]
          exact h
        · rename_i hc
          rw [(codeS_some F).2 ⟨k, hc⟩]
          exact h
        · cases h
  · intro h
    split at h
    · cases h
    · rename_i fn hF
      split at h
      · rename_i hc
        obtain ⟨k, hk⟩ := (codeS_some F).1 hc
        exact ⟨k + 1, by simp only [callE, hF]; rw [hk]; exact h⟩
      · rename_i hc
        obtain ⟨k, hk⟩ := (codeS_some F).1 hc
        exact ⟨k + 1, by simp only [callE, hF]; rw [hk]; exact h⟩
      · cases h
end Go.Ab
end
section
namespace Go.Ab
theorem upd_same {α : Type} (e : Nat → α) (d : Nat) (v : α) : upd e d v d = v := if_pos rfl
theorem upd_ne {α : Type} (e : Nat → α) {d k : Nat} (v : α) (h : k ≠ d) : upd e d v k = e k := if_neg h
theorem put_some (e : Env) (d : Nat) (v : AV) : put e (some d) v = upd e d v := rfl
theorem put_none (e : Env) (v : AV) : put e none v = e := rfl
theorem allow_no (base : Nat) (pre : List Nat) (id : Nat) : allow false base pre id = true := rfl
theorem allow_lt {base id : Nat} (pre : List Nat) (h : id < base) : allow true base pre id = true := by simp [allow, h]
section
variable (c : CS) (d : Bool) (b j : Nat) (dst : Option Nat) (os : List AOper) (e : Env)
def bindR (r : Option (AV × G)) : Option (Env × G) :=
  match r with
  | some (v, g) => regE c d b j os (put e dst v) g
  | none => none
def selR (w : Bool) (op : AOp) (pre : List Nat) (g : G) : Option (Env × G) :=
  if w then bindR c d b (j + 1) dst os e (opE c (allow d b pre) b (b + j) op e g) else regE c d b (j + 1) os (put e dst .undef) g
theorem selR_true (op pre g) : selR c d b j dst os e true op pre g = bindR c d b (j + 1) dst os e (opE c (allow d b pre) b (b + j) op e g) := rfl
theorem regE_nil (g : G) : regE c d b j [] e g = some (e, g) := rfl
theorem regE_cons (op : AOp) (grd : Option (Nat × Bool)) (pre : List Nat) (g : G) :
    regE c d b j ({ dst, op, grd, pre } :: os) e g = selR c d b j dst os e (wanted e grd) op pre g := by
  simp only [regE, selR, bindR]
  rfl
end
section
variable (F : Funs)
noncomputable def thenS (x : ACode) (r : Option (Out × Env × G)) : Option (Out × Env × G) :=
  match r with
  | some (.nrm, e, g) => codeS F x e g
  | r => r
noncomputable def selS (t f : ACode) (e : Env) (g : G) (v : AV) : Option (Out × Env × G) :=
  match v with
  | .b c => if c then codeS F t e g else codeS F f e g
  | _ => none
def normS (r : Option (Env × G)) : Option (Out × Env × G) :=
  match r with
  | some (e, g) => some (.nrm, e, g)
  | none => none
def blkS (id : Nat) (r : Option (Out × Env × G)) : Option (Out × Env × G) :=
  match r with
  | some (.ext n, e, g) => some (if n = id then .nrm else .ext n, e, g)
  | r => r
theorem cS_reg (draw ops e g) : codeS F (.reg draw ops) e g = normS (regE (callS F) draw g.nx 0 ops e ⟨g.hp, g.nx + ops.length⟩) := codeS_reg F draw ops e g
theorem cS_seq (a b e g) : codeS F (.seq a b) e g = thenS F b (codeS F a e g) := codeS_seq F a b e g
theorem cS_cond (c t f e g) : codeS F (.cond c t f) e g = selS F t f e g (c.ev e) := codeS_cond F c t f e g
theorem cS_blk (id c e g) : codeS F (.blk id c) e g = blkS id (codeS F c e g) := codeS_blk F id c e g
theorem cS_loop (c e g) : codeS F (.loop c) e g = thenS F (.loop c) (codeS F c e g) := codeS_loop F c e g
end
def wantV (v : AV) (w : Bool) : Bool := match v with | .b x => x == w | _ => false
theorem wanted_none (e : Env) : wanted e none = true := rfl
theorem wanted_some (e : Env) (t : Nat) (w : Bool) : wanted e (some (t, w)) = wantV (e t) w := rfl
theorem wantV_1 (x : Bool) : wantV (.b x) true = x := by cases x <;> rfl
theorem wantV_0 (x : Bool) : wantV (.b x) false = !x := by cases x <;> rfl
theorem wantV_undef (w : Bool) : wantV .undef w = false := rfl
section
variable {c : CS} {al : Nat → Bool} {lo id : Nat} {e : Env} {g : G}
theorem ev_t (n : Nat) : Opd.ev e (.t n) = e n := rfl
theorem ev_c (v : AV) : Opd.ev e (.c v) = v := rfl
theorem o_mv (x : Opd) : opE c al lo id (.mv x) e g = some (x.ev e, g) := rfl
theorem o_pick (x y z : Opd) : opE c al lo id (.pick x y z) e g = vPick (x.ev e) (y.ev e) (z.ev e) g := rfl
theorem vPick_t (a b : AV) (g : G) : vPick (.b true) a b g = some (a, g) := rfl
theorem vPick_f (a b : AV) (g : G) : vPick (.b false) a b g = some (b, g) := rfl
theorem o_new (z : List AV) : opE c al lo id (.new z) e g = some (.mp id 0, ⟨upd g.hp id (some (.cells z false)), g.nx⟩) := rfl
theorem o_box (x : Opd) : opE c al lo id (.box x) e g = vBox id (x.ev e) g := rfl
theorem vMap_some (v : AV) : vMap g (some v) = some (v, g) := rfl
theorem vMapL_some (f) (v : List AV) : vMapL f g (some v) = some (f v, g) := rfl
theorem o_build (z : List AV) (ps) : opE c al lo id (.build z ps) e g = vMapL .agg g (fill e z ps) := rfl
theorem o_ld (agg) (x : Opd) : opE c al lo id (.ld agg x) e g = vLd al agg (x.ev e) g := rfl
theorem vLd_ptr (agg cs) : vLd al agg (.ptr cs) g = vMap g (part cs 0 agg) := rfl
theorem o_st (n) (a x : Opd) : opE c al lo id (.st n a x) e g = vSt al n (a.ev e) (x.ev e) g := rfl
theorem o_nilck (x : Opd) : opE c al lo id (.nilck x) e g = vNil (x.ev e) g := rfl
theorem vNil_ptr (cs) : vNil (.ptr cs) g = some (.ptr cs, g) := rfl
theorem vNil_mp (b o) : vNil (.mp b o) g = some (.mp b o, g) := rfl
theorem vNil_fn (f a b) : vNil (.fn f a b) g = some (.fn f a b, g) := rfl
theorem o_bin (op) (x y : Opd) : opE c al lo id (.bin op x y) e g = vMap g (abin op (x.ev e) (y.ev e)) := rfl
theorem o_un (op) (x : Opd) : opE c al lo id (.un op x) e g = vMap g (aun op (x.ev e)) := rfl
theorem o_mkfn (f a b) : opE c al lo id (.mkfn f a b) e g = some (.fn f (a.map (·.ev e)) (b.map (·.ev e)), g) := rfl
theorem o_fa (off) (x : Opd) : opE c al lo id (.fa off x) e g = vFa off (x.ev e) g := rfl
theorem vFa_mp (off b o) : vFa off (.mp b o) g = some (.mp b (o + off), g) := rfl
theorem o_fld (off agg) (x : Opd) : opE c al lo id (.fld off agg x) e g = vFld off agg (x.ev e) g := rfl
theorem vFld_agg (off agg cs) : vFld off agg (.agg cs) g = vMap g (part cs off agg) := rfl
theorem o_ia (esz) (x i : Opd) : opE c al lo id (.ia esz x i) e g = vIa esz (x.ev e) (i.ev e) g := rfl
theorem vIa_sl {esz cs t k} {n : Nat} {z : Int} (h0 : 0 ≤ z) (h : z < n) : vIa esz (.sl cs n t) (.i k z) g = some (.ptr (cs.drop (z.toNat * esz)), g) := if_pos ⟨h0, h⟩
theorem vIa_ms {esz b off k} {n : Nat} {z : Int} (h0 : 0 ≤ z) (h : z < n) : vIa esz (.ms b off n) (.i k z) g = some (.mp b (off + z.toNat * esz), g) := if_pos ⟨h0, h⟩
theorem o_iaa (len esz) (x i : Opd) : opE c al lo id (.iaa len esz x i) e g = vIaa len esz (x.ev e) (i.ev e) g := rfl
theorem vIaa_ptr {esz cs k} {len : Nat} {z : Int} (h0 : 0 ≤ z) (h : z < len) : vIaa len esz (.ptr cs) (.i k z) g = some (.ptr (cs.drop (z.toNat * esz)), g) := if_pos ⟨h0, h⟩
theorem vIaa_mp {esz b off k} {len : Nat} {z : Int} (h0 : 0 ≤ z) (h : z < len) : vIaa len esz (.mp b off) (.i k z) g = some (.mp b (off + z.toNat * esz), g) := if_pos ⟨h0, h⟩
theorem o_len (x : Opd) : opE c al lo id (.len x) e g = vLen (x.ev e) g := rfl
theorem vLen_sl (cs n t) : vLen (.sl cs n t) g = some (.i .i64 n, g) := rfl
theorem vLen_ms (b o n) : vLen (.ms b o n) g = some (.i .i64 n, g) := rfl
theorem o_mx (x y : Opd) : opE c al lo id (.mx x y) e g = vMx (x.ev e) (y.ev e) g := rfl
theorem o_mn (x y : Opd) : opE c al lo id (.mn x y) e g = vMn (x.ev e) (y.ev e) g := rfl
theorem vMx_i (k l a b) : vMx (.i k a) (.i l b) g = some (.i k (if b > a then b else a), g) := rfl
theorem vMn_i (k l a b) : vMn (.i k a) (.i l b) g = some (.i k (if b < a then b else a), g) := rfl
theorem o_ext (i) (x : Opd) : opE c al lo id (.ext i x) e g = vExt i (x.ev e) g := rfl
theorem vExt_tup (i cs) : vExt i (.tup cs) g = vMap g (cs[i]?) := rfl
theorem b_add (k x y) : abin .add (.i k x) (.i k y) = some (.i k (k.wrap (x + y))) := by simp [abin, ibin]
theorem b_sub (k x y) : abin .sub (.i k x) (.i k y) = some (.i k (k.wrap (x - y))) := by simp [abin, ibin]
theorem b_mul (k x y) : abin .mul (.i k x) (.i k y) = some (.i k (k.wrap (x * y))) := by simp [abin, ibin]
theorem b_rem {k x y} (h : y ≠ 0) : abin .rem (.i k x) (.i k y) = some (.i k (x.tmod y)) := by simp [abin, ibin, h]
theorem b_lss (k x y) : abin .lss (.i k x) (.i k y) = some (.b (decide (x < y))) := by simp [abin, ibin]
theorem b_leq (k x y) : abin .leq (.i k x) (.i k y) = some (.b (decide (x ≤ y))) := by simp [abin, ibin]
theorem b_gtr (k x y) : abin .gtr (.i k x) (.i k y) = some (.b (decide (x > y))) := by simp [abin, ibin]
theorem b_geq (k x y) : abin .geq (.i k x) (.i k y) = some (.b (decide (x ≥ y))) := by simp [abin, ibin]
theorem b_eql (k x y) : abin .eql (.i k x) (.i k y) = some (.b (x == y)) := by simp [abin, ibin]
theorem b_neq (k x y) : abin .neq (.i k x) (.i k y) = some (.b (x != y)) := by simp [abin, ibin]
end
def selB (x : Bool) (o : Option Blk) : Option Blk := if x then o else none
theorem selB_true (o) : selB true o = o := rfl
theorem rd_S (g : G) (al : Nat → Bool) (id : Nat) : rd g al id = selB (al id) (g.hp id) := rfl
section
variable {al : Nat → Bool} {g : G}
def ldS (agg : Option Nat) (off : Nat) (g : G) : Option Blk → Option (AV × G)
  | some (.cells cs _) => vMap g (part cs off agg)
  | _ => none
theorem ldS_ok (agg off g cs ro) : ldS agg off g (some (.cells cs ro)) = vMap g (part cs off agg) := rfl
theorem vLd_S (agg b off) : vLd al agg (.mp b off) g = ldS agg off g (selB (al b) (g.hp b)) := rfl
def stD (n b off len m : Nat) (ones : Bool) (cs vs : List AV) (g : G) : Option (AV × G) :=
  if len = n ∧ off + n ≤ m ∧ ones = true then some (.undef, ⟨upd g.hp b (some (.cells (splice cs off vs) false)), g.nx⟩) else none
theorem stD_ok {n b off len m : Nat} {cs vs g} (h : len = n ∧ off + n ≤ m) : stD n b off len m true cs vs g = some (.undef, ⟨upd g.hp b (some (.cells (splice cs off vs) false)), g.nx⟩) := if_pos ⟨h.1, h.2, rfl⟩
def stS (n b off : Nat) (vs : List AV) (g : G) : Option Blk → Option (AV × G)
  | some (.cells cs false) => stD n b off vs.length cs.length (vs.all one) cs vs g
  | _ => none
theorem stS_ok (n b off vs g cs) : stS n b off vs g (some (.cells cs false)) = stD n b off vs.length cs.length (vs.all one) cs vs g := rfl
theorem vSt_S (n b off x) : vSt al n (.mp b off) x g = stS n b off (cellsOf x) g (selB (al b) (g.hp b)) := by
  simp only [vSt]
  rw [rd_S]
  cases selB (al b) (g.hp b) with
  | none => rfl
  | some bl =>
    cases bl with
    | cells cs ro => cases ro <;> rfl
    | map es => rfl
    | tok l => rfl
def boxD (id : Nat) (cs : List AV) (g : G) (x : Bool) : Option (AV × G) := if x then some (.mp id 0, ⟨upd g.hp id (some (.cells cs false)), g.nx⟩) else none
theorem boxD_ok (id cs g) : boxD id cs g true = some (.mp id 0, ⟨upd g.hp id (some (.cells cs false)), g.nx⟩) := rfl
theorem vBox_S (id v) : vBox id v g = boxD id (cellsOf v) g ((cellsOf v).all one) := rfl
def faD (off len : Nat) (cs : List AV) (g : G) : Option (AV × G) := if off < len then some (.ptr (cs.drop off), g) else none
theorem faD_ok {off len : Nat} {cs g} (h : off < len) : faD off len cs g = some (.ptr (cs.drop off), g) := if_pos h
theorem vFa_S (off cs) : vFa off (.ptr cs) g = faD off cs.length cs g := rfl
def fillD (e : Env) (cs : List AV) (off n len m : Nat) (ones : Bool) (vs : List AV) (ps : List (Nat × Nat × Opd)) : Option (List AV) :=
  if len = n ∧ off + n ≤ m ∧ ones = true then fill e (splice cs off vs) ps else none
theorem fillD_ok {e cs off n len m vs ps} (h : len = n ∧ off + n ≤ m) : fillD e cs off n len m true vs ps = fill e (splice cs off vs) ps := if_pos ⟨h.1, h.2, rfl⟩
theorem fill_S (e : Env) (cs : List AV) (off n x ps) : fill e cs ((off, n, x) :: ps) = fillD e cs off n (cellsOf (x.ev e)).length cs.length ((cellsOf (x.ev e)).all one) (cellsOf (x.ev e)) ps := by
  simp only [fill, fillD]
theorem fill_nil (e cs) : fill e cs [] = some cs := rfl
theorem cellsOf_agg (cs) : cellsOf (.agg cs) = cs := rfl
theorem cellsOf_i (k n) : cellsOf (.i k n) = [.i k n] := rfl
theorem cellsOf_b (x) : cellsOf (.b x) = [.b x] := rfl
theorem cellsOf_s (x) : cellsOf (.s x) = [.s x] := rfl
theorem cellsOf_ptr (x) : cellsOf (.ptr x) = [.ptr x] := rfl
theorem cellsOf_nilp : cellsOf .nilp = [.nilp] := rfl
theorem cellsOf_sl (a b c) : cellsOf (.sl a b c) = [.sl a b c] := rfl
theorem cellsOf_mp (a b) : cellsOf (.mp a b) = [.mp a b] := rfl
theorem cellsOf_fn (a b c) : cellsOf (.fn a b c) = [.fn a b c] := rfl
theorem one_i (k n) : one (.i k n) = true := rfl
theorem one_b (x) : one (.b x) = true := rfl
theorem one_s (x) : one (.s x) = true := rfl
theorem one_ptr (x) : one (.ptr x) = true := rfl
theorem one_nilp : one .nilp = true := rfl
theorem one_sl (a b c) : one (.sl a b c) = true := rfl
theorem one_mp (a b) : one (.mp a b) = true := rfl
theorem one_fn (a b c) : one (.fn a b c) = true := rfl
theorem splice_1 (cs off v) : splice cs off [v] = cs.set off v := rfl
theorem splice_2 (a b x y) : splice [a, b] 0 [x, y] = [x, y] := rfl
theorem splice_3 (a b c x y z) : splice [a, b, c] 0 [x, y, z] = [x, y, z] := rfl
theorem part_0 (c cs) : part (c :: cs) 0 none = some c := rfl
theorem part_1 (c d cs) : part (c :: d :: cs) 1 none = some d := rfl
theorem part_2 (a c d cs) : part (a :: c :: d :: cs) 2 none = some d := rfl
def andLe (lo : Nat) (al : Nat → Bool) (i : Nat) : Bool := decide (lo ≤ i) && al i
theorem o_stL {c : CS} {al : Nat → Bool} {lo id : Nat} {e : Env} {g : G} (n a x) : opE c al lo id (.stL n a x) e g = vSt (andLe lo al) n (a.ev e) (x.ev e) g := rfl
theorem andLe_ok {lo : Nat} {al : Nat → Bool} {i : Nat} (h : lo ≤ i) : andLe lo al i = al i := by simp [andLe, h]
theorem allow_hd {base k id : Nat} (l : List Nat) (h : id = base + k) : allow true base (k :: l) id = true := by subst h; simp [allow]
theorem allow_h2 {base k k' id : Nat} (l : List Nat) (h : id = base + k) : allow true base (k' :: k :: l) id = true := by subst h; simp [allow]
theorem part_3 (a b c d : AV) (l : List AV) : part (a :: b :: c :: d :: l) 3 none = some d := rfl
theorem part_4 (a b c d e : AV) (l : List AV) : part (a :: b :: c :: d :: e :: l) 4 none = some e := rfl
theorem part_5 (a b c d e f : AV) (l : List AV) : part (a :: b :: c :: d :: e :: f :: l) 5 none = some f := rfl
theorem cellsOf_ms (a b c) : cellsOf (.ms a b c) = [.ms a b c] := rfl
theorem one_ms (a b c) : one (.ms a b c) = true := rfl
theorem drop_0 (l : List AV) : l.drop 0 = l := rfl
theorem g0_nx : g0.nx = 0 := rfl
theorem g0_hp : g0.hp = fun _ => none := rfl
theorem o_bsl {c : CS} {al : Nat → Bool} {lo id : Nat} {e : Env} {g : G} (imm n z ps) : opE c al lo id (.bsl imm n z ps) e g = vBsl id imm n (fill e z ps) g := rfl
theorem vBsl_t (id n cs) (g : G) : vBsl id true n (some cs) g = vMapL (fun cs => .sl cs n .rig) g (frzL (fun _ => none) depth cs) := rfl
theorem vBsl_f (id n cs) (g : G) : vBsl id false n (some cs) g = some (.ms id 0 n, ⟨upd g.hp id (some (.cells cs false)), g.nx⟩) := rfl
theorem o_app {c : CS} {al : Nat → Bool} {lo id : Nat} {e : Env} {g : G} (esz by' x y) : opE c al lo id (.app esz by' x y) e g = vApp al id esz by' (x.ev e) (y.ev e) g := rfl
def appD (n m esz bytes lc ld : Nat) (r : Option (AV × G)) : Option (AV × G) := if (n + m) * bytes ≤ 2 ^ 46 ∧ n + m ≤ 2 ^ 62 ∧ lc = n * esz ∧ ld = m * esz then r else none
theorem appD_ok {n m esz bytes lc ld r} (h : (n + m) * bytes ≤ 2 ^ 46 ∧ n + m ≤ 2 ^ 62 ∧ lc = n * esz ∧ ld = m * esz) : appD n m esz bytes lc ld r = r := if_pos h
theorem vApp_rig {id esz bytes cs n ds m t2} (h : m ≠ 0) : vApp al id esz bytes (.sl cs n .rig) (.sl ds m t2) g = appD n m esz bytes cs.length ds.length (some (.sl (cs ++ ds) (n + m) (.own id esz), ⟨upd g.hp id (some (.tok true)), g.nx⟩)) := by
  simp only [vApp, vSrc, if_neg h]; rfl
theorem vApp_rig0 {id esz bytes cs n ds t2} : vApp al id esz bytes (.sl cs n .rig) (.sl ds 0 t2) g = appD n 0 esz bytes cs.length ds.length (some (.sl cs n .rig, g)) := by
  simp only [vApp, vSrc, if_true]; rfl
def appK (id esz tk n : Nat) (cs : List AV) (g : G) : Option Blk → Option (AV × G)
  | some (.tok true) => some (.sl cs n (.own id esz), ⟨upd (upd g.hp tk (some (.tok false))) id (some (.tok true)), g.nx⟩)
  | _ => none
theorem appK_ok (id esz tk n cs g) : appK id esz tk n cs g (some (.tok true)) = some (.sl cs n (.own id esz), ⟨upd (upd g.hp tk (some (.tok false))) id (some (.tok true)), g.nx⟩) := rfl
theorem vApp_own {id esz bytes cs n tk ds m t2} : vApp al id esz bytes (.sl cs n (.own tk esz)) (.sl ds m t2) g = appD n m esz bytes cs.length ds.length (appK id esz tk (n + m) (cs ++ ds) g (selB (al tk) (g.hp tk))) := by
  simp only [vApp, vSrc, rd_S]
  unfold appD appK
  split
  · cases selB (al tk) (g.hp tk) with
    | none => rfl
    | some b =>
      cases b with
      | tok x => cases x <;> simp
      | cells _ _ => rfl
      | map _ => rfl
  · rfl
theorem o_eqn {c : CS} {al : Nat → Bool} {lo id : Nat} {e : Env} {g : G} (neg x y) : opE c al lo id (.eqn neg x y) e g = vMap g (negb neg (aeqn (x.ev e) (y.ev e))) := rfl
theorem o_eqb {c : CS} {al : Nat → Bool} {lo id : Nat} {e : Env} {g : G} (neg x y) : opE c al lo id (.eqb neg x y) e g = vMap g (negb neg (aeqb (x.ev e) (y.ev e))) := rfl
theorem o_eqa {c : CS} {al : Nat → Bool} {lo id : Nat} {e : Env} {g : G} (neg ks x y) : opE c al lo id (.eqa neg ks x y) e g = vMap g (negb neg (aeqa ks (x.ev e) (y.ev e))) := rfl
theorem aeqn_pn (cs) : aeqn (.ptr cs) .nilp = some false := rfl
theorem aeqn_np (cs) : aeqn .nilp (.ptr cs) = some false := rfl
theorem aeqn_mn (a b) : aeqn (.mp a b) .nilp = some false := rfl
theorem aeqn_nn : aeqn .nilp .nilp = some true := rfl
theorem aeqb_bb (x y) : aeqb (.b x) (.b y) = some (x == y) := rfl
theorem negb_t (x) : negb true (some x) = some (.b (!x)) := rfl
theorem negb_f (x) : negb false (some x) = some (.b x) := rfl
theorem aun_not (x) : aun .not (.b x) = some (.b !x) := rfl
end
end Go.Ab
end
