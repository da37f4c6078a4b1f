/- What ImmAny rests on, part 2: lemmas, no claim of its own. -/
import Derived.LoopN
import Derived.Scope
import Derived.Test.YtkiecemdbkjccaaGreatPImmAny1
section
set_option linter.unusedVariables false
set_option linter.unusedSimpArgs false
namespace Go.Ab
open Go.RowKit
def gnames : Option (Nat × Bool) → List Nat
  | none => []
  | some (t, _) => [t]
def AOper.looks (o : AOper) : List Nat := gnames o.grd ++ o.op.names
def dnot (d : Option Nat) (l : List Nat) : Bool := match d with
  | none => true
  | some d => !l.contains d
def ddif (d d' : Option Nat) : Bool := match d, d' with
  | some a, some b => a != b
  | _, _ => true
def clsOk (k i : Nat) (x y : AOper) : Bool :=
  cls x.op == .p || cls y.op == .p || (cls x.op != .x && cls y.op != .x &&
   (!y.pre.contains k && !x.pre.contains i && (!(cls x.op == .s || cls y.op == .s) || x.pre.all (fun p => !y.pre.contains p)) && !(cls x.op == .t && cls y.op == .t)))
def swapB (k i : Nat) (x y : AOper) : Bool :=
  dnot x.dst y.looks && dnot y.dst x.looks && ddif x.dst y.dst && clsOk k i x y
theorem put_not {d : Option Nat} {l : List Nat} (h : dnot d l = true) (e : Env) (v : AV) : ∀ t ∈ l, put e d v t = e t := by
  intro t ht
  cases d with
  | none => rfl
  | some d =>
    simp only [dnot, Bool.not_eq_true', List.contains_eq_mem, decide_eq_false_iff_not] at h
    have : t ≠ d := fun h' => h (h' ▸ ht)
    simp only [put, upd, if_neg this]
theorem put_comm {d d' : Option Nat} (h : ddif d d' = true) (e : Env) (v u : AV) : put (put e d v) d' u = put (put e d' u) d v := by
  cases d with
  | none => cases d' <;> rfl
  | some d =>
    cases d' with
    | none => rfl
    | some d' =>
      simp only [ddif, bne_iff_ne, ne_eq] at h
      funext t
      simp only [put, upd]
      by_cases h1 : t = d'
      · subst h1; rw [if_pos rfl, if_neg (fun h2 => h h2.symm), if_pos rfl]
      · rw [if_neg h1]
        by_cases h2 : t = d
        · rw [if_pos h2, if_pos h2]
        · rw [if_neg h2, if_neg h2, if_neg h1]
theorem wanted_congr {e e' : Env} {grd : Option (Nat × Bool)} (h : ∀ t ∈ gnames grd, e' t = e t) : wanted e' grd = wanted e grd := by
  cases grd with
  | none => rfl
  | some p => obtain ⟨t, w⟩ := p; simp only [wanted]; rw [h t (by simp [gnames])]
def stepV (call : CS) (base j : Nat) (o : AOper) (e : Env) (g : G) : Option (AV × G) :=
  if wanted e o.grd then opE call (allow true base o.pre) base (base + j) o.op e g else some (.undef, g)
theorem opStep_V (call : CS) (base j : Nat) (o : AOper) (e : Env) (g : G) : opStep call true base j o e g = (stepV call base j o e g).map fun r => (put e o.dst r.1, r.2) := by
  unfold opStep stepV
  by_cases h : wanted e o.grd = true
  · rw [if_pos h, if_pos h]
    cases opE call (allow true base o.pre) base (base + j) o.op e g with
    | none => rfl
    | some r => rfl
  · rw [if_neg h, if_neg h]; rfl
theorem stepV_congr {call : CS} {base j : Nat} {o : AOper} {e e' : Env} (h : ∀ t ∈ o.looks, e' t = e t) (g : G) : stepV call base j o e' g = stepV call base j o e g := by
  unfold stepV
  rw [wanted_congr fun t ht => h t (List.mem_append_left _ ht), opE_congr fun t ht => h t (List.mem_append_right _ ht)]
theorem allow_slot {base k : Nat} {pre : List Nat} (h : allow true base pre (base + k) = true) : pre.contains k = true := by
  simp only [allow, Bool.not_true, Bool.false_or, Bool.or_eq_true, decide_eq_true_eq] at h
  rcases h with h | h
  · omega
  · simpa using h
theorem allow_ge {base k : Nat} {pre : List Nat} (h : allow true base pre k = true) (hk : base ≤ k) : pre.contains (k - base) = true := by
  simp only [allow, Bool.not_true, Bool.false_or, Bool.or_eq_true, decide_eq_true_eq] at h
  rcases h with h | h
  · omega
  · exact h
theorem Foot.out {call : CS} {al : Nat → Bool} {lo id : Nat} {op : AOp} {e : Env} {g : G} {v : AV} {g1 : G} (F : Foot call al lo id op e g v g1) {i : Nat} (h : ¬ Wr (cls op) al lo id g i) : g1.hp i = g.hp i := by
  obtain ⟨_, _, W, h1, h2, _⟩ := F
  exact h2 i fun hw => h (h1 i hw)
open Classical in
theorem opE_swap {call : CS} {base k i : Nat} (hki : k ≠ i) {x y : AOper} (hc : clsOk k i x y = true) {e : Env} {g g1 g2 : G} {v u : AV}
    (h1 : opE call (allow true base x.pre) base (base + k) x.op e g = some (v, g1)) (h2 : opE call (allow true base y.pre) base (base + i) y.op e g1 = some (u, g2)) :
    ∃ g1', opE call (allow true base y.pre) base (base + i) y.op e g = some (u, g1') ∧ opE call (allow true base x.pre) base (base + k) x.op e g1' = some (v, g2) := by
  by_cases hx : cls x.op = .p
  · obtain ⟨rfl, hh⟩ := any_p hx _ _ _ h1
    exact ⟨g2, h2, hh g2⟩
  by_cases hy : cls y.op = .p
  · obtain ⟨rfl, hh⟩ := any_p hy _ _ _ h2
    exact ⟨g, hh g, h1⟩
  simp only [clsOk, Bool.or_eq_true, beq_iff_eq, hx, hy, false_or, Bool.and_eq_true, bne_iff_ne, ne_eq, Bool.not_eq_true'] at hc
  obtain ⟨⟨cx, cy⟩, ⟨⟨pk, pi⟩, ps⟩, ptt⟩ := hc
  have ak : allow true base y.pre (base + k) ≠ true := fun h => by rw [allow_slot h] at pk; cases pk
  have ai : allow true base x.pre (base + i) ≠ true := fun h => by rw [allow_slot h] at pi; cases pi
  have pp : (cls x.op = .s ∨ cls y.op = .s) → ∀ m, base ≤ m → allow true base x.pre m = true → allow true base y.pre m = true → False := by
    intro hs m hm h3 h4
    rcases ps with ps | ps
    · simp only [Bool.or_eq_false_iff, beq_eq_false_iff_ne, ne_eq] at ps
      rcases hs with hs | hs
      · exact ps.1 hs
      · exact ps.2 hs
    · have h3 := allow_ge h3 hm
      have h4 := allow_ge h4 hm
      have := List.all_eq_true.1 ps (m - base) (by simpa using h3)
      rw [h4] at this; cases this
  have tt : ¬ (cls x.op = .t ∧ cls y.op = .t) := by simpa [Bool.and_eq_false_iff] using ptt
  have F := foot_all cx h1
  have F' := foot_all cy h2
  have out1 : ∀ m, ¬ Wr (cls x.op) (allow true base x.pre) base (base + k) g m → g1.hp m = g.hp m := fun m hm => F.out hm
  -- what y looks at, x has not turned
  have A : ∀ m, Rd (cls y.op) (allow true base y.pre) base g1 m → ¬ Wr (cls x.op) (allow true base x.pre) base (base + k) g m := by
    intro m hr hw
    have hal : allow true base y.pre m = true := by
      cases hcy : cls y.op <;> rw [hcy] at hr <;> simp only [Rd] at hr
      · exact hr.1
      · exact hr.1
      · exact hr.1
      · exact hr.2.1
      · exact absurd hcy cy
    have hne : m ≠ base + k := fun h => ak (h ▸ hal)
    cases hcx : cls x.op with
    | p => exact hx hcx
    | r => rw [hcx] at hw; exact hw
    | a => rw [hcx] at hw; exact hne hw
    | t =>
      rw [hcx] at hw
      rcases hw with hw | hw
      · exact hne hw
      · have hcm : CM (g1.hp m) := by
          cases hcy : cls y.op <;> rw [hcy] at hr <;> simp only [Rd] at hr
          · exact hr.2
          · exact hr.2
          · exact absurd ⟨hcx, hcy⟩ tt
          · exact hr.2.2
          · exact absurd hcy cy
        have := F.kind m hne hcm
        have h3 := hw.2
        cases hh : g.hp m with
        | none => rw [hh] at h3; exact h3
        | some b => rw [hh] at h3 this; cases b <;> first | exact h3 | exact this
    | s =>
      rw [hcx] at hw
      exact pp (.inl hcx) m hw.1 hw.2.1 hal
    | x => exact cx hcx
  have B : ∀ m, Wr (cls y.op) (allow true base y.pre) base (base + i) g1 m → ¬ Wr (cls x.op) (allow true base x.pre) base (base + k) g m := by
    intro m hr hw
    have hor : m = base + i ∨ Rd (cls y.op) (allow true base y.pre) base g1 m := by
      cases hcy : cls y.op <;> rw [hcy] at hr <;> simp only [Wr] at hr
      · exact .inl hr
      · rcases hr with hr | hr
        · exact .inl hr
        · exact .inr ⟨hr.1, .inr hr.2⟩
      · exact .inr hr
      · exact absurd hcy cy
    rcases hor with rfl | hr
    · cases hcx : cls x.op with
      | p => exact hx hcx
      | r => rw [hcx] at hw; exact hw
      | a => rw [hcx] at hw; simp only [Wr] at hw; omega
      | t =>
        rw [hcx] at hw
        rcases hw with hw | hw
        · omega
        · exact ai hw.1
      | s => rw [hcx] at hw; exact ai hw.2.1
      | x => exact cx hcx
    · exact A m hr hw
  have C : ∀ m, Rd (cls x.op) (allow true base x.pre) base g m → ¬ Wr (cls y.op) (allow true base y.pre) base (base + i) g1 m := by
    intro m hr hw
    have hal : allow true base x.pre m = true := by
      cases hcx : cls x.op <;> rw [hcx] at hr <;> simp only [Rd] at hr
      · exact hr.1
      · exact hr.1
      · exact hr.1
      · exact hr.2.1
      · exact absurd hcx cx
    have hne : m ≠ base + i := fun h => ai (h ▸ hal)
    have hold : g1.hp m = g.hp m := out1 m (B m hw)
    cases hcy : cls y.op with
    | p => exact hy hcy
    | r => rw [hcy] at hw; exact hw
    | a => rw [hcy] at hw; exact hne hw
    | t =>
      rw [hcy] at hw
      rcases hw with hw | hw
      · exact hne hw
      · have h3 := hw.2
        rw [hold] at h3
        have hcm : CM (g.hp m) := by
          cases hcx : cls x.op <;> rw [hcx] at hr <;> simp only [Rd] at hr
          · exact hr.2
          · exact hr.2
          · exact absurd ⟨hcx, hcy⟩ tt
          · exact hr.2.2
          · exact absurd hcx cx
        cases hh : g.hp m with
        | none => rw [hh] at h3; exact h3
        | some b => rw [hh] at h3 hcm; cases b <;> first | exact h3 | exact hcm
    | s =>
      rw [hcy] at hw
      exact pp (.inr hcy) m hw.1 hal hw.2.1
    | x => exact cy hcy
  obtain ⟨n1, _, W, w1, w2, w3⟩ := F
  obtain ⟨n2, _, W', w1', w2', w3'⟩ := F'
  have hAg : ∀ m, Rd (cls y.op) (allow true base y.pre) base g1 m → g.hp m = g1.hp m := fun m hm => (out1 m (A m hm)).symm
  refine ⟨_, w3' g hAg, ?_⟩
  rw [w3 _ (fun m hm => ?_)]
  · congr 2
    have : g2 = ⟨g2.hp, g2.nx⟩ := rfl
    rw [this]
    congr 1
    · funext m
      show (if W m then g1.hp m else if W' m then g2.hp m else g.hp m) = g2.hp m
      by_cases hm : W m
      · rw [if_pos hm]
        exact (w2' m (fun h' => B m (w1' m h') (w1 m hm))).symm
      · rw [if_neg hm]
        by_cases hm' : W' m
        · rw [if_pos hm']
        · rw [if_neg hm', w2' m hm', w2 m hm]
    · show g.nx = g2.nx
      rw [n2, n1]
  · show (if W' m then g2.hp m else g.hp m) = g.hp m
    rw [if_neg (fun h' => C m hm (w1' m h'))]
theorem stepV_swap {call : CS} {base k i : Nat} (hki : k ≠ i) {x y : AOper} (hc : clsOk k i x y = true) {e : Env} {g g1 g2 : G} {v u : AV}
    (h1 : stepV call base k x e g = some (v, g1)) (h2 : stepV call base i y e g1 = some (u, g2)) : ∃ g1', stepV call base i y e g = some (u, g1') ∧ stepV call base k x e g1' = some (v, g2) := by
  unfold stepV at *
  by_cases hx : wanted e x.grd = true
  · rw [if_pos hx] at h1
    by_cases hy : wanted e y.grd = true
    · rw [if_pos hy] at h2
      obtain ⟨g1', h3, h4⟩ := opE_swap hki hc h1 h2
      exact ⟨g1', by rw [if_pos hy]; exact h3, by rw [if_pos hx]; exact h4⟩
    · rw [if_neg hy] at h2
      cases h2
      exact ⟨g, by rw [if_neg hy], by rw [if_pos hx]; exact h1⟩
  · rw [if_neg hx] at h1
    cases h1
    exact ⟨g2, h2, by rw [if_neg hx]⟩
theorem opStep_swap {call : CS} {base k i : Nat} (hki : k ≠ i) {x y : AOper} (hc : swapB k i x y = true) {e e1 e2 : Env} {g g1 g2 : G}
    (h1 : opStep call true base k x e g = some (e1, g1)) (h2 : opStep call true base i y e1 g1 = some (e2, g2)) :
    ∃ e1' g1', opStep call true base i y e g = some (e1', g1') ∧ opStep call true base k x e1' g1' = some (e2, g2) := by
  simp only [swapB, Bool.and_eq_true] at hc
  obtain ⟨⟨⟨d1, d2⟩, d3⟩, d4⟩ := hc
  rw [opStep_V] at h1 h2
  cases hv : stepV call base k x e g with
  | none => rw [hv] at h1; cases h1
  | some r =>
    obtain ⟨v, g1⟩ := r
    rw [hv] at h1
    cases h1
    rw [stepV_congr (put_not d1 e v)] at h2
    cases hu : stepV call base i y e g1 with
    | none => rw [hu] at h2; cases h2
    | some r =>
      obtain ⟨u, g2⟩ := r
      rw [hu] at h2
      cases h2
      obtain ⟨g1', h3, h4⟩ := stepV_swap hki d4 hv hu
      refine ⟨put e y.dst u, g1', by rw [opStep_V, h3]; rfl, ?_⟩
      rw [opStep_V, stepV_congr (put_not d2 e u), h4]
      show some _ = some _
      rw [put_comm d3]
def runL (call : CS) (base : Nat) (aos : List AOper) : List Nat → Env → G → Option (Env × G)
  | [], e, g => some (e, g)
  | i :: is, e, g => match aos[i]? with
    | some o => match opStep call true base i o e g with
      | some (e', g') => runL call base aos is e' g'
      | none => none
    | none => none
theorem runL_text (call : CS) (base : Nat) (aos : List AOper) : ∀ (os : List AOper) (j : Nat) (e : Env) (g : G), (∀ i o, os[i]? = some o → aos[j + i]? = some o) → runL call base aos (List.range' j os.length) e g = regE call true base j os e g
  | [], j, e, g, _ => rfl
  | o :: os, j, e, g, h => by
    rw [regE_step, List.length_cons, List.range'_succ]
    have h0 : aos[j]? = some o := by simpa using h 0 o rfl
    simp only [runL, h0]
    cases opStep call true base j o e g with
    | none => rfl
    | some r =>
      obtain ⟨e', g'⟩ := r
      exact runL_text call base aos os (j + 1) e' g' (fun i o' hi => by have := h (i + 1) o' (by simpa using hi); rwa [show j + (i + 1) = j + 1 + i by omega] at this)
theorem runL_front {call : CS} {base : Nat} {aos : List AOper} {i : Nat} {y : AOper} (hy : aos[i]? = some y) : ∀ (pre post : List Nat) (e e' : Env) (g g' : G), (∀ k ∈ pre, k ≠ i ∧ ∀ x, aos[k]? = some x → swapB k i x y = true) →
    runL call base aos (pre ++ i :: post) e g = some (e', g') → runL call base aos (i :: (pre ++ post)) e g = some (e', g')
  | [], post, e, e', g, g', _, h => h
  | k :: pre, post, e, e', g, g', hp, h => by
    rw [List.cons_append] at h
    simp only [runL] at h
    split at h
    · rename_i x hx
      split at h
      · rename_i e1 g1 hst
        have := runL_front hy pre post e1 e' g1 g' (fun m hm => hp m (List.mem_cons_of_mem _ hm)) h
        simp only [runL, hy] at this
        split at this
        · rename_i e2 g2 hst2
          obtain ⟨hne, hsw⟩ := hp k (List.mem_cons_self ..)
          obtain ⟨e1', g1', h3, h4⟩ := opStep_swap hne (hsw x hx) hst hst2
          simp only [runL, hy, h3, List.cons_append, hx, h4]
          exact this
        · cases this
      · cases h
    · cases h
def cloAt (es : Array Edge) (clo : List Nat) : Nat :=
  es.foldl (fun b e => if Region.binds .any e then b ||| (1 <<< e.on) ||| (clo.getD e.on 0) else b) 0
def clos : List Oper → List Nat → List Nat
  | [], clo => clo
  | o :: os, clo => clos os (clo ++ [cloAt o.after clo])
def edgesB : Nat → List Oper → Bool
  | _, [] => true
  | j, o :: os => o.after.all (fun e => !Region.binds .any e || decide (e.on < j)) && edgesB (j + 1) os
def pairsB (clo : Nat) (i : Nat) (y : AOper) : Nat → List AOper → Bool
  | _, [] => true
  | k, x :: xs => (clo.testBit k || swapB k i x y) && pairsB clo i y (k + 1) xs
def drawB (aos : List AOper) : Nat → List AOper → List Nat → Bool
  | _, [], _ => true
  | i, y :: ys, clo :: cs => pairsB clo i y 0 (aos.take i) && drawB aos (i + 1) ys cs
  | _, _ :: _, [] => false
end Go.Ab
end
section
set_option linter.unusedVariables false
set_option linter.unusedSimpArgs false
set_option linter.unnecessarySimpa false
namespace Go.Ab
open Go.RowKit
theorem testBit_fold (es : List Edge) (clo : List Nat) (k : Nat) : ∀ b : Nat, (es.foldl (fun b e => if Region.binds .any e then b ||| (1 <<< e.on) ||| (clo.getD e.on 0) else b) b).testBit k = true →
    b.testBit k = true ∨ ∃ e ∈ es, Region.binds .any e = true ∧ (k = e.on ∨ (clo.getD e.on 0).testBit k = true) := by
  induction es with
  | nil => intro b h; exact .inl h
  | cons e es ih =>
    intro b h
    rw [List.foldl_cons] at h
    rcases ih _ h with h1 | ⟨e', he', h2⟩
    · by_cases hb : Region.binds .any e = true
      · rw [if_pos hb] at h1
        simp only [Nat.testBit_or, Bool.or_eq_true] at h1
        rcases h1 with (h1 | h1) | h1
        · exact .inl h1
        · refine .inr ⟨e, List.mem_cons_self .., hb, .inl ?_⟩
          rw [Nat.testBit_shiftLeft] at h1
          simp only [Bool.and_eq_true, decide_eq_true_eq] at h1
          have h2 : Nat.testBit 1 (k - e.on) = true := h1.2
          have h3 : k - e.on = 0 := by
            cases hz : k - e.on with
            | zero => rfl
            | succ z => rw [hz] at h2; simp [Nat.testBit_succ] at h2
          omega
        · exact .inr ⟨e, List.mem_cons_self .., hb, .inr h1⟩
      · rw [if_neg hb] at h1
        exact .inl h1
    · exact .inr ⟨e', List.mem_cons_of_mem _ he', h2⟩
def cloB (clo : List Nat) : List Oper → List Nat → Bool
  | [], [] => true
  | o :: os, c :: cs => (cloAt o.after clo == c) && cloB clo os cs
  | _, _ => false
theorem cloB_get {clo : List Nat} : ∀ {os : List Oper} {cs : List Nat}, cloB clo os cs = true → os.length = cs.length ∧ ∀ (i : Nat) o, os[i]? = some o → cs[i]? = some (cloAt o.after clo)
  | [], [], _ => ⟨rfl, fun _ _ h => by simp at h⟩
  | [], _ :: _, h => by simp [cloB] at h
  | _ :: _, [], h => by simp [cloB] at h
  | o :: os, c :: cs, h => by
    simp only [cloB, Bool.and_eq_true, beq_iff_eq] at h
    obtain ⟨h1, h2⟩ := cloB_get h.2
    refine ⟨by simp [h1], fun i o' hi => ?_⟩
    cases i with
    | zero => simp at hi; subst hi; simp [h.1]
    | succ i => simp at hi ⊢; exact h2 i o' hi
theorem edgesB_get : ∀ {os : List Oper} {j : Nat}, edgesB j os = true → ∀ (i : Nat) o, os[i]? = some o → ∀ e ∈ o.after, Region.binds .any e = true → e.on < j + i
  | [], _, _, _, _, h => by simp at h
  | o :: os, j, h, i, o', hi => by
    simp only [edgesB, Bool.and_eq_true] at h
    cases i with
    | zero =>
      simp at hi; subst hi
      intro e he hb
      have := Array.all_eq_true_iff_forall_mem.1 h.1 e he
      rw [hb] at this
      simpa using this
    | succ i =>
      simp at hi
      intro e he hb
      have := edgesB_get h.2 i o' hi e he hb
      omega
def Closed (ops : List Oper) (L : Nat → Bool) : Prop := ∀ (i : Nat) o, ops[i]? = some o → L i = true → ∀ e ∈ o.after, Region.binds .any e = true → L e.on = true
theorem clo_sound {ops : List Oper} {clo : List Nat} (hc : cloB clo ops clo = true) (he : edgesB 0 ops = true) {L : Nat → Bool} (hL : Closed ops L) : ∀ (i : Nat) (o : Oper), ops[i]? = some o → (∀ e ∈ o.after, Region.binds .any e = true → L e.on = true) → ∀ k, (clo.getD i 0).testBit k = true → L k = true := by
  intro i
  induction i using Nat.strongRecOn with
  | _ i ih =>
    intro o ho hp k hk
    obtain ⟨hl, hg⟩ := cloB_get hc
    have h1 : clo.getD i 0 = cloAt o.after clo := by rw [List.getD_eq_getElem?_getD, hg i o ho]; rfl
    rw [h1] at hk
    unfold cloAt at hk
    rw [← Array.foldl_toList] at hk
    rcases testBit_fold _ _ _ _ hk with h2 | ⟨e, hm, hb, h2⟩
    · simp at h2
    · have hm' : e ∈ o.after := Array.mem_toList_iff.1 hm
      rcases h2 with rfl | h2
      · exact hp e hm' hb
      · have hlt := edgesB_get he i o ho e hm' hb
        cases ho' : ops[e.on]? with
        | none =>
          rw [List.getElem?_eq_none_iff] at ho'
          rw [List.getD_eq_getElem?_getD, List.getElem?_eq_none (by omega)] at h2
          simp at h2
        | some o' => exact ih e.on (by omega) o' ho' (fun e' he' hb' => hL e.on o' ho' (hp e hm' hb) e' he' hb') k h2
theorem pairsB_get {clo i : Nat} {y : AOper} : ∀ {xs : List AOper} {j : Nat}, pairsB clo i y j xs = true → ∀ (k : Nat) x, xs[k]? = some x → clo.testBit (j + k) = true ∨ swapB (j + k) i x y = true
  | [], _, _, _, _, h => by simp at h
  | x :: xs, j, h, k, x', hk => by
    simp only [pairsB, Bool.and_eq_true, Bool.or_eq_true] at h
    cases k with
    | zero => simp at hk; subst hk; exact h.1
    | succ k =>
      simp at hk
      have := pairsB_get h.2 k x' hk
      rwa [show j + 1 + k = j + (k + 1) by omega] at this
theorem drawB_get {aos : List AOper} : ∀ {ys : List AOper} {cs : List Nat} {j : Nat}, drawB aos j ys cs = true → ∀ (i : Nat) y, ys[i]? = some y → pairsB (cs.getD i 0) (j + i) y 0 (aos.take (j + i)) = true
  | [], _, _, _, _, _, h => by simp at h
  | y :: ys, [], _, h, _, _, _ => by simp [drawB] at h
  | y :: ys, c :: cs, j, h, i, y', hi => by
    simp only [drawB, Bool.and_eq_true] at h
    cases i with
    | zero => simp at hi; subst hi; simpa using h.1
    | succ i =>
      simp at hi
      have := drawB_get h.2 i y' hi
      rw [show j + 1 + i = j + (i + 1) by omega] at this
      simpa using this
theorem opersB_get {P : Program} {nm : Nat → Nat} {N : Nat} {ops : Array Oper} : ∀ {os : List Oper} {aos : List AOper}, opersB P nm N ops os aos = true → os.length = aos.length ∧ ∀ (i : Nat) o, os[i]? = some o → ∃ ao, aos[i]? = some ao ∧ operB P nm N ops o ao = true
  | [], [], _ => ⟨rfl, fun _ _ h => by simp at h⟩
  | [], _ :: _, h => by simp [opersB] at h
  | _ :: _, [], h => by simp [opersB] at h
  | o :: os, ao :: aos, h => by
    simp only [opersB, Bool.and_eq_true] at h
    obtain ⟨h1, h2⟩ := opersB_get h.2
    refine ⟨by simp [h1], fun i o' hi => ?_⟩
    cases i with
    | zero => simp at hi; subst hi; exact ⟨ao, rfl, h.1⟩
    | succ i => simp at hi ⊢; exact h2 i o' hi
def regB (P : Program) (nm : Nat → Nat) (N : Nat) (ops : Array Oper) (draw : Bool) (aos : List AOper) : Bool :=
  opersB P nm N ops ops.toList aos && (!draw || (edgesB 0 ops.toList && (let clo := clos ops.toList []; cloB clo ops.toList clo && drawB aos 0 aos clo)))
def pend (ops : Array Oper) (listed : Array Bool) : List Nat := (List.range ops.size).filter fun i => !listed.getD i true
theorem ready_some {ops : Array Oper} {listed : Array Bool} (he : edgesB 0 ops.toList = true) (hs : listed.size = ops.size) : ∀ i, i < ops.size → listed.getD i true = false → Region.ready .any ops listed ≠ [] := by
  intro i
  induction i using Nat.strongRecOn with
  | _ i ih =>
    intro hi hl hr
    have ho : ops[i]? = some ops[i] := Array.getElem?_eq_getElem hi
    by_cases hall : (ops[i].after.all fun e => !Region.binds .any e || listed.getD e.on false) = true
    · have : i ∈ Region.ready .any ops listed := by
        unfold Region.ready
        rw [List.mem_filter]
        exact ⟨List.mem_range.2 hi, by rw [hl, ho]; simpa using hall⟩
      rw [hr] at this
      cases this
    · rw [Array.all_eq_true_iff_forall_mem] at hall
      simp only [Bool.or_eq_true, Bool.not_eq_true'] at hall
      have : ∃ e ∈ ops[i].after, Region.binds .any e = true ∧ listed.getD e.on false ≠ true := by
        refine Classical.byContradiction fun hn => hall fun e hm => ?_
        by_cases hb : Region.binds .any e = true
        · by_cases hl : listed.getD e.on false = true
          · exact .inr hl
          · exact absurd ⟨e, hm, hb, hl⟩ hn
        · exact .inl (by simpa using hb)
      obtain ⟨e, hm, hb, hne⟩ := this
      have hlt := edgesB_get he i ops[i] (by simpa using ho) e hm hb
      have hlt' : e.on < ops.size := by omega
      refine ih e.on (by omega) hlt' ?_ hr
      have h1 : e.on < listed.size := by omega
      simp only [Array.getD_eq_getD_getElem?, Array.getElem?_eq_getElem h1, Option.getD_some] at hne ⊢
      simpa using hne
section
variable {P : Program} {call : CS} {N : Nat}
theorem any_wp {num : Nat → Nat} (hcall : CallOk P num call) (hk : CallKeep call) {ops : Array Oper} {aos : List AOper} (hb : regB P num N ops true aos = true) {Q : Exit → Act → World → Prop} {base : Nat} {e' : Env} {g' : G} :
    ∀ (fuel : Nat) (listed : Array Bool) {c : Cx} {e : Env} {g : G} {a : Act}, listed.size = ops.size → (pend ops listed).length = fuel → Closed ops.toList (fun i => listed.getD i false) → c.num = num → St N c e g a → base + ops.size ≤ g.nx →
    (∀ i ∈ pend ops listed, g.hp (base + i) = none) → runL call base aos (pend ops listed) e g = some (e', g') → (∀ c' a', Evo c c' → St N c' e' g' a' → Q .normal a' c'.w) → wpAny P .any ops Q fuel listed a c.w
  | 0, listed, c, e, g, a, hs, hl, hc, hn, S, hnx, hf, hr, hQ => by
    have hp : pend ops listed = [] := List.eq_nil_of_length_eq_zero hl
    refine ⟨?_, ?_⟩
    · refine List.eq_nil_iff_forall_not_mem.2 fun i hi => ?_
      have : i ∈ pend ops listed := by
        unfold Region.ready at hi
        rw [List.mem_filter] at hi
        unfold pend
        rw [List.mem_filter]
        exact ⟨hi.1, by have := hi.2; simp only [Bool.and_eq_true] at this; exact this.1⟩
      rw [hp] at this; cases this
    · rw [hp] at hr
      simp only [runL] at hr
      cases hr
      exact hQ c a (Evo.refl c) S
  | fuel + 1, listed, c, e, g, a, hs, hl, hc, hn, S, hnx, hf, hr, hQ => by
    simp only [regB, Bool.and_eq_true, Bool.not_true, Bool.false_or] at hb
    obtain ⟨hb1, hb2, hb3, hb4⟩ := hb
    refine ⟨fun h0 => ?_, fun i hi => ?_⟩
    · exfalso
      cases hp : pend ops listed with
      | nil => rw [hp] at hl; simp at hl
      | cons m ms =>
        have hm : m ∈ pend ops listed := by rw [hp]; exact List.mem_cons_self ..
        unfold pend at hm
        rw [List.mem_filter] at hm
        exact ready_some hb2 hs m (List.mem_range.1 hm.1) (by simpa using hm.2) h0
    · have hi' := hi
      unfold Region.ready at hi'
      rw [List.mem_filter] at hi'
      obtain ⟨hir, hiu⟩ := hi'
      have hilt : i < ops.size := List.mem_range.1 hir
      simp only [Bool.and_eq_true, Bool.not_eq_true'] at hiu
      obtain ⟨hul, hpre⟩ := hiu
      have ho : ops[i]? = some ops[i] := Array.getElem?_eq_getElem hilt
      rw [ho] at hpre
      simp only [Option.map_some, Option.getD_some] at hpre
      have hpre' : ∀ ed ∈ ops[i].after, Region.binds .any ed = true → listed.getD ed.on false = true := by
        intro ed hm hbd
        have := Array.all_eq_true_iff_forall_mem.1 hpre ed hm
        rw [hbd] at this
        simpa using this
      have him : i ∈ pend ops listed := by
        unfold pend; rw [List.mem_filter]; exact ⟨hir, by rw [hul]; rfl⟩
      obtain ⟨pre, post, hsplit⟩ := List.append_of_mem him
      have hsort : (pend ops listed).Pairwise (· < ·) := List.Pairwise.filter _ List.pairwise_lt_range
      rw [hsplit, List.pairwise_append] at hsort
      obtain ⟨s1, s2, s3⟩ := hsort
      rw [List.pairwise_cons] at s2
      obtain ⟨hlen, hget⟩ := opersB_get hb1
      obtain ⟨y, hy, hoy⟩ := hget i ops[i] (by simpa using ho)
      have hmem : ∀ k, k ∈ pre ∨ k ∈ post → k ∈ pend ops listed := by
        intro k hk; rw [hsplit]
        rcases hk with hk | hk
        · exact List.mem_append_left _ hk
        · exact List.mem_append_right _ (List.mem_cons_of_mem _ hk)
      have hfront := runL_front hy pre post e e' g g' (fun k hk => by
        have hki : k < i := s3 k hk i (List.mem_cons_self ..)
        refine ⟨by omega, fun x hx => ?_⟩
        have hpb := drawB_get hb4 i y hy
        rw [Nat.zero_add] at hpb
        have := pairsB_get hpb k x (by rw [List.getElem?_take_of_lt hki]; exact hx)
        rw [Nat.zero_add] at this
        rcases this with h1 | h1
        · exfalso
          have hL := clo_sound hb3 hb2 hc i ops[i] (by simpa using ho) hpre' k h1
          have hkm := hmem k (.inl hk)
          unfold pend at hkm
          rw [List.mem_filter] at hkm
          have hkl : k < listed.size := by rw [hs]; exact List.mem_range.1 hkm.1
          have h2 := hkm.2
          simp only [Array.getD_eq_getD_getElem?, Array.getElem?_eq_getElem hkl, Option.getD_some] at hL h2
          rw [hL] at h2; cases h2
        · exact h1) (by rw [hsplit] at hr; exact hr)
      simp only [runL, hy] at hfront
      have hpend' : pend ops (listed.setIfInBounds i true) = pre ++ post := by
        have h1 : pend ops (listed.setIfInBounds i true) = (pend ops listed).filter (fun k => k != i) := by
          unfold pend
          rw [List.filter_filter]
          refine List.filter_congr fun k hk => ?_
          have hkl : k < listed.size := by rw [hs]; exact List.mem_range.1 hk
          by_cases hki : k = i
          · subst hki
            rw [Array.getD_eq_getD_getElem?, Array.getElem?_setIfInBounds_self_of_lt hkl]
            simp
          · rw [Array.getD_eq_getD_getElem?, Array.getElem?_setIfInBounds_ne (fun h => hki h.symm), Array.getD_eq_getD_getElem?]
            simp [hki]
        rw [h1, hsplit, List.filter_append, List.filter_cons]
        have f1 : pre.filter (fun k => k != i) = pre := List.filter_eq_self.2 fun k hk => by
          have := s3 k hk i (List.mem_cons_self ..)
          simp; omega
        have f2 : post.filter (fun k => k != i) = post := List.filter_eq_self.2 fun k hk => by
          have := s2.1 k hk
          simp; omega
        rw [f1, f2]
        simp
      split at hfront
      · rename_i e1 g1 hst
        have hkp := opStep_keep hk hst
        refine opStep_wp (hn ▸ hcall) S ho (hn ▸ hoy) (hf i him) (by omega) hst (fun c1 a1 E1 S1 => ?_)
        have hb : regB P num N ops true aos = true := by
          simp only [regB, Bool.and_eq_true, Bool.not_true, Bool.false_or]
          exact ⟨hb1, hb2, hb3, hb4⟩
        refine any_wp hcall hk hb fuel (listed.setIfInBounds i true) (by simpa using hs) (by
            rw [hpend']
            rw [hsplit] at hl
            simp at hl ⊢
            omega) ?_ (E1.num.trans hn) S1 (Nat.le_trans hnx hkp.1) ?_ (by rw [hpend']; exact hfront) (fun c' a' E' S' => hQ c' a' (E1.trans E') S')
        · intro m o hm hlm ed hed hbd
          have hset : ∀ k, listed.getD k false = true → (listed.setIfInBounds i true).getD k false = true := by
            intro k hk
            by_cases hki : k = i
            · subst hki
              have hkl : k < listed.size := by omega
              rw [Array.getD_eq_getD_getElem?, Array.getElem?_setIfInBounds_self_of_lt hkl]; rfl
            · rw [Array.getD_eq_getD_getElem?, Array.getElem?_setIfInBounds_ne (fun h => hki h.symm), ← Array.getD_eq_getD_getElem?]; exact hk
          refine hset _ ?_
          by_cases hmi : m = i
          · subst hmi
            have : o = ops[m] := by
              have h2 : ops[m]? = some o := by simpa using hm
              rw [ho] at h2; cases h2; rfl
            subst this
            exact hpre' ed hed hbd
          · have hlm' : listed.getD m false = true := by
              have h3 : (listed.setIfInBounds i true).getD m false = true := hlm
              rw [Array.getD_eq_getD_getElem?, Array.getElem?_setIfInBounds_ne (fun h => hmi h.symm), ← Array.getD_eq_getD_getElem?] at h3
              exact h3
            exact hc m o hm hlm' ed hed hbd
        · intro k hk
          rw [hpend'] at hk
          have hkm := hmem k (List.mem_append.1 hk)
          have hki : k ≠ i := by
            rcases List.mem_append.1 hk with hk | hk
            · have := s3 k hk i (List.mem_cons_self ..); omega
            · have := s2.1 k hk; omega
          have hklt : k < ops.size := by
            unfold pend at hkm; rw [List.mem_filter] at hkm; exact List.mem_range.1 hkm.1
          exact hkp.2 _ (by omega) (by omega) (hf k hkm)
      · cases hfront
theorem region_wp {num : Nat → Nat} (hcall : CallOk P num call) (hk : CallKeep call) (hm : P.follows .mixedOrders = true) {ops : Array Oper} {draw : Bool} {aos : List AOper} (hb : regB P num N ops draw aos = true) {Q : Exit → Act → World → Prop} {id : Nat}
    {c : Cx} {e e' : Env} {g g' : G} {a : Act} (hn : c.num = num) (S : St N c e g a) (h : regE call draw g.nx 0 aos e { g with nx := g.nx + aos.length } = some (e', g')) (hQ : ∀ c' a', Evo c c' → St N c' e' g' a' → Q .normal a' c'.w) : (Code.region id ops draw).wp P Q a c.w := by
  have hb' := hb
  simp only [regB, Bool.and_eq_true] at hb'
  obtain ⟨hlen, _⟩ := opersB_get hb'.1
  have hlen' : ops.size = aos.length := by simpa using hlen
  have S' : St N c e { g with nx := g.nx + aos.length } a := ⟨S.env, ⟨S.ok.basele, S.ok.cells, S.ok.maps, S.ok.toks, S.ok.inj, fun id hid => S.ok.fresh id (by have : g.nx + aos.length ≤ id := hid; omega)⟩, S.hp, S.size, S.defers⟩
  have hfree : ∀ i, i < ops.size → g.hp (g.nx + i) = none := fun i _ => by rw [← S.hp]; exact S.ok.fresh _ (by omega)
  cases draw with
  | false =>
    refine wp_region ?_
    rw [List.range_eq_range']
    have := reg_wp (Q := Q) hcall hk (draw := false) (base := g.nx) (n := ops.size) ops.toList aos 0 hn (fun i o hi => by simpa using hi) hb'.1 (by simp) S' (by simp [hlen']) (fun i _ hi => hfree i hi) h hQ
    simpa using this
  | true =>
    refine wp_region_any hm ?_
    have hpend : pend ops (Array.replicate ops.size false) = List.range ops.size := by
      unfold pend
      refine List.filter_eq_self.2 fun i hi => ?_
      have hi := List.mem_range.1 hi
      rw [Array.getD_eq_getD_getElem?, Array.getElem?_replicate, if_pos hi]; rfl
    refine any_wp (c := c.drew) (base := g.nx) hcall hk hb ops.size (Array.replicate ops.size false) (by simp) (by rw [hpend]; simp) ?_ hn ⟨S'.env.evo (Evo.drew c), S'.ok.drew, S'.hp, S'.size, S'.defers⟩ (by show g.nx + ops.size ≤ g.nx + aos.length; omega) (fun i hi => ?_) ?_ (fun c' a' E Sc => hQ c' a' ((Evo.drew c).trans E) Sc)
    · intro i o _ hl
      have hl : (Array.replicate ops.size false).getD i false = true := hl
      rw [Array.getD_eq_getD_getElem?, Array.getElem?_replicate] at hl
      split at hl <;> cases hl
    · rw [hpend] at hi
      exact hfree i (List.mem_range.1 hi)
    · rw [hpend, List.range_eq_range', hlen']
      rw [runL_text call g.nx aos aos 0 e _ (fun i o hi => by simpa using hi)]
      exact h
end
end Go.Ab
end
section
set_option linter.unusedVariables false
set_option linter.unusedSimpArgs false
set_option linter.unnecessarySimpa false
namespace Go.Ab
open Go.RowKit
def codeB (P : Program) (nm : Nat → Nat) (N : Nat) : Code → ACode → Bool
  | .skip, .skip => true
  | .region _ ops d, .reg d' aos => (d == d') && regB P nm N ops d aos
  | .seq a b, .seq a' b' => codeB P nm N a a' && codeB P nm N b b'
  | .cond c t f, .cond c' t' f' => opdB nm c c' && codeB P nm N t t' && codeB P nm N f f'
  | .block i c, .blk i' c' => (i == i') && codeB P nm N c c'
  | cd, .lck _ c' => codeB P nm N cd c'
  | cd, .imm _ c' => codeB P nm N cd c'
  | .scope c, .scp c' => codeB P nm N c c'
  | .label _, .lab => true
  | .loop c, .loop c' => codeB P nm N c c'
  | .exit i, .ext i' => i == i'
  | .ret, .ret => true
  | _, _ => false
def Keeps (g g' : G) : Prop := g.nx ≤ g'.nx ∧ ∀ i, i < g.nx → g.hp i = none → g'.hp i = none
theorem Keeps.refl (g : G) : Keeps g g := ⟨Nat.le_refl _, fun _ _ h => h⟩
theorem Keeps.trans {g g1 g2 : G} (h : Keeps g g1) (k : Keeps g1 g2) : Keeps g g2 := ⟨Nat.le_trans h.1 k.1, fun i hi hn => k.2 i (Nat.lt_of_lt_of_le hi h.1) (h.2 i hi hn)⟩
theorem regE_keep {call : CS} (hk : CallKeep call) {draw : Bool} {base : Nat} {e' : Env} {g' : G} : ∀ (aos : List AOper) (j : Nat) {e : Env} {g : G}, regE call draw base j aos e g = some (e', g') → g.nx ≤ g'.nx ∧ ∀ i, i < base → i < g.nx → g.hp i = none → g'.hp i = none
  | [], j, e, g, h => by simp only [regE] at h; cases h; exact ⟨Nat.le_refl _, fun _ _ _ h => h⟩
  | o :: os, j, e, g, h => by
    rw [regE_step] at h
    split at h
    · rename_i e1 g1 hst
      have h1 := opStep_keep hk hst
      have h2 := regE_keep hk os (j + 1) h
      exact ⟨Nat.le_trans h1.1 h2.1, fun i hb hi hn => h2.2 i hb (Nat.lt_of_lt_of_le hi h1.1) (h1.2 i hi (by omega) hn)⟩
    · cases h
theorem iter_keep {f : Env → G → Option (Out × Env × G)} (hf : ∀ e g o e' g', f e g = some (o, e', g') → Keeps g g') : ∀ (k : Nat) {e : Env} {g : G} {o : Out} {e' : Env} {g' : G}, iter f k e g = some (o, e', g') → Keeps g g'
  | 0, _, _, _, _, _, h => by simp [iter] at h
  | k + 1, e, g, o, e', g', h => by
    simp only [iter] at h
    split at h
    · rename_i e1 g1 h1
      exact (hf _ _ _ _ _ h1).trans (iter_keep hf k h)
    · exact hf _ _ _ _ _ h
theorem codeE_keep {call : CS} (hk : CallKeep call) (k : Nat) : ∀ (c : ACode) {e : Env} {g : G} {o : Out} {e' : Env} {g' : G}, codeE call k c e g = some (o, e', g') → Keeps g g'
  | .skip, _, _, _, _, _, h => by simp only [codeE] at h; cases h; exact Keeps.refl _
  | .reg draw ops, e, g, _, _, _, h => by
    simp only [codeE] at h
    split at h
    · rename_i e1 g1 h1
      cases h
      have := regE_keep hk ops 0 h1
      exact ⟨Nat.le_trans (Nat.le_add_right _ _) this.1, fun i hi hn => this.2 i hi (Nat.lt_of_lt_of_le hi (Nat.le_add_right _ _)) hn⟩
    · cases h
  | .seq a b, _, _, _, _, _, h => by
    simp only [codeE] at h
    split at h
    · rename_i e1 g1 h1
      exact (codeE_keep hk k a h1).trans (codeE_keep hk k b h)
    · exact codeE_keep hk k a h
  | .cond c t f, e, g, _, _, _, h => by
    simp only [codeE] at h
    split at h
    · split at h
      · exact codeE_keep hk k t h
      · exact codeE_keep hk k f h
    · cases h
  | .blk id c, _, _, _, _, _, h => by
    simp only [codeE] at h
    split at h
    · rename_i n e1 g1 h1
      cases h
      exact codeE_keep hk k c h1
    · exact codeE_keep hk k c h
  | .scp c, _, _, _, _, _, h => by
    simp only [codeE] at h
    exact codeE_keep hk k c h
  | .lab, _, _, _, _, _, h => by simp only [codeE] at h; cases h; exact Keeps.refl _
  | .imm t c, e0, gg, _, _, _, h => by
    simp only [codeE] at h
    split at h
    · rename_i v hv
      have h2 := codeE_keep hk k c h
      refine Keeps.trans (g1 := ⟨Ab.lock gg.hp (vis gg.hp depth (e0 t)), gg.nx⟩) ⟨Nat.le_refl _, fun i hi hn => ?_⟩ h2
      show Ab.lock _ _ _ = none
      rcases lock_cases _ _ i with h' | ⟨_, cs, ro, h1, _⟩
      · rw [h']; exact hn
      · rw [hn] at h1; cases h1
    · cases h
  | .lck t c, e0, gg, _, _, _, h => by
    simp only [codeE] at h
    have h2 := codeE_keep hk k c h
    refine Keeps.trans (g1 := ⟨Ab.lock gg.hp (vis gg.hp depth (e0 t)), gg.nx⟩) ⟨Nat.le_refl _, fun i hi hn => ?_⟩ h2
    show Ab.lock _ _ _ = none
    rcases lock_cases _ _ i with h' | ⟨_, cs, ro, h1, _⟩
    · rw [h']; exact hn
    · rw [hn] at h1; cases h1
  | .loop c, _, _, _, _, _, h => by
    simp only [codeE] at h
    exact iter_keep (fun e g o e' g' h => codeE_keep hk k c h) k h
  | .ext _, _, _, _, _, _, h => by simp only [codeE] at h; cases h; exact Keeps.refl _
  | .ret, _, _, _, _, _, h => by simp only [codeE] at h; cases h; exact Keeps.refl _
theorem St.lock {N : Nat} {c : Cx} {e : Env} {g : G} {a : Act} (S : St N c e g a) (ids : List Nat) : St N (c.lock ids) e ⟨Ab.lock g.hp ids, g.nx⟩ a :=
  ⟨S.env.evo (Evo.lock c ids), S.ok.lock ids, by show Ab.lock c.hp ids = _; rw [S.hp], S.size, S.defers⟩
def exOf : Out → Exit
  | .nrm => .normal
  | .ext n => .exit n
  | .ret => .ret
section
variable {P : Program} {call : CS} {N : Nat}
theorem rounds_wp {num : Nat → Nat} {cd : Code} {f : Env → G → Option (Out × Env × G)} {Q : Exit → Act → World → Prop}
    (hf : ∀ {Q : Exit → Act → World → Prop} {c : Cx} {e e' : Env} {g g' : G} {a : Act} {o : Out}, c.num = num → St N c e g a → f e g = some (o, e', g') → (∀ c' a', Evo c c' → St N c' e' g' a' → Q (exOf o) a' c'.w) → cd.wp P Q a c.w) :
    ∀ (k : Nat) {c : Cx} {e e' : Env} {g g' : G} {a : Act} {o : Out}, c.num = num → St N c e g a → iter f k e g = some (o, e', g') → (∀ c' a', Evo c c' → St N c' e' g' a' → Q (exOf o) a' c'.w) → (o = .nrm → False) → Code.rounds P cd Q k a c.w
  | 0, _, _, _, _, _, _, _, _, _, h, _, _ => by simp [iter] at h
  | k + 1, c, e, e', g, g', a, o, hn, S, h, hQ, hno => by
    simp only [iter] at h
    rw [rounds_succ]
    split at h
    · rename_i e1 g1 h1
      exact hf hn S h1 fun c1 a1 E1 S1 => rounds_wp hf k (E1.num.trans hn) S1 h (fun c' a' E' S' => hQ c' a' (E1.trans E') S') hno
    · refine hf hn S h fun c1 a1 E1 S1 => ?_
      have := hQ c1 a1 E1 S1
      cases o with
      | nrm => exact (hno rfl).elim
      | ext n => exact this
      | ret => exact this
theorem iter_out {f : Env → G → Option (Out × Env × G)} : ∀ (k : Nat) {e e' : Env} {g g' : G} {o : Out}, iter f k e g = some (o, e', g') → o = .nrm → False
  | 0, _, _, _, _, _, h, _ => by simp [iter] at h
  | k + 1, e, e', g, g', o, h, ho => by
    simp only [iter] at h
    split at h
    · exact iter_out k h ho
    · rename_i hne
      subst ho
      exact hne _ _ h
theorem code_wp {num : Nat → Nat} (hcall : CallOk P num call) (hk : CallKeep call) (hm : P.follows .mixedOrders = true) (k : Nat) : ∀ (ac : ACode) {cd : Code} {Q : Exit → Act → World → Prop} {c : Cx} {e e' : Env} {g g' : G} {a : Act} {o : Out},
    codeB P num N cd ac = true → c.num = num → St N c e g a → codeE call k ac e g = some (o, e', g') → (∀ c' a', Evo c c' → St N c' e' g' a' → Q (exOf o) a' c'.w) → cd.wp P Q a c.w
  | .skip, cd, Q, c, e, e', g, g', a, o, hb, hn, S, h, hQ => by
    cases cd <;> simp only [codeB, Bool.false_eq_true] at hb
    simp only [codeE] at h; cases h
    exact wp_skip (hQ c a (Evo.refl c) S)
  | .reg d aos, cd, Q, c, e, e', g, g', a, o, hb, hn, S, h, hQ => by
    cases cd <;> simp only [codeB, Bool.false_eq_true] at hb
    simp only [Bool.and_eq_true, beq_iff_eq] at hb
    obtain ⟨rfl, hb⟩ := hb
    simp only [codeE] at h
    split at h
    · rename_i e1 g1 h1
      cases h
      exact region_wp hcall hk hm hb hn S h1 hQ
    · cases h
  | .seq x y, cd, Q, c, e, e', g, g', a, o, hb, hn, S, h, hQ => by
    cases cd <;> simp only [codeB, Bool.false_eq_true] at hb
    simp only [Bool.and_eq_true] at hb
    simp only [codeE] at h
    refine wp_seq ?_
    split at h
    · rename_i e1 g1 h1
      exact code_wp hcall hk hm k x hb.1 hn S h1 fun c1 a1 E1 S1 => code_wp hcall hk hm k y hb.2 (E1.num.trans hn) S1 h fun c' a' E' S' => hQ c' a' (E1.trans E') S'
    · rename_i hne
      refine code_wp hcall hk hm k x hb.1 hn S h fun c1 a1 E1 S1 => ?_
      have := hQ c1 a1 E1 S1
      cases o with
      | nrm => exact (hne _ _ h).elim
      | ext n => exact this
      | ret => exact this
  | .cond x t f, cd, Q, c, e, e', g, g', a, o, hb, hn, S, h, hQ => by
    cases cd <;> simp only [codeB, Bool.false_eq_true] at hb
    simp only [Bool.and_eq_true] at hb
    obtain ⟨⟨h1, h2⟩, h3⟩ := hb
    have hr := opdB_rep S.env (hn ▸ h1)
    simp only [codeE] at h
    split at h
    · rename_i b hx
      rw [hx] at hr
      refine wp_cond (t := b) (by
        generalize a.eval _ = u at hr
        cases hr; rfl) ?_
      cases b with
      | true =>
        simp only [if_true] at h ⊢
        exact code_wp hcall hk hm k t h2 hn S h hQ
      | false =>
        simp only [Bool.false_eq_true, if_false] at h ⊢
        exact code_wp hcall hk hm k f h3 hn S h hQ
    · cases h
  | .blk i x, cd, Q, c, e, e', g, g', a, o, hb, hn, S, h, hQ => by
    cases cd <;> simp only [codeB, Bool.false_eq_true] at hb
    simp only [Bool.and_eq_true, beq_iff_eq] at hb
    obtain ⟨rfl, hb⟩ := hb
    simp only [codeE] at h
    refine wp_block ?_
    split at h
    · rename_i n e1 g1 h1
      cases h
      refine code_wp hcall hk hm k x hb hn S h1 fun c1 a1 E1 S1 => ?_
      have := hQ c1 a1 E1 S1
      show if _ then _ else _
      split
      · rename_i hni; rw [if_pos hni] at this; exact this
      · rename_i hni; rw [if_neg hni] at this; exact this
    · rename_i hne
      refine code_wp hcall hk hm k x hb hn S h fun c1 a1 E1 S1 => ?_
      have := hQ c1 a1 E1 S1
      cases o with
      | nrm => exact this
      | ext n => exact (hne _ _ _ h).elim
      | ret => exact this
  | .scp x, cd, Q, c, e, e', g, g', a, o, hb, hn, S, h, hQ => by
    cases cd <;> simp only [codeB, Bool.false_eq_true] at hb
    simp only [codeE] at h
    refine wp_scope_straight (code_wp hcall hk hm k x hb hn S h fun c1 a1 E1 S1 => ?_)
    have := hQ c1 a1 E1 S1
    cases o <;> exact this
  | .lab, cd, Q, c, e, e', g, g', a, o, hb, hn, S, h, hQ => by
    cases cd <;> simp only [codeB, Bool.false_eq_true] at hb
    simp only [codeE] at h; cases h
    exact wp_label (hQ c a (Evo.refl c) S)
  | .imm t x, cd, Q, c, e, e', g, g', a, o, hb, hn, S, h, hQ => by
    have hb : codeB P num N cd x = true := by cases cd <;> simpa only [codeB] using hb
    simp only [codeE] at h
    split at h
    · rename_i v hv
      have E := Evo.lock c (vis g.hp depth (e t))
      have S1 := S.lock (vis g.hp depth (e t))
      have hr := frz_rep S.ok (hp := g.hp) (ids := vis g.hp depth (e t)) (fun i b hib => by rw [S.hp]; exact hib) depth hv (fun _ h => h) (S.env t)
      have S2 : St N (c.lock (vis g.hp depth (e t))) (upd e t v) ⟨Ab.lock g.hp (vis g.hp depth (e t)), g.nx⟩ a := by
        refine ⟨fun t' => ?_, S1.ok, S1.hp, S1.size, S1.defers⟩
        unfold upd
        split
        · rename_i ht; subst ht; exact hr.up
        · exact S1.env t'
      exact code_wp hcall hk hm k x (c := c.lock (vis g.hp depth (e t))) hb (E.num.trans hn) S2 h fun c1 a1 E1 S1 => hQ c1 a1 (E.trans E1) S1
    · cases h
  | .lck t x, cd, Q, c, e, e', g, g', a, o, hb, hn, S, h, hQ => by
    have hb : codeB P num N cd x = true := by cases cd <;> simpa only [codeB] using hb
    simp only [codeE] at h
    have E := Evo.lock c (vis g.hp depth (e t))
    exact code_wp hcall hk hm k x (c := c.lock (vis g.hp depth (e t))) hb (E.num.trans hn) (S.lock _) h fun c1 a1 E1 S1 => hQ c1 a1 (E.trans E1) S1
  | .loop x, cd, Q, c, e, e', g, g', a, o, hb, hn, S, h, hQ => by
    cases cd <;> simp only [codeB, Bool.false_eq_true] at hb
    simp only [codeE] at h
    exact wp_loop_rounds k (rounds_wp (fun hn S h hQ => code_wp hcall hk hm k x hb hn S h hQ) k hn S h hQ (iter_out k h))
  | .ext i, cd, Q, c, e, e', g, g', a, o, hb, hn, S, h, hQ => by
    cases cd <;> simp only [codeB, Bool.false_eq_true] at hb
    simp only [beq_iff_eq] at hb
    subst hb
    simp only [codeE] at h; cases h
    exact wp_exit (hQ c a (Evo.refl c) S)
  | .ret, cd, Q, c, e, e', g, g', a, o, hb, hn, S, h, hQ => by
    cases cd <;> simp only [codeB, Bool.false_eq_true] at hb
    simp only [codeE] at h; cases h
    exact wp_ret (hQ c a (Evo.refl c) S)
end
def resB (P : Program) : List ResultVar → List ARes → Bool
  | [], [] => true
  | .tmp t :: rs, .t t' :: rs' => (t == t') && resB P rs rs'
  | .cell a t :: rs, .cell a' agg :: rs' => (a == a') && aggB P t agg && resB P rs rs'
  | _, _ => false
def funB (P : Program) (nm : Nat → Nat) (fn : Func) (A : AFun) : Bool :=
  (match fn.body with
   | some cd => codeB P nm fn.ntmps cd A.body
   | none => false) && resB P fn.results.toList A.res && !(fn.name == "runtime.NumGoroutine")
def resVar (tmps : Array Value) : ResultVar → Sem Value
  | .tmp t => pure (tmps.getD t undef)
  | .cell a t => do loadVar t (← asAddr (tmps.getD a undef))
theorem results_eq (fn : Func) (tmps : Array Value) : results fn tmps = (fn.results.mapM (resVar tmps) >>= fun vs => pure (if h : vs.size = 1 then vs[0] else .tuple vs)) := by
  unfold results
  congr 1
theorem resB_ok {P : Program} {c : Cx} {e : Env} {a : Act} {g : G} (he : EnvOk c e a) (K : Ok c g.nx) (hg : c.hp = g.hp) : ∀ {rs : List ResultVar} {asx : List ARes} {vs : List AV}, resB P rs asx = true → resAll e g asx = some vs → ∃ us : List Value, (rs.mapM (resVar a.tmps)).run P c.w = .ok us c.w ∧ Reps c true vs us
  | [], [], vs, _, h => by
    simp only [resAll] at h; cases h
    exact ⟨[], rfl, Reps.nil⟩
  | .tmp t :: rs, .t t' :: asx, vs, hb, h => by
    simp only [resB, Bool.and_eq_true, beq_iff_eq] at hb
    obtain ⟨rfl, hb⟩ := hb
    simp only [resAll, resOne] at h
    split at h
    · rename_i v vs' h1 h2
      cases h1; cases h
      obtain ⟨us, hu, hr⟩ := resB_ok he K hg hb h2
      refine ⟨a.tmps.getD t undef :: us, ?_, Reps.cons (he t) hr⟩
      rw [List.mapM_cons, Sem.run_bind]
      show Result.andThen (.ok (a.tmps.getD t undef) c.w) _ = _
      rw [Result.andThen_ok, Sem.run_bind, hu]
      rfl
    · cases h
  | .cell q t :: rs, .cell q' agg :: asx, vs, hb, h => by
    simp only [resB, Bool.and_eq_true, beq_iff_eq] at hb
    obtain ⟨⟨rfl, hagg⟩, hb⟩ := hb
    simp only [resAll] at h
    split at h
    · rename_i v vs' h1 h2
      cases h
      obtain ⟨us, hu, hr⟩ := resB_ok he K hg hb h2
      simp only [resOne] at h1
      split at h1
      · rename_i b off hq
        split at h1
        · rename_i cs ro hbk
          have hrq := he q
          rw [hq] at hrq
          have hv := rep_mp hrq
          have hbk' : c.hp b = some (.cells cs ro) := by rw [hg]; exact hbk
          obtain ⟨_, ws, ty, g2, g3, _⟩ := K.cells b cs ro hbk'
          obtain ⟨val, hrun, hval⟩ := run_loadVar_ab (P := P) (w := c.w) hagg g3 h1 (ad := ⟨(c.loc b).1, off, none⟩) (fun j u hu => by rw [add_mk, cell_of_heap g2]; simpa using hu)
          refine ⟨val :: us, ?_, Reps.cons hval hr⟩
          have hone : (resVar a.tmps (.cell q t)).run P c.w = .ok val c.w := by
            simp only [resVar, hv]
            exact hrun
          rw [List.mapM_cons, Sem.run_bind, hone, Result.andThen_ok, Sem.run_bind, hu]
          rfl
        · cases h1
      · cases h1
    · cases h
  | [], _ :: _, _, h, _ => by simp [resB] at h
  | .tmp _ :: _, [], _, h, _ => by simp [resB] at h
  | .tmp _ :: _, .cell _ _ :: _, _, h, _ => by simp [resB] at h
  | .cell _ _ :: _, [], _, h, _ => by simp [resB] at h
  | .cell _ _ :: _, .t _ :: _, _, h, _ => by simp [resB] at h
theorem res_ok {P : Program} {c : Cx} {e : Env} {a : Act} {g : G} (he : EnvOk c e a) (K : Ok c g.nx) (hg : c.hp = g.hp) {fn : Func} {asx : List ARes} {v : AV} (hb : resB P fn.results.toList asx = true) (h : resE asx e g = some v) : ∃ u, (results fn a.tmps).run P c.w = .ok u c.w ∧ Rep c true v u := by
  unfold resE at h
  have key : ∀ vs, resAll e g asx = some vs → ∃ us : List Value, (results fn a.tmps).run P c.w = .ok (if h : us.toArray.size = 1 then us.toArray[0] else .tuple us.toArray) c.w ∧ Reps c true vs us := by
    intro vs hv
    obtain ⟨us, hu, hr⟩ := resB_ok (P := P) he K hg hb hv
    refine ⟨us, ?_, hr⟩
    rw [results_eq, Array.mapM_eq_mapM_toList, Sem.run_bind, Sem.run_map, hu]
    rfl
  split at h
  · rename_i v' hv
    cases h
    obtain ⟨us, hu, hr⟩ := key _ hv
    obtain ⟨u, us', rfl, h1, h2⟩ := Reps.cons_inv hr
    have := Reps.nil_inv h2
    subst this
    exact ⟨u, by simpa using hu, h1⟩
  · rename_i vs hne hv
    cases h
    obtain ⟨us, hu, hr⟩ := key _ hv
    refine ⟨_, hu, ?_⟩
    rw [dif_neg]
    · exact .tup us hr.1 hr.2
    · intro hs
      have hl : vs.length = 1 := by rw [hr.1]; simpa using hs
      match vs, hl, hne with
      | [v], _, hne => exact hne v rfl
  · cases h
theorem argEnv_ok {c : Cx} {asx : List AV} {vs : List Value} (h : Reps c true asx vs) (n : Nat) : EnvOk c (argEnv asx) { tmps := vs.toArray ++ Array.replicate n undef, defers := [] } := by
  intro t
  unfold argEnv
  rw [List.getD_eq_getElem?_getD]
  show Rep c true _ ((vs.toArray ++ Array.replicate n undef).getD t undef)
  rw [Array.getD_eq_getD_getElem?, Array.getElem?_append]
  by_cases ht : t < vs.length
  · rw [if_pos (by simpa using ht)]
    have ht' : t < asx.length := by rw [h.1]; exact ht
    rw [List.getElem?_eq_getElem ht', List.getElem?_toArray, List.getElem?_eq_getElem ht]
    exact h.2 t _ _ (List.getElem?_eq_getElem ht') (List.getElem?_eq_getElem ht)
  · rw [if_neg (by simpa using ht), List.getElem?_eq_none (by have := h.1; omega)]
    rw [Array.getElem?_replicate]
    split <;> exact .undef
def Table (P : Program) (num : Nat → Nat) (F : Funs) : Prop := ∀ f A, F f = some A → ∃ fn, P.funcs[num f]? = some fn ∧ funB P num fn A = true
theorem callE_ok {P : Program} {num : Nat → Nat} {F : Funs} (hT : Table P num F) (hm : P.follows .mixedOrders = true) : ∀ k, CallKeep (callE F k) ∧ CallOk P num (callE F k)
  | 0 => ⟨fun f asx g v g' h => by simp [callE] at h, fun f asx g v g' h => by simp [callE] at h⟩
  | k + 1 => by
    obtain ⟨hk, hcall⟩ := callE_ok hT hm k
    have keep : CallKeep (callE F (k + 1)) := by
      intro f asx g v g' h
      simp only [callE] at h
      split at h
      · cases h
      · rename_i fn hF
        split at h
        · rename_i e1 g1 h1
          have := codeE_keep hk k _ h1
          cases hr : resE fn.res e1 g1 with
          | none => rw [hr] at h; cases h
          | some x => rw [hr] at h; cases h; exact this
        · rename_i e1 g1 h1
          have := codeE_keep hk k _ h1
          cases hr : resE fn.res e1 g1 with
          | none => rw [hr] at h; cases h
          | some x => rw [hr] at h; cases h; exact this
        · cases h
    refine ⟨keep, fun f asx g v g' h => ⟨keep f asx g v g' h, fun c vargs hn hg K hr => ?_⟩⟩
    simp only [callE] at h
    split at h
    · cases h
    · rename_i A hF
      obtain ⟨fn, hfn, hb⟩ := hT f A hF
      simp only [funB, Bool.and_eq_true, Bool.not_eq_true'] at hb
      obtain ⟨⟨hb1, hb2⟩, hb3⟩ := hb
      split at hb1
      · rename_i cd hbody
        refine ⟨?_, fn, hfn, by rw [hbody]; rfl, hb3⟩
        have S : St fn.ntmps c (argEnv asx) g { tmps := vargs.toArray ++ Array.replicate (fn.ntmps - vargs.toArray.size) undef, defers := [] } :=
          ⟨argEnv_ok hr _, K, hg, by simp; omega, rfl⟩
        have fin : ∀ o e1 g1, (o = .nrm ∨ o = .ret) → codeE (callE F k) k A.body (argEnv asx) g = some (o, e1, g1) → (resE A.res e1 g1).map (·, g1) = some (v, g') → Calls P (num f) vargs.toArray c.w (fun en w' => ∃ val c', en = .returned val ∧ c'.w = w' ∧ Evo c c' ∧ Ok c' g'.nx ∧ c'.hp = g'.hp ∧ Rep c' true v val) := by
          intro o e1 g1 ho h1 h2
          cases hre : resE A.res e1 g1 with
          | none => rw [hre] at h2; cases h2
          | some x =>
            rw [hre] at h2; cases h2
            refine calls_of_wp hfn hbody (code_wp hcall hk hm k A.body hb1 hn S h1 fun c' a' E S' => ?_)
            obtain ⟨u, hu, hru⟩ := res_ok (P := P) S'.env S'.ok S'.hp hb2 hre
            have : a'.defers = [] ∧ ∃ v', (results fn a'.tmps).run P c'.w = .ok v' c'.w ∧ (fun (en : Ending) (w' : World) => ∃ val c'', en = .returned val ∧ c''.w = w' ∧ Evo c c'' ∧ Ok c'' g'.nx ∧ c''.hp = g'.hp ∧ Rep c'' true v val) (.returned v') c'.w :=
              ⟨S'.defers, u, hu, u, c', rfl, rfl, E, S'.ok, S'.hp, hru⟩
            rcases ho with rfl | rfl
            · exact this
            · exact this
        split at h
        · rename_i e1 g1 h1; exact fin .nrm e1 g1 (.inl rfl) h1 h
        · rename_i e1 g1 h1; exact fin .ret e1 g1 (.inr rfl) h1 h
        · cases h
      · cases hb1
end Go.Ab
end
section
namespace Go.Ab
def A_cmp_Compare_int : AFun := { res := [.t 4], body := (.seq (.reg false [{ dst := some 4, op := .mv (.c (.i .i64 0)) }])
 (.seq (.reg false [{ dst := some 7, op := .mv (.t 0) },
  { dst := some 8, op := .call .pure (.c (.fn 266 [] [])) [.t 7] },
  { dst := some 5, op := .mv (.t 8) }])
 (.seq (.reg false [{ dst := some 9, op := .mv (.t 1) },
  { dst := some 10, op := .call .pure (.c (.fn 266 [] [])) [.t 9] },
  { dst := some 6, op := .mv (.t 10) }])
 (.seq (.seq (.reg false [{ dst := some 11, op := .mv (.t 5) }])
 (.cond (.t 11) (.seq (.seq (.reg false [{ dst := some 12, op := .mv (.t 6) }])
 (.cond (.t 12) (.seq (.reg false [{ dst := some 4, op := .mv (.c (.i .i64 0)) }])
 .ret)
 .skip))
 (.seq (.reg false [{ dst := some 4, op := .mv (.c (.i .i64 (-1))) }])
 .ret))
 .skip))
 (.seq (.seq (.reg false [{ dst := some 13, op := .mv (.t 6) }])
 (.cond (.t 13) (.seq (.reg false [{ dst := some 4, op := .mv (.c (.i .i64 1)) }])
 .ret)
 .skip))
 (.seq (.seq (.reg false [{ dst := some 14, op := .mv (.t 0) },
  { dst := some 15, op := .mv (.t 1) },
  { dst := some 16, op := .bin .lss (.t 14) (.t 15) }])
 (.cond (.t 16) (.seq (.reg false [{ dst := some 4, op := .mv (.c (.i .i64 (-1))) }])
 .ret)
 .skip))
 (.seq (.seq (.reg false [{ dst := some 17, op := .mv (.t 0) },
  { dst := some 18, op := .mv (.t 1) },
  { dst := some 19, op := .bin .gtr (.t 17) (.t 18) }])
 (.cond (.t 19) (.seq (.reg false [{ dst := some 4, op := .mv (.c (.i .i64 1)) }])
 .ret)
 .skip))
 (.seq (.reg false [{ dst := some 4, op := .mv (.c (.i .i64 0)) }])
 .ret)))))))) }
def A_cmp_Or_int : AFun := { res := [.t 2], body := (.seq (.reg false [{ dst := some 2, op := .mv (.c (.i .i64 0)) }])
 (.seq (.reg false [{ dst := some 3, op := .mv (.c (.i .i64 0)) }])
 (.seq (.seq (.reg false [{ dst := some 6, op := .mv (.t 0) },
  { dst := some 7, op := .len (.t 6) },
  { dst := some 8, op := .mv (.c (.i .i64 0)) }])
 (.blk 0 (.loop (.seq (.reg false [{ dst := some 9, op := .bin .lss (.t 8) (.t 7) }])
 (.seq (.cond (.t 9) .skip
 (.ext 0))
 (.seq (.blk 1 (.seq (.reg false [{ dst := some 10, op := .ia 1 (.t 6) (.t 8) },
  { dst := some 11, op := .ld none (.t 10) },
  { dst := some 5, op := .mv (.t 11) }])
 (.seq (.reg false [{ dst := some 12, op := .mv (.t 5) },
  { dst := some 13, op := .mv (.t 3) },
  { dst := some 14, op := .bin .neq (.t 12) (.t 13) }])
 (.cond (.t 14) (.seq (.reg false [{ dst := some 15, op := .mv (.t 5) },
  { dst := some 2, op := .mv (.t 15) }])
 .ret)
 .skip))))
 (.reg false [{ dst := some 16, op := .bin .add (.t 8) (.c (.i .i64 1)) },
  { dst := some 8, op := .mv (.t 16) }])))))))
 (.seq (.reg false [{ dst := some 17, op := .mv (.t 3) },
  { dst := some 2, op := .mv (.t 17) }])
 .ret)))) }
def A_cmp_isNaN_int : AFun := { res := [.t 2], body := (.seq (.reg false [{ dst := some 2, op := .mv (.c (.b false)) }])
 (.seq (.reg false [{ dst := some 3, op := .mv (.t 0) },
  { dst := some 4, op := .mv (.t 0) },
  { dst := some 5, op := .bin .neq (.t 3) (.t 4) },
  { dst := some 2, op := .mv (.t 5) }])
 .ret)) }
structure Pk_cmp (F : Funs) : Prop where
  cmp_Compare_int : F 248 = some A_cmp_Compare_int
  cmp_Or_int : F 249 = some A_cmp_Or_int
  cmp_isNaN_int : F 266 = some A_cmp_isNaN_int
end Go.Ab
end
section
namespace Go.Ab
def A_eco_Inner : AFun := { res := [.t 4], body := (.seq (.reg false [{ dst := some 2, op := .box (.t 0) },
  { dst := some 4, op := .mv (.c (.nilp)) }])
 (.seq (.reg false [{ dst := some 5, op := .ld (some 8) (.t 2) },
  { dst := some 6, op := .mv (.t 1) },
  { dst := some 7, op := .call .pure (.c (.fn 57 [] [])) [.t 5, .t 6, .c (.fn 58 [] [])] },
  { dst := some 4, op := .mv (.t 7) }])
 .ret)) }
def A_eco_Outer : AFun := { res := [.t 4], body := (.seq (.reg false [{ dst := some 2, op := .box (.t 0) },
  { dst := some 4, op := .mv (.c (.nilp)) }])
 (.seq (.reg false [{ dst := some 5, op := .ld (some 8) (.t 2) },
  { dst := some 6, op := .mv (.t 1) },
  { dst := some 7, op := .call .pure (.c (.fn 57 [] [])) [.t 5, .t 6, .c (.fn 59 [] [])] },
  { dst := some 4, op := .mv (.t 7) }])
 .ret)) }
def A_eco_Loc : AFun := { res := [.t 2], body := (.seq (.reg false [{ dst := some 1, op := .box (.t 0) },
  { dst := some 2, op := .mv (.c (.nilp)) }])
 (.seq (.reg true [{ dst := some 3, op := .ld (some 8) (.t 1), pre := [] },
  { dst := some 4, op := .ld (some 8) (.t 1), pre := [] },
  { dst := some 5, op := .call .pure (.c (.fn 60 [] [])) [.t 4], pre := [] },
  { dst := some 6, op := .call .pure (.c (.fn 57 [] [])) [.t 3, .t 5, .c (.fn 61 [] [])], pre := [] },
  { dst := some 2, op := .mv (.t 6) }])
 .ret)) }
def A_eco_Eco : AFun := { res := [.t 2], body := (.seq (.reg false [{ dst := some 1, op := .box (.t 0) },
  { dst := some 2, op := .mv (.c (.nilp)) }])
 (.seq (.reg true [{ dst := some 3, op := .ld (some 8) (.t 1), pre := [] },
  { dst := some 4, op := .call .pure (.c (.fn 48 [] [])) [.t 3], pre := [] },
  { dst := some 5, op := .ld (some 8) (.t 1), pre := [] },
  { dst := some 6, op := .call .pure (.c (.fn 49 [] [])) [.t 5], pre := [] },
  { dst := some 7, op := .call .pure (.c (.fn 24 [] [])) [.t 4, .t 6], pre := [] },
  { dst := some 8, op := .ld (some 8) (.t 1), pre := [] },
  { dst := some 9, op := .call .pure (.c (.fn 50 [] [])) [.t 8], pre := [] },
  { dst := some 10, op := .call .pure (.c (.fn 24 [] [])) [.t 7, .t 9], pre := [] },
  { dst := some 11, op := .call .pure (.c (.fn 12 [] [])) [.t 10], pre := [] },
  { dst := some 2, op := .mv (.t 11) }])
 .ret)) }
def A_eco_Rf : AFun := { res := [.t 2], body := (.seq (.reg false [{ dst := some 1, op := .box (.t 0) },
  { dst := some 2, op := .mv (.c (.nilp)) }])
 (.seq (.reg false [{ dst := some 3, op := .ld (some 8) (.t 1) },
  { dst := some 4, op := .call .pure (.c (.fn 80 [] [])) [.t 3, .c (.s ⟨#[114, 102]⟩)] },
  { dst := some 2, op := .mv (.t 4) }])
 .ret)) }
def A_eco_Co : AFun := { res := [.t 2], body := (.seq (.reg false [{ dst := some 1, op := .box (.t 0) },
  { dst := some 2, op := .mv (.c (.nilp)) }])
 (.seq (.reg false [{ dst := some 3, op := .ld (some 8) (.t 1) },
  { dst := some 4, op := .call .pure (.c (.fn 80 [] [])) [.t 3, .c (.s ⟨#[99, 111]⟩)] },
  { dst := some 2, op := .mv (.t 4) }])
 .ret)) }
def A_eco_Fr : AFun := { res := [.t 2], body := (.seq (.reg false [{ dst := some 1, op := .box (.t 0) },
  { dst := some 2, op := .mv (.c (.nilp)) }])
 (.seq (.reg false [{ dst := some 3, op := .ld (some 8) (.t 1) },
  { dst := some 4, op := .call .pure (.c (.fn 80 [] [])) [.t 3, .c (.s ⟨#[102, 114]⟩)] },
  { dst := some 2, op := .mv (.t 4) }])
 .ret)) }
def A_eco_some : AFun := { res := [.t 6], body := (.seq (.reg false [{ dst := some 3, op := .box (.t 0) },
  { dst := some 6, op := .mv (.c (.nilp)) }])
 (.seq (.reg false [{ dst := some 7, op := .mv (.c (.sl [] 0 .rig)) }])
 (.seq (.seq (.reg false [{ dst := some 10, op := .mv (.t 1) },
  { dst := some 11, op := .call .pure (.c (.fn 15 [] [])) [.t 10] },
  { dst := some 12, op := .len (.t 11) },
  { dst := some 13, op := .mv (.c (.i .i64 0)) }])
 (.blk 0 (.loop (.seq (.reg false [{ dst := some 14, op := .bin .lss (.t 13) (.t 12) }])
 (.seq (.cond (.t 14) .skip
 (.ext 0))
 (.seq (.blk 1 (.seq (.reg false [{ dst := some 15, op := .ia 2 (.t 11) (.t 13) },
  { dst := some 16, op := .ld (some 2) (.t 15) },
  { dst := some 9, op := .new ([.i .i64 0, .i .i64 0]) },
  { dst := none, op := .st 2 (.t 9) (.t 16) }])
 (.seq (.reg true [{ dst := some 17, op := .fa 0 (.t 9) },
  { dst := some 18, op := .ld none (.t 17), pre := [] },
  { dst := some 19, op := .fa 1 (.t 3) },
  { dst := some 20, op := .ld none (.t 19), pre := [] },
  { dst := some 21, op := .len (.t 20) },
  { dst := some 22, op := .bin .lss (.t 18) (.t 21) },
  { dst := some 23, op := .mv (.t 22) },
  { dst := some 24, op := .fa 1 (.t 9), grd := some (23, true) },
  { dst := some 25, op := .ld none (.t 24), grd := some (23, true), pre := [] },
  { dst := some 26, op := .fa 1 (.t 3), grd := some (23, true) },
  { dst := some 27, op := .ld none (.t 26), grd := some (23, true), pre := [] },
  { dst := some 28, op := .len (.t 27), grd := some (23, true) },
  { dst := some 29, op := .bin .lss (.t 25) (.t 28), grd := some (23, true) },
  { dst := some 30, op := .pick (.t 23) (.t 29) (.c (.b false)) },
  { dst := some 31, op := .mv (.t 30) },
  { dst := some 32, op := .mv (.t 2), grd := some (31, true) },
  { dst := some 33, op := .fa 1 (.t 3), grd := some (31, true) },
  { dst := some 34, op := .ld none (.t 33), grd := some (31, true), pre := [] },
  { dst := some 35, op := .fa 0 (.t 9), grd := some (31, true) },
  { dst := some 36, op := .ld none (.t 35), grd := some (31, true), pre := [] },
  { dst := some 37, op := .ia 6 (.t 34) (.t 36), grd := some (31, true) },
  { dst := some 38, op := .ld (some 6) (.t 37), grd := some (31, true), pre := [] },
  { dst := some 39, op := .fa 1 (.t 3), grd := some (31, true) },
  { dst := some 40, op := .ld none (.t 39), grd := some (31, true), pre := [] },
  { dst := some 41, op := .fa 1 (.t 9), grd := some (31, true) },
  { dst := some 42, op := .ld none (.t 41), grd := some (31, true), pre := [] },
  { dst := some 43, op := .ia 6 (.t 40) (.t 42), grd := some (31, true) },
  { dst := some 44, op := .ld (some 6) (.t 43), grd := some (31, true), pre := [] },
  { dst := some 45, op := .call .pure (.t 32) [.t 38, .t 44], grd := some (31, true), pre := [] },
  { dst := some 46, op := .pick (.t 31) (.t 45) (.c (.b false)) }])
 (.cond (.t 46) (.reg false [{ dst := some 47, op := .mv (.t 7) },
  { dst := some 48, op := .ld (some 2) (.t 9) },
  { dst := some 49, op := .bsl true 1 ([.i .i64 0, .i .i64 0]) [(0, 2, .t 48)] },
  { dst := some 50, op := .app 2 16 (.t 47) (.t 49) },
  { dst := some 7, op := .mv (.t 50) }])
 .skip))))
 (.reg false [{ dst := some 51, op := .bin .add (.t 13) (.c (.i .i64 1)) },
  { dst := some 13, op := .mv (.t 51) }])))))))
 (.seq (.reg false [{ dst := some 52, op := .ld (some 8) (.t 3) },
  { dst := some 53, op := .mv (.t 7) },
  { dst := some 54, op := .call .pure (.c (.fn 81 [] [])) [.t 52, .t 53] },
  { dst := some 6, op := .mv (.t 54) }])
 .ret)))) }
def A_eco_Inner_1 : AFun := { res := [.t 4], body := (.seq (.reg false [{ dst := some 2, op := .box (.t 0) },
  { dst := some 3, op := .box (.t 1) },
  { dst := some 4, op := .mv (.c (.b false)) }])
 (.seq (.reg false [{ dst := some 5, op := .fa 0 (.t 2) },
  { dst := some 6, op := .ld none (.t 5) },
  { dst := some 7, op := .fa 0 (.t 3) },
  { dst := some 8, op := .ld none (.t 7) },
  { dst := some 9, op := .bin .eql (.t 6) (.t 8) },
  { dst := some 4, op := .mv (.t 9) }])
 .ret)) }
def A_eco_Outer_1 : AFun := { res := [.t 4], body := (.seq (.reg false [{ dst := some 2, op := .box (.t 0) },
  { dst := some 3, op := .box (.t 1) },
  { dst := some 4, op := .mv (.c (.b false)) }])
 (.seq (.reg false [{ dst := some 5, op := .fa 0 (.t 2) },
  { dst := some 6, op := .ld none (.t 5) },
  { dst := some 7, op := .fa 0 (.t 3) },
  { dst := some 8, op := .ld none (.t 7) },
  { dst := some 9, op := .bin .neq (.t 6) (.t 8) },
  { dst := some 4, op := .mv (.t 9) }])
 .ret)) }
def A_eco_Loc_1 : AFun := { res := [.t 4], body := (.seq (.reg false [{ dst := some 2, op := .box (.t 0) },
  { dst := some 3, op := .box (.t 1) },
  { dst := some 4, op := .mv (.c (.b false)) }])
 (.seq (.reg false [{ dst := some 5, op := .fa 1 (.t 2) },
  { dst := some 6, op := .ld none (.t 5) },
  { dst := some 7, op := .bin .neq (.t 6) (.c (.i .i64 3)) },
  { dst := some 8, op := .mv (.t 7) },
  { dst := some 9, op := .fa 1 (.t 3), grd := some (8, true) },
  { dst := some 10, op := .ld none (.t 9), grd := some (8, true) },
  { dst := some 11, op := .bin .neq (.t 10) (.c (.i .i64 3)), grd := some (8, true) },
  { dst := some 12, op := .pick (.t 8) (.t 11) (.c (.b false)) },
  { dst := some 13, op := .mv (.t 12) },
  { dst := some 14, op := .fa 3 (.t 2), grd := some (13, true) },
  { dst := some 15, op := .ld none (.t 14), grd := some (13, true) },
  { dst := some 16, op := .fa 3 (.t 3), grd := some (13, true) },
  { dst := some 17, op := .ld none (.t 16), grd := some (13, true) },
  { dst := some 18, op := .bin .eql (.t 15) (.t 17), grd := some (13, true) },
  { dst := some 19, op := .pick (.t 13) (.t 18) (.c (.b false)) },
  { dst := some 4, op := .mv (.t 19) }])
 .ret)) }
def A_eco_pairs : AFun := { res := [.t 4], body := (.seq (.reg false [{ dst := some 2, op := .box (.t 0) },
  { dst := some 4, op := .mv (.c (.nilp)) }])
 (.seq (.reg false [{ dst := some 5, op := .new ([.sl [] 0 .rig]) }])
 (.seq (.reg false [{ dst := some 12, op := .mkfn 92 [] [.t 5] },
  { dst := some 6, op := .new ([.nilf]) },
  { dst := none, op := .st 1 (.t 6) (.t 12) }])
 (.seq (.reg false [{ dst := some 13, op := .mkfn 93 [] [.t 2, .t 6] },
  { dst := some 7, op := .new ([.nilf]) },
  { dst := none, op := .st 1 (.t 7) (.t 13) }])
 (.seq (.reg false [{ dst := some 14, op := .mkmap },
  { dst := some 15, op := .mkfn 94 [] [.t 6] },
  { dst := none, op := .mput (.t 14) (.c (.s ⟨#[114, 102]⟩)) (.t 15) },
  { dst := some 16, op := .mkfn 95 [] [.t 7] },
  { dst := none, op := .mput (.t 14) (.c (.s ⟨#[99, 111]⟩)) (.t 16) },
  { dst := some 17, op := .mkfn 96 [] [.t 7] },
  { dst := none, op := .mput (.t 14) (.c (.s ⟨#[102, 114]⟩)) (.t 17) },
  { dst := some 18, op := .mv (.t 14) },
  { dst := some 8, op := .mv (.t 18) }])
 (.seq (.seq (.reg false [{ dst := some 19, op := .fa 1 (.t 2) },
  { dst := some 20, op := .ld none (.t 19) },
  { dst := some 21, op := .len (.t 20) },
  { dst := some 22, op := .mv (.c (.i .i64 0)) }])
 (.blk 0 (.loop (.seq (.reg false [{ dst := some 23, op := .bin .lss (.t 22) (.t 21) }])
 (.seq (.cond (.t 23) .skip
 (.ext 0))
 (.seq (.blk 1 (.seq (.reg false [{ dst := some 24, op := .mv (.t 22) },
  { dst := some 25, op := .ia 6 (.t 20) (.t 22) },
  { dst := some 26, op := .ld (some 6) (.t 25) },
  { dst := some 10, op := .new (List.replicate 5 (.i .i64 0) ++ [.b false]) },
  { dst := some 9, op := .mv (.t 24) },
  { dst := none, op := .st 6 (.t 10) (.t 26) }])
 (.seq (.reg false [{ dst := some 11, op := .mv (.c (.i .i64 (-1))) }])
 (.seq (.seq (.reg false [{ dst := some 27, op := .mv (.t 9) },
  { dst := some 28, op := .fa 2 (.t 2) },
  { dst := some 29, op := .ld none (.t 28) },
  { dst := some 30, op := .len (.t 29) },
  { dst := some 31, op := .bin .lss (.t 27) (.t 30) }])
 (.cond (.t 31) (.reg false [{ dst := some 32, op := .fa 2 (.t 2) },
  { dst := some 33, op := .ld none (.t 32) },
  { dst := some 34, op := .mv (.t 9) },
  { dst := some 35, op := .ia 1 (.t 33) (.t 34) },
  { dst := some 36, op := .ld none (.t 35) },
  { dst := some 11, op := .mv (.t 36) }])
 .skip))
 (.reg false [{ dst := some 37, op := .mv (.t 8) },
  { dst := some 38, op := .mv (.t 1) },
  { dst := some 39, op := .mget (.t 37) (.t 38) },
  { dst := some 40, op := .mv (.t 9) },
  { dst := some 41, op := .mv (.t 11) },
  { dst := some 42, op := .ld (some 6) (.t 10) },
  { dst := some 43, op := .call .raw (.t 39) [.t 40, .t 41, .t 42] }])))))
 (.reg false [{ dst := some 44, op := .bin .add (.t 22) (.c (.i .i64 1)) },
  { dst := some 22, op := .mv (.t 44) }])))))))
 (.seq (.reg false [{ dst := some 45, op := .ld (some 8) (.t 2) },
  { dst := some 46, op := .ld none (.t 5) },
  { dst := some 47, op := .call .pure (.c (.fn 81 [] [])) [.t 45, .t 46] },
  { dst := some 4, op := .mv (.t 47) }])
 .ret))))))) }
def A_eco_pairs_1 : AFun := { res := [], body := (.reg false [{ dst := some 5, op := .ld none (.t 2) },
  { dst := some 6, op := .mv (.t 0) },
  { dst := some 7, op := .mv (.t 1) },
  { dst := some 8, op := .build ([.i .i64 0, .i .i64 0]) [(0, 1, .t 6), (1, 1, .t 7)] },
  { dst := some 9, op := .bsl true 1 ([.i .i64 0, .i .i64 0]) [(0, 2, .t 8)] },
  { dst := some 10, op := .app 2 16 (.t 5) (.t 9) },
  { dst := none, op := .st 1 (.t 2) (.t 10) }]) }
def A_eco_pairs_2 : AFun := { res := [], body := (.seq (.reg false [{ dst := some 11, op := .fa 3 (.t 2) },
  { dst := some 12, op := .ld none (.t 11) },
  { dst := some 13, op := .len (.t 12) },
  { dst := some 14, op := .mv (.c (.i .i64 0)) }])
 (.blk 0 (.loop (.seq (.reg false [{ dst := some 15, op := .bin .lss (.t 14) (.t 13) }])
 (.seq (.cond (.t 15) .skip
 (.ext 0))
 (.seq (.blk 1 (.seq (.reg false [{ dst := some 16, op := .ia 1 (.t 12) (.t 14) },
  { dst := some 17, op := .ld none (.t 16) },
  { dst := some 7, op := .mv (.t 17) }])
 (.seq (.reg false [{ dst := some 8, op := .mv (.c (.b false)) }])
 (.seq (.reg false [{ dst := some 18, op := .mv (.t 7) },
  { dst := some 19, op := .len (.t 18) },
  { dst := some 20, op := .mv (.c (.i .i64 0)) }])
 (.blk 2 (.loop (.seq (.reg false [{ dst := some 21, op := .bin .lss (.t 20) (.t 19) }])
 (.seq (.cond (.t 21) .skip
 (.ext 2))
 (.seq (.blk 3 (.seq (.reg false [{ dst := some 22, op := .ia 1 (.t 18) (.t 20) },
  { dst := some 23, op := .ld none (.t 22) },
  { dst := some 10, op := .mv (.t 23) }])
 (.seq (.seq (.reg false [{ dst := some 24, op := .mv (.t 8) }])
 (.cond (.t 24) (.reg false [{ dst := some 25, op := .ld none (.t 3) },
  { dst := some 26, op := .mv (.t 0) },
  { dst := some 27, op := .mv (.t 10) },
  { dst := some 28, op := .call .raw (.t 25) [.t 26, .t 27] }])
 .skip))
 (.reg false [{ dst := some 29, op := .mv (.t 8) },
  { dst := some 30, op := .mv (.t 29) },
  { dst := some 31, op := .mv (.t 10), grd := some (30, false) },
  { dst := some 32, op := .mv (.t 1), grd := some (30, false) },
  { dst := some 33, op := .bin .eql (.t 31) (.t 32), grd := some (30, false) },
  { dst := some 34, op := .pick (.t 30) (.c (.b true)) (.t 33) },
  { dst := some 8, op := .mv (.t 34) }]))))
 (.reg false [{ dst := some 35, op := .bin .add (.t 20) (.c (.i .i64 1)) },
  { dst := some 20, op := .mv (.t 35) }]))))))))))
 (.reg false [{ dst := some 36, op := .bin .add (.t 14) (.c (.i .i64 1)) },
  { dst := some 14, op := .mv (.t 36) }]))))))) }
def A_eco_pairs_3 : AFun := { res := [], body := (.seq (.reg false [{ dst := some 6, op := .box (.t 2) }])
 (.seq (.reg false [{ dst := some 7, op := .fa 1 (.t 6) },
  { dst := some 8, op := .ld none (.t 7) },
  { dst := some 9, op := .bin .eql (.t 8) (.c (.i .i64 1)) }])
 (.cond (.t 9) (.reg false [{ dst := some 10, op := .ld none (.t 3) },
  { dst := some 11, op := .mv (.t 1) },
  { dst := some 12, op := .mv (.t 0) },
  { dst := some 13, op := .call .raw (.t 10) [.t 11, .t 12] }])
 .skip))) }
def A_eco_pairs_4 : AFun := { res := [], body := (.seq (.reg false [{ dst := some 6, op := .box (.t 2) }])
 (.seq (.reg false [{ dst := some 7, op := .fa 1 (.t 6) },
  { dst := some 8, op := .ld none (.t 7) },
  { dst := some 9, op := .bin .eql (.t 8) (.c (.i .i64 2)) }])
 (.cond (.t 9) (.reg false [{ dst := some 10, op := .ld none (.t 3) },
  { dst := some 11, op := .mv (.t 0) },
  { dst := some 12, op := .mv (.t 0) },
  { dst := some 13, op := .call .raw (.t 10) [.t 11, .t 12] }])
 .skip))) }
def A_eco_pairs_5 : AFun := { res := [], body := (.seq (.reg false [{ dst := some 6, op := .box (.t 2) }])
 (.seq (.reg false [{ dst := some 7, op := .fa 1 (.t 6) },
  { dst := some 8, op := .ld none (.t 7) },
  { dst := some 9, op := .bin .eql (.t 8) (.c (.i .i64 1)) }])
 (.cond (.t 9) (.reg false [{ dst := some 10, op := .ld none (.t 3) },
  { dst := some 11, op := .mv (.t 0) },
  { dst := some 12, op := .mv (.t 1) },
  { dst := some 13, op := .call .raw (.t 10) [.t 11, .t 12] }])
 .skip))) }
structure Pk_eco (F : Funs) : Prop where
  eco_Inner : F 39 = some A_eco_Inner
  eco_Outer : F 40 = some A_eco_Outer
  eco_Loc : F 41 = some A_eco_Loc
  eco_Eco : F 42 = some A_eco_Eco
  eco_Rf : F 48 = some A_eco_Rf
  eco_Co : F 49 = some A_eco_Co
  eco_Fr : F 50 = some A_eco_Fr
  eco_some : F 57 = some A_eco_some
  eco_Inner_1 : F 58 = some A_eco_Inner_1
  eco_Outer_1 : F 59 = some A_eco_Outer_1
  eco_Loc_1 : F 61 = some A_eco_Loc_1
  eco_pairs : F 80 = some A_eco_pairs
  eco_pairs_1 : F 92 = some A_eco_pairs_1
  eco_pairs_2 : F 93 = some A_eco_pairs_2
  eco_pairs_3 : F 94 = some A_eco_pairs_3
  eco_pairs_4 : F 95 = some A_eco_pairs_4
  eco_pairs_5 : F 96 = some A_eco_pairs_5
end Go.Ab
end
section
namespace Go.Ab
def A_xlaw00_FewGraph : AFun := { res := [.t 2], body := (.seq (.reg false [{ dst := some 1, op := .box (.t 0) },
  { dst := some 2, op := .mv (.c (.b false)) }])
 (.seq (.seq (.reg false [{ dst := some 3, op := .mv (.c (.i .i64 0)) }])
 (.blk 0 (.loop (.seq (.seq (.reg false [{ dst := some 4, op := .mv (.t 3) },
  { dst := some 5, op := .fa 3 (.t 1) },
  { dst := some 6, op := .ld none (.t 5) },
  { dst := some 7, op := .len (.t 6) },
  { dst := some 8, op := .bin .lss (.t 4) (.t 7) },
  { dst := some 9, op := .mv (.t 8) },
  { dst := some 10, op := .mv (.t 3), grd := some (9, true) },
  { dst := some 11, op := .bin .lss (.t 10) (.c (.i .i64 6)), grd := some (9, true) },
  { dst := some 12, op := .pick (.t 9) (.t 11) (.c (.b false)) }])
 (.cond (.t 12) .skip
 (.ext 0)))
 (.seq (.blk 1 (.seq (.reg false [{ dst := some 15, op := .fa 3 (.t 1) },
  { dst := some 16, op := .ld none (.t 15) },
  { dst := some 17, op := .mv (.t 3) },
  { dst := some 18, op := .ia 1 (.t 16) (.t 17) },
  { dst := some 19, op := .ld none (.t 18) },
  { dst := some 20, op := .len (.t 19) },
  { dst := some 21, op := .bin .gtr (.t 20) (.c (.i .i64 50)) }])
 (.cond (.t 21) (.seq (.reg false [{ dst := some 2, op := .mv (.c (.b false)) }])
 .ret)
 .skip)))
 (.reg false [{ dst := some 13, op := .mv (.t 3) },
  { dst := some 14, op := .bin .add (.t 13) (.c (.i .i64 1)) },
  { dst := some 3, op := .mv (.t 14) }]))))))
 (.seq (.reg false [{ dst := some 22, op := .fa 1 (.t 1) },
  { dst := some 23, op := .ld none (.t 22) },
  { dst := some 24, op := .len (.t 23) },
  { dst := some 25, op := .bin .leq (.t 24) (.c (.i .i64 50)) },
  { dst := some 26, op := .mv (.t 25) },
  { dst := some 27, op := .fa 2 (.t 1), grd := some (26, true) },
  { dst := some 28, op := .ld none (.t 27), grd := some (26, true) },
  { dst := some 29, op := .len (.t 28), grd := some (26, true) },
  { dst := some 30, op := .bin .leq (.t 29) (.c (.i .i64 60)), grd := some (26, true) },
  { dst := some 31, op := .pick (.t 26) (.t 30) (.c (.b false)) },
  { dst := some 32, op := .mv (.t 31) },
  { dst := some 33, op := .fa 3 (.t 1), grd := some (32, true) },
  { dst := some 34, op := .ld none (.t 33), grd := some (32, true) },
  { dst := some 35, op := .len (.t 34), grd := some (32, true) },
  { dst := some 36, op := .bin .leq (.t 35) (.c (.i .i64 6)), grd := some (32, true) },
  { dst := some 37, op := .pick (.t 32) (.t 36) (.c (.b false)) },
  { dst := some 38, op := .mv (.t 37) },
  { dst := some 39, op := .fa 4 (.t 1), grd := some (38, true) },
  { dst := some 40, op := .ld none (.t 39), grd := some (38, true) },
  { dst := some 41, op := .len (.t 40), grd := some (38, true) },
  { dst := some 42, op := .bin .leq (.t 41) (.c (.i .i64 50)), grd := some (38, true) },
  { dst := some 43, op := .pick (.t 38) (.t 42) (.c (.b false)) },
  { dst := some 44, op := .mv (.t 43) },
  { dst := some 45, op := .fa 5 (.t 1), grd := some (44, true) },
  { dst := some 46, op := .ld none (.t 45), grd := some (44, true) },
  { dst := some 47, op := .len (.t 46), grd := some (44, true) },
  { dst := some 48, op := .bin .leq (.t 47) (.c (.i .i64 300)), grd := some (44, true) },
  { dst := some 49, op := .pick (.t 44) (.t 48) (.c (.b false)) },
  { dst := some 50, op := .mv (.t 49) },
  { dst := some 51, op := .fa 6 (.t 1), grd := some (50, true) },
  { dst := some 52, op := .ld none (.t 51), grd := some (50, true) },
  { dst := some 53, op := .len (.t 52), grd := some (50, true) },
  { dst := some 54, op := .bin .leq (.t 53) (.c (.i .i64 300)), grd := some (50, true) },
  { dst := some 55, op := .pick (.t 50) (.t 54) (.c (.b false)) },
  { dst := some 56, op := .mv (.t 55) },
  { dst := some 57, op := .fa 7 (.t 1), grd := some (56, true) },
  { dst := some 58, op := .ld none (.t 57), grd := some (56, true) },
  { dst := some 59, op := .len (.t 58), grd := some (56, true) },
  { dst := some 60, op := .bin .leq (.t 59) (.c (.i .i64 300)), grd := some (56, true) },
  { dst := some 61, op := .pick (.t 56) (.t 60) (.c (.b false)) },
  { dst := some 2, op := .mv (.t 61) }])
 .ret))) }
end Go.Ab
end
section
namespace Go.Ab
def A_xlaw12_awake : AFun := { res := [.t 0], body := (.seq (.reg false [{ dst := some 0, op := .mv (.c (.b false)) }])
 (.seq (.reg false [{ dst := some 1, op := .call .pure (.c (.fn 218 [] [])) [.c (.b true)] },
  { dst := some 2, op := .call .pure (.c (.fn 217 [] [])) [.t 1] },
  { dst := some 3, op := .un .not (.t 2) },
  { dst := some 4, op := .mv (.t 3) },
  { dst := some 5, op := .call .pure (.c (.fn 218 [] [])) [.c (.b false)], grd := some (4, true) },
  { dst := some 6, op := .call .pure (.c (.fn 217 [] [])) [.t 5], grd := some (4, true) },
  { dst := some 7, op := .pick (.t 4) (.t 6) (.c (.b false)) },
  { dst := some 8, op := .mv (.t 7) },
  { dst := some 9, op := .call .pure (.c (.fn 218 [] [])) [.c (.b false)], grd := some (8, true) },
  { dst := some 10, op := .call .pure (.c (.fn 161 [] [])) [.t 9], grd := some (8, true) },
  { dst := some 11, op := .pick (.t 8) (.t 10) (.c (.b false)) },
  { dst := some 12, op := .mv (.t 11) },
  { dst := some 13, op := .call .pure (.c (.fn 218 [] [])) [.c (.b true)], grd := some (12, true) },
  { dst := some 14, op := .call .pure (.c (.fn 164 [] [])) [.t 13], grd := some (12, true) },
  { dst := some 15, op := .pick (.t 12) (.t 14) (.c (.b false)) },
  { dst := some 16, op := .mv (.t 15) },
  { dst := some 17, op := .call .pure (.c (.fn 218 [] [])) [.c (.b true)], grd := some (16, true) },
  { dst := some 18, op := .call .pure (.c (.fn 162 [] [])) [.t 17], grd := some (16, true) },
  { dst := some 19, op := .pick (.t 16) (.t 18) (.c (.b false)) },
  { dst := some 20, op := .mv (.t 19) },
  { dst := some 21, op := .build ([.i .i64 0] ++ List.replicate 7 (.sl [] 0 .rig)) [], grd := some (20, true) },
  { dst := some 22, op := .call .pure (.c (.fn 161 [] [])) [.t 21], grd := some (20, true) },
  { dst := some 23, op := .un .not (.t 22), grd := some (20, true) },
  { dst := some 24, op := .pick (.t 20) (.t 23) (.c (.b false)) },
  { dst := some 0, op := .mv (.t 24) }])
 .ret)) }
def A_xlaw12_loop : AFun := { res := [.cell 2 (some 8)], body := (.seq (.reg false [{ dst := some 2, op := .new ([.i .i64 0] ++ List.replicate 7 (.sl [] 0 .rig)) }])
 (.seq (.reg false [{ dst := some 5, op := .build (List.replicate 5 (.i .i64 0) ++ [.b false]) [(1, 1, .c (.i .i64 2))] },
  { dst := some 6, op := .build (List.replicate 5 (.i .i64 0) ++ [.b false]) [(1, 1, .c (.i .i64 2)), (3, 1, .c (.i .i64 1))] },
  { dst := some 7, op := .build (List.replicate 5 (.i .i64 0) ++ [.b false]) [(0, 1, .c (.i .i64 1)), (1, 1, .c (.i .i64 1)), (4, 1, .c (.i .i64 1))] },
  { dst := some 8, op := .build (List.replicate 5 (.i .i64 0) ++ [.b false]) [(0, 1, .c (.i .i64 1)), (1, 1, .c (.i .i64 2)), (3, 1, .c (.i .i64 1)), (4, 1, .c (.i .i64 1))] },
  { dst := some 9, op := .build (List.replicate 5 (.i .i64 0) ++ [.b false]) [(0, 1, .c (.i .i64 2)), (1, 1, .c (.i .i64 1)), (3, 1, .c (.i .i64 1)), (4, 1, .c (.i .i64 1))] },
  { dst := some 10, op := .build (List.replicate 5 (.i .i64 0) ++ [.b false]) [(0, 1, .c (.i .i64 2)), (1, 1, .c (.i .i64 2)), (4, 1, .c (.i .i64 1))] },
  { dst := some 11, op := .bsl true 6 (List.replicate 5 (.i .i64 0) ++ [.b false] ++ List.replicate 5 (.i .i64 0) ++ [.b false] ++ List.replicate 5 (.i .i64 0) ++ [.b false] ++ List.replicate 5 (.i .i64 0) ++ [.b false] ++ List.replicate 5 (.i .i64 0) ++ [.b false] ++ List.replicate 5 (.i .i64 0) ++ [.b false]) [(0, 6, .t 5), (6, 6, .t 6), (12, 6, .t 7), (18, 6, .t 8), (24, 6, .t 9), (30, 6, .t 10)] },
  { dst := some 3, op := .mv (.t 11) }])
 (.seq (.reg false [{ dst := some 12, op := .mv (.t 3) },
  { dst := some 13, op := .bsl true 6 (List.replicate 6 (.i .i64 0)) [(0, 1, .c (.i .i64 (-1))), (1, 1, .c (.i .i64 (-1))), (2, 1, .c (.i .i64 5)), (3, 1, .c (.i .i64 (-1))), (4, 1, .c (.i .i64 3)), (5, 1, .c (.i .i64 (-1)))] },
  { dst := some 14, op := .bsl true 2 ([.i .i64 0, .i .i64 0]) [(0, 1, .c (.i .i64 0)), (1, 1, .c (.i .i64 5))] },
  { dst := some 15, op := .bsl true 2 ([.i .i64 0, .i .i64 0]) [(0, 1, .c (.i .i64 1)), (1, 1, .c (.i .i64 3))] },
  { dst := some 16, op := .bsl true 2 ([.sl [] 0 .rig, .sl [] 0 .rig]) [(0, 1, .t 14), (1, 1, .t 15)] },
  { dst := some 17, op := .build ([.i .i64 0] ++ List.replicate 7 (.sl [] 0 .rig)) [(0, 1, .c (.i .i64 2)), (1, 1, .t 12), (2, 1, .t 13), (3, 1, .t 16)] },
  { dst := some 4, op := .new ([.i .i64 0] ++ List.replicate 7 (.sl [] 0 .rig)) },
  { dst := none, op := .st 8 (.t 4) (.t 17) }])
 (.seq (.seq (.reg false [{ dst := some 18, op := .mv (.t 0) }])
 (.cond (.t 18) (.reg false [{ dst := some 19, op := .build ([.i .i64 0, .i .i64 0]) [(0, 1, .c (.i .i64 2)), (1, 1, .c (.i .i64 3))] },
  { dst := some 20, op := .build ([.i .i64 0, .i .i64 0]) [(0, 1, .c (.i .i64 4)), (1, 1, .c (.i .i64 5))] },
  { dst := some 21, op := .bsl true 2 (List.replicate 4 (.i .i64 0)) [(0, 2, .t 19), (2, 2, .t 20)] },
  { dst := some 22, op := .fa 5 (.t 4) },
  { dst := none, op := .st 1 (.t 22) (.t 21) }])
 .skip))
 (.seq (.reg false [{ dst := some 23, op := .ld (some 8) (.t 4) },
  { dst := none, op := .st 8 (.t 2) (.t 23) }])
 .ret))))) }
def A_xlaw12_ImmAny : AFun := { res := [.t 2], body := (.seq (.reg false [{ dst := some 1, op := .box (.t 0) },
  { dst := some 2, op := .mv (.c (.b false)) }])
 (.seq (.seq (.reg false [{ dst := some 3, op := .ld (some 8) (.t 1) },
  { dst := some 4, op := .call .pure (.c (.fn 44 [] [])) [.t 3] },
  { dst := some 5, op := .un .not (.t 4) },
  { dst := some 6, op := .mv (.t 5) },
  { dst := some 7, op := .fa 1 (.t 1), grd := some (6, false) },
  { dst := some 8, op := .ld none (.t 7), grd := some (6, false) },
  { dst := some 9, op := .len (.t 8), grd := some (6, false) },
  { dst := some 10, op := .bin .gtr (.t 9) (.c (.i .i64 20)), grd := some (6, false) },
  { dst := some 11, op := .pick (.t 6) (.c (.b true)) (.t 10) }])
 (.cond (.t 11) (.seq (.reg false [{ dst := some 12, op := .call .pure (.c (.fn 163 [] [])) [] },
  { dst := some 2, op := .mv (.t 12) }])
 .ret)
 .skip))
 (.seq (.seq (.reg false [{ dst := some 13, op := .ld (some 8) (.t 1) },
  { dst := some 14, op := .call .pure (.c (.fn 45 [] [])) [.t 13] },
  { dst := some 15, op := .un .not (.t 14) }])
 (.cond (.t 15) (.seq (.reg false [{ dst := some 16, op := .ld (some 8) (.t 1) },
  { dst := some 17, op := .call .pure (.c (.fn 161 [] [])) [.t 16] },
  { dst := some 18, op := .un .not (.t 17) },
  { dst := some 19, op := .mv (.t 18) },
  { dst := some 20, op := .call .pure (.c (.fn 163 [] [])) [], grd := some (19, true) },
  { dst := some 21, op := .pick (.t 19) (.t 20) (.c (.b false)) },
  { dst := some 2, op := .mv (.t 21) }])
 .ret)
 .skip))
 (.seq (.reg false [{ dst := some 22, op := .ld (some 8) (.t 1) },
  { dst := some 23, op := .call .pure (.c (.fn 253 [] [])) [.t 22] },
  { dst := some 24, op := .mv (.t 23) },
  { dst := some 25, op := .call .pure (.c (.fn 163 [] [])) [], grd := some (24, true) },
  { dst := some 26, op := .pick (.t 24) (.t 25) (.c (.b false)) },
  { dst := some 2, op := .mv (.t 26) }])
 .ret)))) }
def A_xlaw12_all : AFun := { res := [.t 2], body := (.seq (.reg false [{ dst := some 1, op := .box (.t 0) },
  { dst := some 2, op := .mv (.c (.b false)) }])
 (.seq (.reg true [{ dst := some 3, op := .ld (some 8) (.t 1), pre := [] },
  { dst := some 4, op := .call .pure (.c (.fn 164 [] [])) [.t 3], pre := [] },
  { dst := some 5, op := .ld (some 8) (.t 1), pre := [] },
  { dst := some 6, op := .call .pure (.c (.fn 261 [] [])) [.t 5], pre := [] },
  { dst := some 7, op := .eqb false (.t 4) (.t 6) },
  { dst := some 8, op := .mv (.t 7) },
  { dst := some 9, op := .ld (some 8) (.t 1), grd := some (8, true), pre := [] },
  { dst := some 10, op := .call .pure (.c (.fn 162 [] [])) [.t 9], grd := some (8, true), pre := [] },
  { dst := some 11, op := .ld (some 8) (.t 1), grd := some (8, true), pre := [] },
  { dst := some 12, op := .call .pure (.c (.fn 262 [] [])) [.t 11], grd := some (8, true), pre := [] },
  { dst := some 13, op := .eqb false (.t 10) (.t 12), grd := some (8, true) },
  { dst := some 14, op := .pick (.t 8) (.t 13) (.c (.b false)) },
  { dst := some 15, op := .mv (.t 14) },
  { dst := some 16, op := .ld (some 8) (.t 1), grd := some (15, true), pre := [] },
  { dst := some 17, op := .call .pure (.c (.fn 217 [] [])) [.t 16], grd := some (15, true), pre := [] },
  { dst := some 18, op := .ld (some 8) (.t 1), grd := some (15, true), pre := [] },
  { dst := some 19, op := .call .pure (.c (.fn 263 [] [])) [.t 18], grd := some (15, true), pre := [] },
  { dst := some 20, op := .eqb false (.t 17) (.t 19), grd := some (15, true) },
  { dst := some 21, op := .pick (.t 15) (.t 20) (.c (.b false)) },
  { dst := some 22, op := .mv (.t 21) },
  { dst := some 23, op := .ld (some 8) (.t 1), grd := some (22, true), pre := [] },
  { dst := some 24, op := .call .pure (.c (.fn 161 [] [])) [.t 23], grd := some (22, true), pre := [] },
  { dst := some 25, op := .ld (some 8) (.t 1), grd := some (22, true), pre := [] },
  { dst := some 26, op := .call .pure (.c (.fn 264 [] [])) [.t 25], grd := some (22, true), pre := [] },
  { dst := some 27, op := .eqb false (.t 24) (.t 26), grd := some (22, true) },
  { dst := some 28, op := .pick (.t 22) (.t 27) (.c (.b false)) },
  { dst := some 2, op := .mv (.t 28) }])
 .ret)) }
end Go.Ab
end
section
namespace Go.Ab
def A_xref01_New : AFun := { res := [.t 4], body := (.seq (.reg false [{ dst := some 4, op := .mv (.c (.nilp)) }])
 (.seq (.reg false [{ dst := some 9, op := .mv (.t 0) },
  { dst := some 10, op := .mx (.t 9) (.c (.i .i64 0)) },
  { dst := some 11, op := .mn (.t 10) (.c (.i .i64 40)) },
  { dst := some 12, op := .build ([.i .i64 0] ++ List.replicate 1600 (.b false)) [(0, 1, .t 11)] },
  { dst := some 13, op := .box (.t 12) },
  { dst := some 5, op := .mv (.t 13) }])
 (.seq (.seq (.reg false [{ dst := some 6, op := .mv (.c (.i .i64 0)) }])
 (.blk 0 (.loop (.seq (.seq (.reg false [{ dst := some 14, op := .mv (.t 6) },
  { dst := some 15, op := .mv (.t 1) },
  { dst := some 16, op := .len (.t 15) },
  { dst := some 17, op := .bin .lss (.t 14) (.t 16) }])
 (.cond (.t 17) .skip
 (.ext 0)))
 (.seq (.blk 1 (.seq (.reg true [{ dst := some 20, op := .mv (.t 1) },
  { dst := some 21, op := .mv (.t 6) },
  { dst := some 22, op := .ia 2 (.t 20) (.t 21) },
  { dst := some 23, op := .fa 0 (.t 22) },
  { dst := some 24, op := .ld none (.t 23), pre := [] },
  { dst := some 25, op := .mv (.t 1) },
  { dst := some 26, op := .mv (.t 6) },
  { dst := some 27, op := .ia 2 (.t 25) (.t 26) },
  { dst := some 28, op := .fa 1 (.t 27) },
  { dst := some 29, op := .ld none (.t 28), pre := [] },
  { dst := some 7, op := .mv (.t 24) },
  { dst := some 8, op := .mv (.t 29) }])
 (.seq (.reg false [{ dst := some 30, op := .mv (.t 7) },
  { dst := some 31, op := .bin .geq (.t 30) (.c (.i .i64 0)) },
  { dst := some 32, op := .mv (.t 31) },
  { dst := some 33, op := .mv (.t 8), grd := some (32, true) },
  { dst := some 34, op := .bin .geq (.t 33) (.c (.i .i64 0)), grd := some (32, true) },
  { dst := some 35, op := .pick (.t 32) (.t 34) (.c (.b false)) },
  { dst := some 36, op := .mv (.t 35) },
  { dst := some 37, op := .mv (.t 7), grd := some (36, true) },
  { dst := some 38, op := .mv (.t 5), grd := some (36, true) },
  { dst := some 39, op := .nilck (.t 38), grd := some (36, true) },
  { dst := some 40, op := .fa 0 (.t 39), grd := some (36, true) },
  { dst := some 41, op := .ld none (.t 40), grd := some (36, true) },
  { dst := some 42, op := .bin .lss (.t 37) (.t 41), grd := some (36, true) },
  { dst := some 43, op := .pick (.t 36) (.t 42) (.c (.b false)) },
  { dst := some 44, op := .mv (.t 43) },
  { dst := some 45, op := .mv (.t 8), grd := some (44, true) },
  { dst := some 46, op := .mv (.t 5), grd := some (44, true) },
  { dst := some 47, op := .nilck (.t 46), grd := some (44, true) },
  { dst := some 48, op := .fa 0 (.t 47), grd := some (44, true) },
  { dst := some 49, op := .ld none (.t 48), grd := some (44, true) },
  { dst := some 50, op := .bin .lss (.t 45) (.t 49), grd := some (44, true) },
  { dst := some 51, op := .pick (.t 44) (.t 50) (.c (.b false)) }])
 (.cond (.t 51) (.reg false [{ dst := some 52, op := .mv (.t 5) },
  { dst := some 53, op := .mv (.t 7) },
  { dst := some 54, op := .mv (.t 8) },
  { dst := some 55, op := .nilck (.t 52) },
  { dst := some 56, op := .fa 1 (.t 55) },
  { dst := some 57, op := .iaa 40 40 (.t 56) (.t 53) },
  { dst := some 58, op := .iaa 40 1 (.t 57) (.t 54) },
  { dst := none, op := .st 1 (.t 58) (.c (.b true)) }])
 .skip))))
 (.reg false [{ dst := some 18, op := .mv (.t 6) },
  { dst := some 19, op := .bin .add (.t 18) (.c (.i .i64 1)) },
  { dst := some 6, op := .mv (.t 19) }]))))))
 (.seq (.reg false [{ dst := some 59, op := .mv (.t 5) },
  { dst := some 4, op := .mv (.t 59) }])
 .ret)))) }
def A_xref01_R_Or : AFun := { res := [.t 4], body := (.seq (.reg false [{ dst := some 4, op := .mv (.c (.nilp)) }])
 (.seq (.reg true [{ dst := some 8, op := .mv (.t 0) },
  { dst := some 9, op := .nilck (.t 8) },
  { dst := some 10, op := .fa 0 (.t 9) },
  { dst := some 11, op := .ld none (.t 10), pre := [] },
  { dst := some 12, op := .mv (.t 1) },
  { dst := some 13, op := .nilck (.t 12) },
  { dst := some 14, op := .fa 0 (.t 13) },
  { dst := some 15, op := .ld none (.t 14), pre := [] },
  { dst := some 16, op := .mx (.t 11) (.t 15) },
  { dst := some 17, op := .call .thaw (.c (.fn 27 [] [])) [.t 16, .c (.sl [] 0 .rig)], pre := [] },
  { dst := some 5, op := .mv (.t 17) }])
 (.seq (.seq (.reg false [{ dst := some 6, op := .mv (.c (.i .i64 0)) }])
 (.blk 0 (.loop (.seq (.seq (.reg false [{ dst := some 18, op := .mv (.t 6) },
  { dst := some 19, op := .mv (.t 5) },
  { dst := some 20, op := .nilck (.t 19) },
  { dst := some 21, op := .fa 0 (.t 20) },
  { dst := some 22, op := .ld none (.t 21) },
  { dst := some 23, op := .bin .lss (.t 18) (.t 22) }])
 (.cond (.t 23) .skip
 (.ext 0)))
 (.seq (.blk 1 (.seq (.reg false [{ dst := some 7, op := .mv (.c (.i .i64 0)) }])
 (.blk 2 (.loop (.seq (.seq (.reg false [{ dst := some 26, op := .mv (.t 7) },
  { dst := some 27, op := .mv (.t 5) },
  { dst := some 28, op := .nilck (.t 27) },
  { dst := some 29, op := .fa 0 (.t 28) },
  { dst := some 30, op := .ld none (.t 29) },
  { dst := some 31, op := .bin .lss (.t 26) (.t 30) }])
 (.cond (.t 31) .skip
 (.ext 2)))
 (.seq (.blk 3 (.reg true [{ dst := some 34, op := .mv (.t 5) },
  { dst := some 35, op := .mv (.t 6) },
  { dst := some 36, op := .mv (.t 7) },
  { dst := some 37, op := .mv (.t 0) },
  { dst := some 38, op := .mv (.t 6) },
  { dst := some 39, op := .mv (.t 7) },
  { dst := some 40, op := .nilck (.t 37) },
  { dst := some 41, op := .fa 1 (.t 40) },
  { dst := some 42, op := .iaa 40 40 (.t 41) (.t 38) },
  { dst := some 43, op := .iaa 40 1 (.t 42) (.t 39) },
  { dst := some 44, op := .ld none (.t 43), pre := [] },
  { dst := some 45, op := .mv (.t 44) },
  { dst := some 46, op := .mv (.t 1), grd := some (45, false) },
  { dst := some 47, op := .mv (.t 6), grd := some (45, false) },
  { dst := some 48, op := .mv (.t 7), grd := some (45, false) },
  { dst := some 49, op := .nilck (.t 46), grd := some (45, false) },
  { dst := some 50, op := .fa 1 (.t 49), grd := some (45, false) },
  { dst := some 51, op := .iaa 40 40 (.t 50) (.t 47), grd := some (45, false) },
  { dst := some 52, op := .iaa 40 1 (.t 51) (.t 48), grd := some (45, false) },
  { dst := some 53, op := .ld none (.t 52), grd := some (45, false), pre := [] },
  { dst := some 54, op := .pick (.t 45) (.c (.b true)) (.t 53) },
  { dst := some 55, op := .nilck (.t 34) },
  { dst := some 56, op := .fa 1 (.t 55) },
  { dst := some 57, op := .iaa 40 40 (.t 56) (.t 35) },
  { dst := some 58, op := .iaa 40 1 (.t 57) (.t 36) },
  { dst := none, op := .st 1 (.t 58) (.t 54), pre := [] }]))
 (.reg false [{ dst := some 32, op := .mv (.t 7) },
  { dst := some 33, op := .bin .add (.t 32) (.c (.i .i64 1)) },
  { dst := some 7, op := .mv (.t 33) }])))))))
 (.reg false [{ dst := some 24, op := .mv (.t 6) },
  { dst := some 25, op := .bin .add (.t 24) (.c (.i .i64 1)) },
  { dst := some 6, op := .mv (.t 25) }]))))))
 (.seq (.reg false [{ dst := some 59, op := .mv (.t 5) },
  { dst := some 4, op := .mv (.t 59) }])
 .ret)))) }
def A_xref01_R_And : AFun := { res := [.t 4], body := (.seq (.reg false [{ dst := some 4, op := .mv (.c (.nilp)) }])
 (.seq (.reg true [{ dst := some 8, op := .mv (.t 0) },
  { dst := some 9, op := .nilck (.t 8) },
  { dst := some 10, op := .fa 0 (.t 9) },
  { dst := some 11, op := .ld none (.t 10), pre := [] },
  { dst := some 12, op := .mv (.t 1) },
  { dst := some 13, op := .nilck (.t 12) },
  { dst := some 14, op := .fa 0 (.t 13) },
  { dst := some 15, op := .ld none (.t 14), pre := [] },
  { dst := some 16, op := .mx (.t 11) (.t 15) },
  { dst := some 17, op := .call .thaw (.c (.fn 27 [] [])) [.t 16, .c (.sl [] 0 .rig)], pre := [] },
  { dst := some 5, op := .mv (.t 17) }])
 (.seq (.seq (.reg false [{ dst := some 6, op := .mv (.c (.i .i64 0)) }])
 (.blk 0 (.loop (.seq (.seq (.reg false [{ dst := some 18, op := .mv (.t 6) },
  { dst := some 19, op := .mv (.t 5) },
  { dst := some 20, op := .nilck (.t 19) },
  { dst := some 21, op := .fa 0 (.t 20) },
  { dst := some 22, op := .ld none (.t 21) },
  { dst := some 23, op := .bin .lss (.t 18) (.t 22) }])
 (.cond (.t 23) .skip
 (.ext 0)))
 (.seq (.blk 1 (.seq (.reg false [{ dst := some 7, op := .mv (.c (.i .i64 0)) }])
 (.blk 2 (.loop (.seq (.seq (.reg false [{ dst := some 26, op := .mv (.t 7) },
  { dst := some 27, op := .mv (.t 5) },
  { dst := some 28, op := .nilck (.t 27) },
  { dst := some 29, op := .fa 0 (.t 28) },
  { dst := some 30, op := .ld none (.t 29) },
  { dst := some 31, op := .bin .lss (.t 26) (.t 30) }])
 (.cond (.t 31) .skip
 (.ext 2)))
 (.seq (.blk 3 (.reg true [{ dst := some 34, op := .mv (.t 5) },
  { dst := some 35, op := .mv (.t 6) },
  { dst := some 36, op := .mv (.t 7) },
  { dst := some 37, op := .mv (.t 0) },
  { dst := some 38, op := .mv (.t 6) },
  { dst := some 39, op := .mv (.t 7) },
  { dst := some 40, op := .nilck (.t 37) },
  { dst := some 41, op := .fa 1 (.t 40) },
  { dst := some 42, op := .iaa 40 40 (.t 41) (.t 38) },
  { dst := some 43, op := .iaa 40 1 (.t 42) (.t 39) },
  { dst := some 44, op := .ld none (.t 43), pre := [] },
  { dst := some 45, op := .mv (.t 44) },
  { dst := some 46, op := .mv (.t 1), grd := some (45, true) },
  { dst := some 47, op := .mv (.t 6), grd := some (45, true) },
  { dst := some 48, op := .mv (.t 7), grd := some (45, true) },
  { dst := some 49, op := .nilck (.t 46), grd := some (45, true) },
  { dst := some 50, op := .fa 1 (.t 49), grd := some (45, true) },
  { dst := some 51, op := .iaa 40 40 (.t 50) (.t 47), grd := some (45, true) },
  { dst := some 52, op := .iaa 40 1 (.t 51) (.t 48), grd := some (45, true) },
  { dst := some 53, op := .ld none (.t 52), grd := some (45, true), pre := [] },
  { dst := some 54, op := .pick (.t 45) (.t 53) (.c (.b false)) },
  { dst := some 55, op := .nilck (.t 34) },
  { dst := some 56, op := .fa 1 (.t 55) },
  { dst := some 57, op := .iaa 40 40 (.t 56) (.t 35) },
  { dst := some 58, op := .iaa 40 1 (.t 57) (.t 36) },
  { dst := none, op := .st 1 (.t 58) (.t 54), pre := [] }]))
 (.reg false [{ dst := some 32, op := .mv (.t 7) },
  { dst := some 33, op := .bin .add (.t 32) (.c (.i .i64 1)) },
  { dst := some 7, op := .mv (.t 33) }])))))))
 (.reg false [{ dst := some 24, op := .mv (.t 6) },
  { dst := some 25, op := .bin .add (.t 24) (.c (.i .i64 1)) },
  { dst := some 6, op := .mv (.t 25) }]))))))
 (.seq (.reg false [{ dst := some 59, op := .mv (.t 5) },
  { dst := some 4, op := .mv (.t 59) }])
 .ret)))) }
def A_xref01_R_Then : AFun := { res := [.t 4], body := (.seq (.reg false [{ dst := some 4, op := .mv (.c (.nilp)) }])
 (.seq (.reg true [{ dst := some 9, op := .mv (.t 0) },
  { dst := some 10, op := .nilck (.t 9) },
  { dst := some 11, op := .fa 0 (.t 10) },
  { dst := some 12, op := .ld none (.t 11), pre := [] },
  { dst := some 13, op := .mv (.t 1) },
  { dst := some 14, op := .nilck (.t 13) },
  { dst := some 15, op := .fa 0 (.t 14) },
  { dst := some 16, op := .ld none (.t 15), pre := [] },
  { dst := some 17, op := .mx (.t 12) (.t 16) },
  { dst := some 18, op := .call .thaw (.c (.fn 27 [] [])) [.t 17, .c (.sl [] 0 .rig)], pre := [] },
  { dst := some 5, op := .mv (.t 18) }])
 (.seq (.seq (.reg false [{ dst := some 6, op := .mv (.c (.i .i64 0)) }])
 (.blk 0 (.loop (.seq (.seq (.reg false [{ dst := some 19, op := .mv (.t 6) },
  { dst := some 20, op := .mv (.t 5) },
  { dst := some 21, op := .nilck (.t 20) },
  { dst := some 22, op := .fa 0 (.t 21) },
  { dst := some 23, op := .ld none (.t 22) },
  { dst := some 24, op := .bin .lss (.t 19) (.t 23) }])
 (.cond (.t 24) .skip
 (.ext 0)))
 (.seq (.blk 1 (.seq (.reg false [{ dst := some 7, op := .mv (.c (.i .i64 0)) }])
 (.blk 2 (.loop (.seq (.seq (.reg false [{ dst := some 27, op := .mv (.t 7) },
  { dst := some 28, op := .mv (.t 5) },
  { dst := some 29, op := .nilck (.t 28) },
  { dst := some 30, op := .fa 0 (.t 29) },
  { dst := some 31, op := .ld none (.t 30) },
  { dst := some 32, op := .bin .lss (.t 27) (.t 31) }])
 (.cond (.t 32) .skip
 (.ext 2)))
 (.seq (.blk 3 (.seq (.reg false [{ dst := some 8, op := .mv (.c (.i .i64 0)) }])
 (.blk 4 (.loop (.seq (.seq (.reg false [{ dst := some 35, op := .mv (.t 8) },
  { dst := some 36, op := .mv (.t 5) },
  { dst := some 37, op := .nilck (.t 36) },
  { dst := some 38, op := .fa 0 (.t 37) },
  { dst := some 39, op := .ld none (.t 38) },
  { dst := some 40, op := .bin .lss (.t 35) (.t 39) },
  { dst := some 41, op := .mv (.t 40) },
  { dst := some 42, op := .mv (.t 0), grd := some (41, true) },
  { dst := some 43, op := .mv (.t 6), grd := some (41, true) },
  { dst := some 44, op := .mv (.t 7), grd := some (41, true) },
  { dst := some 45, op := .nilck (.t 42), grd := some (41, true) },
  { dst := some 46, op := .fa 1 (.t 45), grd := some (41, true) },
  { dst := some 47, op := .iaa 40 40 (.t 46) (.t 43), grd := some (41, true) },
  { dst := some 48, op := .iaa 40 1 (.t 47) (.t 44), grd := some (41, true) },
  { dst := some 49, op := .ld none (.t 48), grd := some (41, true) },
  { dst := some 50, op := .pick (.t 41) (.t 49) (.c (.b false)) }])
 (.cond (.t 50) .skip
 (.ext 4)))
 (.seq (.blk 5 (.reg true [{ dst := some 53, op := .mv (.t 5) },
  { dst := some 54, op := .mv (.t 6) },
  { dst := some 55, op := .mv (.t 8) },
  { dst := some 56, op := .mv (.t 5) },
  { dst := some 57, op := .mv (.t 6) },
  { dst := some 58, op := .mv (.t 8) },
  { dst := some 59, op := .nilck (.t 56) },
  { dst := some 60, op := .fa 1 (.t 59) },
  { dst := some 61, op := .iaa 40 40 (.t 60) (.t 57) },
  { dst := some 62, op := .iaa 40 1 (.t 61) (.t 58) },
  { dst := some 63, op := .ld none (.t 62), pre := [] },
  { dst := some 64, op := .mv (.t 63) },
  { dst := some 65, op := .mv (.t 1), grd := some (64, false) },
  { dst := some 66, op := .mv (.t 7), grd := some (64, false) },
  { dst := some 67, op := .mv (.t 8), grd := some (64, false) },
  { dst := some 68, op := .nilck (.t 65), grd := some (64, false) },
  { dst := some 69, op := .fa 1 (.t 68), grd := some (64, false) },
  { dst := some 70, op := .iaa 40 40 (.t 69) (.t 66), grd := some (64, false) },
  { dst := some 71, op := .iaa 40 1 (.t 70) (.t 67), grd := some (64, false) },
  { dst := some 72, op := .ld none (.t 71), grd := some (64, false), pre := [] },
  { dst := some 73, op := .pick (.t 64) (.c (.b true)) (.t 72) },
  { dst := some 74, op := .nilck (.t 53) },
  { dst := some 75, op := .fa 1 (.t 74) },
  { dst := some 76, op := .iaa 40 40 (.t 75) (.t 54) },
  { dst := some 77, op := .iaa 40 1 (.t 76) (.t 55) },
  { dst := none, op := .st 1 (.t 77) (.t 73), pre := [] }]))
 (.reg false [{ dst := some 51, op := .mv (.t 8) },
  { dst := some 52, op := .bin .add (.t 51) (.c (.i .i64 1)) },
  { dst := some 8, op := .mv (.t 52) }])))))))
 (.reg false [{ dst := some 33, op := .mv (.t 7) },
  { dst := some 34, op := .bin .add (.t 33) (.c (.i .i64 1)) },
  { dst := some 7, op := .mv (.t 34) }])))))))
 (.reg false [{ dst := some 25, op := .mv (.t 6) },
  { dst := some 26, op := .bin .add (.t 25) (.c (.i .i64 1)) },
  { dst := some 6, op := .mv (.t 26) }]))))))
 (.seq (.reg false [{ dst := some 78, op := .mv (.t 5) },
  { dst := some 4, op := .mv (.t 78) }])
 .ret)))) }
def A_xref01_R_Back : AFun := { res := [.t 2], body := (.seq (.reg false [{ dst := some 2, op := .mv (.c (.nilp)) }])
 (.seq (.reg false [{ dst := some 6, op := .mv (.t 0) },
  { dst := some 7, op := .nilck (.t 6) },
  { dst := some 8, op := .fa 0 (.t 7) },
  { dst := some 9, op := .ld none (.t 8) },
  { dst := some 10, op := .call .thaw (.c (.fn 27 [] [])) [.t 9, .c (.sl [] 0 .rig)] },
  { dst := some 3, op := .mv (.t 10) }])
 (.seq (.seq (.reg false [{ dst := some 4, op := .mv (.c (.i .i64 0)) }])
 (.blk 0 (.loop (.seq (.seq (.reg false [{ dst := some 11, op := .mv (.t 4) },
  { dst := some 12, op := .mv (.t 3) },
  { dst := some 13, op := .nilck (.t 12) },
  { dst := some 14, op := .fa 0 (.t 13) },
  { dst := some 15, op := .ld none (.t 14) },
  { dst := some 16, op := .bin .lss (.t 11) (.t 15) }])
 (.cond (.t 16) .skip
 (.ext 0)))
 (.seq (.blk 1 (.seq (.reg false [{ dst := some 5, op := .mv (.c (.i .i64 0)) }])
 (.blk 2 (.loop (.seq (.seq (.reg false [{ dst := some 19, op := .mv (.t 5) },
  { dst := some 20, op := .mv (.t 3) },
  { dst := some 21, op := .nilck (.t 20) },
  { dst := some 22, op := .fa 0 (.t 21) },
  { dst := some 23, op := .ld none (.t 22) },
  { dst := some 24, op := .bin .lss (.t 19) (.t 23) }])
 (.cond (.t 24) .skip
 (.ext 2)))
 (.seq (.blk 3 (.reg true [{ dst := some 27, op := .mv (.t 3) },
  { dst := some 28, op := .mv (.t 5) },
  { dst := some 29, op := .mv (.t 4) },
  { dst := some 30, op := .mv (.t 0) },
  { dst := some 31, op := .mv (.t 4) },
  { dst := some 32, op := .mv (.t 5) },
  { dst := some 33, op := .nilck (.t 30) },
  { dst := some 34, op := .fa 1 (.t 33) },
  { dst := some 35, op := .iaa 40 40 (.t 34) (.t 31) },
  { dst := some 36, op := .iaa 40 1 (.t 35) (.t 32) },
  { dst := some 37, op := .ld none (.t 36), pre := [] },
  { dst := some 38, op := .nilck (.t 27) },
  { dst := some 39, op := .fa 1 (.t 38) },
  { dst := some 40, op := .iaa 40 40 (.t 39) (.t 28) },
  { dst := some 41, op := .iaa 40 1 (.t 40) (.t 29) },
  { dst := none, op := .st 1 (.t 41) (.t 37), pre := [] }]))
 (.reg false [{ dst := some 25, op := .mv (.t 5) },
  { dst := some 26, op := .bin .add (.t 25) (.c (.i .i64 1)) },
  { dst := some 5, op := .mv (.t 26) }])))))))
 (.reg false [{ dst := some 17, op := .mv (.t 4) },
  { dst := some 18, op := .bin .add (.t 17) (.c (.i .i64 1)) },
  { dst := some 4, op := .mv (.t 18) }]))))))
 (.seq (.reg false [{ dst := some 42, op := .mv (.t 3) },
  { dst := some 2, op := .mv (.t 42) }])
 .ret)))) }
def A_xref01_R_Plus : AFun := { res := [.t 2], body := (.seq (.reg false [{ dst := some 2, op := .mv (.c (.nilp)) }])
 (.seq (.reg false [{ dst := some 7, op := .mv (.t 0) },
  { dst := some 8, op := .nilck (.t 7) },
  { dst := some 9, op := .fa 0 (.t 8) },
  { dst := some 10, op := .ld none (.t 9) },
  { dst := some 11, op := .call .thaw (.c (.fn 27 [] [])) [.t 10, .c (.sl [] 0 .rig)] },
  { dst := some 3, op := .mv (.t 11) }])
 (.seq (.reg false [{ dst := some 12, op := .mv (.t 3) },
  { dst := some 13, op := .mv (.t 0) },
  { dst := some 14, op := .nilck (.t 13) },
  { dst := some 15, op := .fa 1 (.t 14) },
  { dst := some 16, op := .ld (some 1600) (.t 15) },
  { dst := some 17, op := .nilck (.t 12) },
  { dst := some 18, op := .fa 1 (.t 17) },
  { dst := none, op := .st 1600 (.t 18) (.t 16) }])
 (.seq (.seq (.reg false [{ dst := some 4, op := .mv (.c (.i .i64 0)) }])
 (.blk 0 (.loop (.seq (.seq (.reg false [{ dst := some 19, op := .mv (.t 4) },
  { dst := some 20, op := .mv (.t 3) },
  { dst := some 21, op := .nilck (.t 20) },
  { dst := some 22, op := .fa 0 (.t 21) },
  { dst := some 23, op := .ld none (.t 22) },
  { dst := some 24, op := .bin .lss (.t 19) (.t 23) }])
 (.cond (.t 24) .skip
 (.ext 0)))
 (.seq (.blk 1 (.seq (.reg false [{ dst := some 5, op := .mv (.c (.i .i64 0)) }])
 (.blk 2 (.loop (.seq (.seq (.reg false [{ dst := some 27, op := .mv (.t 5) },
  { dst := some 28, op := .mv (.t 3) },
  { dst := some 29, op := .nilck (.t 28) },
  { dst := some 30, op := .fa 0 (.t 29) },
  { dst := some 31, op := .ld none (.t 30) },
  { dst := some 32, op := .bin .lss (.t 27) (.t 31) }])
 (.cond (.t 32) .skip
 (.ext 2)))
 (.seq (.blk 3 (.seq (.reg false [{ dst := some 6, op := .mv (.c (.i .i64 0)) }])
 (.blk 4 (.loop (.seq (.seq (.reg false [{ dst := some 35, op := .mv (.t 6) },
  { dst := some 36, op := .mv (.t 3) },
  { dst := some 37, op := .nilck (.t 36) },
  { dst := some 38, op := .fa 0 (.t 37) },
  { dst := some 39, op := .ld none (.t 38) },
  { dst := some 40, op := .bin .lss (.t 35) (.t 39) },
  { dst := some 41, op := .mv (.t 40) },
  { dst := some 42, op := .mv (.t 3), grd := some (41, true) },
  { dst := some 43, op := .mv (.t 5), grd := some (41, true) },
  { dst := some 44, op := .mv (.t 4), grd := some (41, true) },
  { dst := some 45, op := .nilck (.t 42), grd := some (41, true) },
  { dst := some 46, op := .fa 1 (.t 45), grd := some (41, true) },
  { dst := some 47, op := .iaa 40 40 (.t 46) (.t 43), grd := some (41, true) },
  { dst := some 48, op := .iaa 40 1 (.t 47) (.t 44), grd := some (41, true) },
  { dst := some 49, op := .ld none (.t 48), grd := some (41, true) },
  { dst := some 50, op := .pick (.t 41) (.t 49) (.c (.b false)) }])
 (.cond (.t 50) .skip
 (.ext 4)))
 (.seq (.blk 5 (.reg true [{ dst := some 53, op := .mv (.t 3) },
  { dst := some 54, op := .mv (.t 5) },
  { dst := some 55, op := .mv (.t 6) },
  { dst := some 56, op := .mv (.t 3) },
  { dst := some 57, op := .mv (.t 5) },
  { dst := some 58, op := .mv (.t 6) },
  { dst := some 59, op := .nilck (.t 56) },
  { dst := some 60, op := .fa 1 (.t 59) },
  { dst := some 61, op := .iaa 40 40 (.t 60) (.t 57) },
  { dst := some 62, op := .iaa 40 1 (.t 61) (.t 58) },
  { dst := some 63, op := .ld none (.t 62), pre := [] },
  { dst := some 64, op := .mv (.t 63) },
  { dst := some 65, op := .mv (.t 3), grd := some (64, false) },
  { dst := some 66, op := .mv (.t 4), grd := some (64, false) },
  { dst := some 67, op := .mv (.t 6), grd := some (64, false) },
  { dst := some 68, op := .nilck (.t 65), grd := some (64, false) },
  { dst := some 69, op := .fa 1 (.t 68), grd := some (64, false) },
  { dst := some 70, op := .iaa 40 40 (.t 69) (.t 66), grd := some (64, false) },
  { dst := some 71, op := .iaa 40 1 (.t 70) (.t 67), grd := some (64, false) },
  { dst := some 72, op := .ld none (.t 71), grd := some (64, false), pre := [] },
  { dst := some 73, op := .pick (.t 64) (.c (.b true)) (.t 72) },
  { dst := some 74, op := .nilck (.t 53) },
  { dst := some 75, op := .fa 1 (.t 74) },
  { dst := some 76, op := .iaa 40 40 (.t 75) (.t 54) },
  { dst := some 77, op := .iaa 40 1 (.t 76) (.t 55) },
  { dst := none, op := .st 1 (.t 77) (.t 73), pre := [] }]))
 (.reg false [{ dst := some 51, op := .mv (.t 6) },
  { dst := some 52, op := .bin .add (.t 51) (.c (.i .i64 1)) },
  { dst := some 6, op := .mv (.t 52) }])))))))
 (.reg false [{ dst := some 33, op := .mv (.t 5) },
  { dst := some 34, op := .bin .add (.t 33) (.c (.i .i64 1)) },
  { dst := some 5, op := .mv (.t 34) }])))))))
 (.reg false [{ dst := some 25, op := .mv (.t 4) },
  { dst := some 26, op := .bin .add (.t 25) (.c (.i .i64 1)) },
  { dst := some 4, op := .mv (.t 26) }]))))))
 (.seq (.reg false [{ dst := some 78, op := .mv (.t 3) },
  { dst := some 2, op := .mv (.t 78) }])
 .ret))))) }
def A_xref01_R_Maybe : AFun := { res := [.t 2], body := (.seq (.reg false [{ dst := some 2, op := .mv (.c (.nilp)) }])
 (.seq (.reg false [{ dst := some 5, op := .mv (.t 0) },
  { dst := some 6, op := .nilck (.t 5) },
  { dst := some 7, op := .fa 0 (.t 6) },
  { dst := some 8, op := .ld none (.t 7) },
  { dst := some 9, op := .call .thaw (.c (.fn 27 [] [])) [.t 8, .c (.sl [] 0 .rig)] },
  { dst := some 3, op := .mv (.t 9) }])
 (.seq (.reg false [{ dst := some 10, op := .mv (.t 3) },
  { dst := some 11, op := .mv (.t 0) },
  { dst := some 12, op := .nilck (.t 11) },
  { dst := some 13, op := .fa 1 (.t 12) },
  { dst := some 14, op := .ld (some 1600) (.t 13) },
  { dst := some 15, op := .nilck (.t 10) },
  { dst := some 16, op := .fa 1 (.t 15) },
  { dst := none, op := .st 1600 (.t 16) (.t 14) }])
 (.seq (.seq (.reg false [{ dst := some 4, op := .mv (.c (.i .i64 0)) }])
 (.blk 0 (.loop (.seq (.seq (.reg false [{ dst := some 17, op := .mv (.t 4) },
  { dst := some 18, op := .mv (.t 3) },
  { dst := some 19, op := .nilck (.t 18) },
  { dst := some 20, op := .fa 0 (.t 19) },
  { dst := some 21, op := .ld none (.t 20) },
  { dst := some 22, op := .bin .lss (.t 17) (.t 21) }])
 (.cond (.t 22) .skip
 (.ext 0)))
 (.seq (.blk 1 (.reg false [{ dst := some 25, op := .mv (.t 3) },
  { dst := some 26, op := .mv (.t 4) },
  { dst := some 27, op := .mv (.t 4) },
  { dst := some 28, op := .nilck (.t 25) },
  { dst := some 29, op := .fa 1 (.t 28) },
  { dst := some 30, op := .iaa 40 40 (.t 29) (.t 26) },
  { dst := some 31, op := .iaa 40 1 (.t 30) (.t 27) },
  { dst := none, op := .st 1 (.t 31) (.c (.b true)) }]))
 (.reg false [{ dst := some 23, op := .mv (.t 4) },
  { dst := some 24, op := .bin .add (.t 23) (.c (.i .i64 1)) },
  { dst := some 4, op := .mv (.t 24) }]))))))
 (.seq (.reg false [{ dst := some 32, op := .mv (.t 3) },
  { dst := some 2, op := .mv (.t 32) }])
 .ret))))) }
def A_xref01_R_Loops : AFun := { res := [.t 2], body := (.seq (.reg false [{ dst := some 2, op := .mv (.c (.b false)) }])
 (.seq (.reg false [{ dst := some 5, op := .mv (.t 0) },
  { dst := some 6, op := .call .pure (.c (.fn 34 [] [])) [.t 5] },
  { dst := some 3, op := .mv (.t 6) }])
 (.seq (.seq (.reg false [{ dst := some 4, op := .mv (.c (.i .i64 0)) }])
 (.blk 0 (.loop (.seq (.seq (.reg false [{ dst := some 7, op := .mv (.t 4) },
  { dst := some 8, op := .mv (.t 3) },
  { dst := some 9, op := .nilck (.t 8) },
  { dst := some 10, op := .fa 0 (.t 9) },
  { dst := some 11, op := .ld none (.t 10) },
  { dst := some 12, op := .bin .lss (.t 7) (.t 11) }])
 (.cond (.t 12) .skip
 (.ext 0)))
 (.seq (.blk 1 (.seq (.reg false [{ dst := some 15, op := .mv (.t 3) },
  { dst := some 16, op := .mv (.t 4) },
  { dst := some 17, op := .mv (.t 4) },
  { dst := some 18, op := .nilck (.t 15) },
  { dst := some 19, op := .fa 1 (.t 18) },
  { dst := some 20, op := .iaa 40 40 (.t 19) (.t 16) },
  { dst := some 21, op := .iaa 40 1 (.t 20) (.t 17) },
  { dst := some 22, op := .ld none (.t 21) }])
 (.cond (.t 22) (.seq (.reg false [{ dst := some 2, op := .mv (.c (.b true)) }])
 .ret)
 .skip)))
 (.reg false [{ dst := some 13, op := .mv (.t 4) },
  { dst := some 14, op := .bin .add (.t 13) (.c (.i .i64 1)) },
  { dst := some 4, op := .mv (.t 14) }]))))))
 (.seq (.reg false [{ dst := some 2, op := .mv (.c (.b false)) }])
 .ret)))) }
def A_xref01_SamePairs : AFun := { res := [.t 4], body := (.seq (.reg false [{ dst := some 4, op := .mv (.c (.b false)) }])
 (.seq (.seq (.reg false [{ dst := some 6, op := .mv (.t 0) },
  { dst := some 7, op := .len (.t 6) },
  { dst := some 8, op := .mv (.t 1) },
  { dst := some 9, op := .len (.t 8) },
  { dst := some 10, op := .bin .neq (.t 7) (.t 9) }])
 (.cond (.t 10) (.seq (.reg false [{ dst := some 4, op := .mv (.c (.b false)) }])
 .ret)
 .skip))
 (.seq (.seq (.reg false [{ dst := some 5, op := .mv (.c (.i .i64 0)) }])
 (.blk 0 (.loop (.seq (.seq (.reg false [{ dst := some 11, op := .mv (.t 5) },
  { dst := some 12, op := .mv (.t 0) },
  { dst := some 13, op := .len (.t 12) },
  { dst := some 14, op := .bin .lss (.t 11) (.t 13) }])
 (.cond (.t 14) .skip
 (.ext 0)))
 (.seq (.blk 1 (.seq (.reg true [{ dst := some 17, op := .mv (.t 0) },
  { dst := some 18, op := .mv (.t 5) },
  { dst := some 19, op := .ia 2 (.t 17) (.t 18) },
  { dst := some 20, op := .fa 0 (.t 19) },
  { dst := some 21, op := .ld none (.t 20), pre := [] },
  { dst := some 22, op := .mv (.t 1) },
  { dst := some 23, op := .mv (.t 5) },
  { dst := some 24, op := .ia 2 (.t 22) (.t 23) },
  { dst := some 25, op := .fa 0 (.t 24) },
  { dst := some 26, op := .ld none (.t 25), pre := [] },
  { dst := some 27, op := .bin .neq (.t 21) (.t 26) },
  { dst := some 28, op := .mv (.t 27) },
  { dst := some 29, op := .mv (.t 0), grd := some (28, false) },
  { dst := some 30, op := .mv (.t 5), grd := some (28, false) },
  { dst := some 31, op := .ia 2 (.t 29) (.t 30), grd := some (28, false) },
  { dst := some 32, op := .fa 1 (.t 31), grd := some (28, false) },
  { dst := some 33, op := .ld none (.t 32), grd := some (28, false), pre := [] },
  { dst := some 34, op := .mv (.t 1), grd := some (28, false) },
  { dst := some 35, op := .mv (.t 5), grd := some (28, false) },
  { dst := some 36, op := .ia 2 (.t 34) (.t 35), grd := some (28, false) },
  { dst := some 37, op := .fa 1 (.t 36), grd := some (28, false) },
  { dst := some 38, op := .ld none (.t 37), grd := some (28, false), pre := [] },
  { dst := some 39, op := .bin .neq (.t 33) (.t 38), grd := some (28, false) },
  { dst := some 40, op := .pick (.t 28) (.c (.b true)) (.t 39) }])
 (.cond (.t 40) (.seq (.reg false [{ dst := some 4, op := .mv (.c (.b false)) }])
 .ret)
 .skip)))
 (.reg false [{ dst := some 15, op := .mv (.t 5) },
  { dst := some 16, op := .bin .add (.t 15) (.c (.i .i64 1)) },
  { dst := some 5, op := .mv (.t 16) }]))))))
 (.seq (.reg false [{ dst := some 4, op := .mv (.c (.b true)) }])
 .ret)))) }
def A_xref01_R_Pairs : AFun := { res := [.t 2], body := (.seq (.reg false [{ dst := some 2, op := .mv (.c (.sl [] 0 .rig)) }])
 (.seq (.reg false [{ dst := some 3, op := .mv (.c (.sl [] 0 .rig)) }])
 (.seq (.seq (.reg false [{ dst := some 4, op := .mv (.c (.i .i64 0)) }])
 (.blk 0 (.loop (.seq (.seq (.reg false [{ dst := some 6, op := .mv (.t 4) },
  { dst := some 7, op := .mv (.t 0) },
  { dst := some 8, op := .nilck (.t 7) },
  { dst := some 9, op := .fa 0 (.t 8) },
  { dst := some 10, op := .ld none (.t 9) },
  { dst := some 11, op := .bin .lss (.t 6) (.t 10) }])
 (.cond (.t 11) .skip
 (.ext 0)))
 (.seq (.blk 1 (.seq (.reg false [{ dst := some 5, op := .mv (.c (.i .i64 0)) }])
 (.blk 2 (.loop (.seq (.seq (.reg false [{ dst := some 14, op := .mv (.t 5) },
  { dst := some 15, op := .mv (.t 0) },
  { dst := some 16, op := .nilck (.t 15) },
  { dst := some 17, op := .fa 0 (.t 16) },
  { dst := some 18, op := .ld none (.t 17) },
  { dst := some 19, op := .bin .lss (.t 14) (.t 18) }])
 (.cond (.t 19) .skip
 (.ext 2)))
 (.seq (.blk 3 (.seq (.reg false [{ dst := some 22, op := .mv (.t 0) },
  { dst := some 23, op := .mv (.t 4) },
  { dst := some 24, op := .mv (.t 5) },
  { dst := some 25, op := .nilck (.t 22) },
  { dst := some 26, op := .fa 1 (.t 25) },
  { dst := some 27, op := .iaa 40 40 (.t 26) (.t 23) },
  { dst := some 28, op := .iaa 40 1 (.t 27) (.t 24) },
  { dst := some 29, op := .ld none (.t 28) }])
 (.cond (.t 29) (.reg false [{ dst := some 30, op := .mv (.t 3) },
  { dst := some 31, op := .mv (.t 4) },
  { dst := some 32, op := .mv (.t 5) },
  { dst := some 33, op := .build ([.i .i64 0, .i .i64 0]) [(0, 1, .t 31), (1, 1, .t 32)] },
  { dst := some 34, op := .bsl true 1 ([.i .i64 0, .i .i64 0]) [(0, 2, .t 33)] },
  { dst := some 35, op := .app 2 16 (.t 30) (.t 34) },
  { dst := some 3, op := .mv (.t 35) }])
 .skip)))
 (.reg false [{ dst := some 20, op := .mv (.t 5) },
  { dst := some 21, op := .bin .add (.t 20) (.c (.i .i64 1)) },
  { dst := some 5, op := .mv (.t 21) }])))))))
 (.reg false [{ dst := some 12, op := .mv (.t 4) },
  { dst := some 13, op := .bin .add (.t 12) (.c (.i .i64 1)) },
  { dst := some 4, op := .mv (.t 13) }]))))))
 (.seq (.reg false [{ dst := some 36, op := .mv (.t 3) },
  { dst := some 2, op := .mv (.t 36) }])
 .ret)))) }
def A_xref01_R_Star : AFun := { res := [.t 2], body := (.seq (.reg false [{ dst := some 2, op := .mv (.c (.nilp)) }])
 (.seq (.reg false [{ dst := some 3, op := .mv (.t 0) },
  { dst := some 4, op := .call .pure (.c (.fn 34 [] [])) [.t 3] },
  { dst := some 5, op := .call .pure (.c (.fn 35 [] [])) [.t 4] },
  { dst := some 2, op := .mv (.t 5) }])
 .ret)) }
def A_xref01_R_Self : AFun := { res := [.t 2], body := (.seq (.reg false [{ dst := some 2, op := .mv (.c (.b false)) }])
 (.seq (.seq (.reg false [{ dst := some 3, op := .mv (.c (.i .i64 0)) }])
 (.blk 0 (.loop (.seq (.seq (.reg false [{ dst := some 4, op := .mv (.t 3) },
  { dst := some 5, op := .mv (.t 0) },
  { dst := some 6, op := .nilck (.t 5) },
  { dst := some 7, op := .fa 0 (.t 6) },
  { dst := some 8, op := .ld none (.t 7) },
  { dst := some 9, op := .bin .lss (.t 4) (.t 8) }])
 (.cond (.t 9) .skip
 (.ext 0)))
 (.seq (.blk 1 (.seq (.reg false [{ dst := some 12, op := .mv (.t 0) },
  { dst := some 13, op := .mv (.t 3) },
  { dst := some 14, op := .mv (.t 3) },
  { dst := some 15, op := .nilck (.t 12) },
  { dst := some 16, op := .fa 1 (.t 15) },
  { dst := some 17, op := .iaa 40 40 (.t 16) (.t 13) },
  { dst := some 18, op := .iaa 40 1 (.t 17) (.t 14) },
  { dst := some 19, op := .ld none (.t 18) }])
 (.cond (.t 19) (.seq (.reg false [{ dst := some 2, op := .mv (.c (.b true)) }])
 .ret)
 .skip)))
 (.reg false [{ dst := some 10, op := .mv (.t 3) },
  { dst := some 11, op := .bin .add (.t 10) (.c (.i .i64 1)) },
  { dst := some 3, op := .mv (.t 11) }]))))))
 (.seq (.reg false [{ dst := some 2, op := .mv (.c (.b false)) }])
 .ret))) }
structure Pk_xref01 (F : Funs) : Prop where
  xref01_New : F 27 = some A_xref01_New
  xref01_R_Or : F 29 = some A_xref01_R_Or
  xref01_R_And : F 30 = some A_xref01_R_And
  xref01_R_Then : F 32 = some A_xref01_R_Then
  xref01_R_Back : F 33 = some A_xref01_R_Back
  xref01_R_Plus : F 34 = some A_xref01_R_Plus
  xref01_R_Maybe : F 35 = some A_xref01_R_Maybe
  xref01_SamePairs : F 55 = some A_xref01_SamePairs
  xref01_R_Pairs : F 56 = some A_xref01_R_Pairs
end Go.Ab
end
section
namespace Go.Ab
def A_xref06_Check : AFun := { res := [.t 2], body := (.seq (.reg false [{ dst := some 1, op := .box (.t 0) },
  { dst := some 2, op := .mv (.c (.b false)) }])
 (.seq (.reg false [{ dst := some 6, op := .fa 1 (.t 1) },
  { dst := some 7, op := .ld none (.t 6) },
  { dst := some 8, op := .len (.t 7) },
  { dst := some 3, op := .mv (.t 8) }])
 (.seq (.seq (.reg false [{ dst := some 9, op := .fa 0 (.t 1) },
  { dst := some 10, op := .ld none (.t 9) },
  { dst := some 11, op := .bin .lss (.t 10) (.c (.i .i64 1)) },
  { dst := some 12, op := .mv (.t 11) },
  { dst := some 13, op := .fa 0 (.t 1), grd := some (12, false) },
  { dst := some 14, op := .ld none (.t 13), grd := some (12, false) },
  { dst := some 15, op := .bin .gtr (.t 14) (.c (.i .i64 4)), grd := some (12, false) },
  { dst := some 16, op := .pick (.t 12) (.c (.b true)) (.t 15) },
  { dst := some 17, op := .mv (.t 16) },
  { dst := some 18, op := .mv (.t 3), grd := some (17, false) },
  { dst := some 19, op := .fa 0 (.t 1), grd := some (17, false) },
  { dst := some 20, op := .ld none (.t 19), grd := some (17, false) },
  { dst := some 21, op := .bin .lss (.t 18) (.t 20), grd := some (17, false) },
  { dst := some 22, op := .pick (.t 17) (.c (.b true)) (.t 21) },
  { dst := some 23, op := .mv (.t 22) },
  { dst := some 24, op := .mv (.t 3), grd := some (23, false) },
  { dst := some 25, op := .bin .gtr (.t 24) (.c (.i .i64 40)), grd := some (23, false) },
  { dst := some 26, op := .pick (.t 23) (.c (.b true)) (.t 25) },
  { dst := some 27, op := .mv (.t 26) },
  { dst := some 28, op := .fa 2 (.t 1), grd := some (27, false) },
  { dst := some 29, op := .ld none (.t 28), grd := some (27, false) },
  { dst := some 30, op := .len (.t 29), grd := some (27, false) },
  { dst := some 31, op := .mv (.t 3), grd := some (27, false) },
  { dst := some 32, op := .bin .neq (.t 30) (.t 31), grd := some (27, false) },
  { dst := some 33, op := .pick (.t 27) (.c (.b true)) (.t 32) },
  { dst := some 34, op := .mv (.t 33) },
  { dst := some 35, op := .fa 3 (.t 1), grd := some (34, false) },
  { dst := some 36, op := .ld none (.t 35), grd := some (34, false) },
  { dst := some 37, op := .len (.t 36), grd := some (34, false) },
  { dst := some 38, op := .fa 0 (.t 1), grd := some (34, false) },
  { dst := some 39, op := .ld none (.t 38), grd := some (34, false) },
  { dst := some 40, op := .bin .neq (.t 37) (.t 39), grd := some (34, false) },
  { dst := some 41, op := .pick (.t 34) (.c (.b true)) (.t 40) }])
 (.cond (.t 41) (.seq (.reg false [{ dst := some 2, op := .mv (.c (.b false)) }])
 .ret)
 .skip))
 (.seq (.seq (.reg false [{ dst := some 4, op := .mv (.c (.i .i64 0)) }])
 (.blk 0 (.loop (.seq (.seq (.reg false [{ dst := some 42, op := .mv (.t 4) },
  { dst := some 43, op := .mv (.t 3) },
  { dst := some 44, op := .bin .lss (.t 42) (.t 43) }])
 (.cond (.t 44) .skip
 (.ext 0)))
 (.seq (.blk 1 (.seq (.reg false [{ dst := some 47, op := .ld (some 8) (.t 1) },
  { dst := some 48, op := .mv (.t 4) },
  { dst := some 49, op := .call .pure (.c (.fn 63 [] [])) [.t 47, .t 48] },
  { dst := some 50, op := .un .not (.t 49) },
  { dst := some 51, op := .mv (.t 50) },
  { dst := some 52, op := .ld (some 8) (.t 1), grd := some (51, false) },
  { dst := some 53, op := .mv (.t 4), grd := some (51, false) },
  { dst := some 54, op := .call .pure (.c (.fn 64 [] [])) [.t 52, .t 53], grd := some (51, false) },
  { dst := some 55, op := .un .not (.t 54), grd := some (51, false) },
  { dst := some 56, op := .pick (.t 51) (.c (.b true)) (.t 55) }])
 (.cond (.t 56) (.seq (.reg false [{ dst := some 2, op := .mv (.c (.b false)) }])
 .ret)
 .skip)))
 (.reg false [{ dst := some 45, op := .mv (.t 4) },
  { dst := some 46, op := .bin .add (.t 45) (.c (.i .i64 1)) },
  { dst := some 4, op := .mv (.t 46) }]))))))
 (.seq (.seq (.reg false [{ dst := some 5, op := .mv (.c (.i .i64 0)) }])
 (.blk 2 (.loop (.seq (.seq (.reg false [{ dst := some 57, op := .mv (.t 5) },
  { dst := some 58, op := .fa 0 (.t 1) },
  { dst := some 59, op := .ld none (.t 58) },
  { dst := some 60, op := .bin .lss (.t 57) (.t 59) }])
 (.cond (.t 60) .skip
 (.ext 2)))
 (.seq (.blk 3 (.seq (.reg false [{ dst := some 63, op := .ld (some 8) (.t 1) },
  { dst := some 64, op := .mv (.t 5) },
  { dst := some 65, op := .call .pure (.c (.fn 65 [] [])) [.t 63, .t 64] },
  { dst := some 66, op := .un .not (.t 65) }])
 (.cond (.t 66) (.seq (.reg false [{ dst := some 2, op := .mv (.c (.b false)) }])
 .ret)
 .skip)))
 (.reg false [{ dst := some 61, op := .mv (.t 5) },
  { dst := some 62, op := .bin .add (.t 61) (.c (.i .i64 1)) },
  { dst := some 5, op := .mv (.t 62) }]))))))
 (.seq (.reg false [{ dst := some 67, op := .ld (some 8) (.t 1) },
  { dst := some 68, op := .call .pure (.c (.fn 66 [] [])) [.t 67] },
  { dst := some 69, op := .mv (.t 68) },
  { dst := some 70, op := .ld (some 8) (.t 1), grd := some (69, true) },
  { dst := some 71, op := .fa 5 (.t 1), grd := some (69, true) },
  { dst := some 72, op := .ld none (.t 71), grd := some (69, true) },
  { dst := some 73, op := .call .pure (.c (.fn 67 [] [])) [.t 70, .t 72], grd := some (69, true) },
  { dst := some 74, op := .pick (.t 69) (.t 73) (.c (.b false)) },
  { dst := some 75, op := .mv (.t 74) },
  { dst := some 76, op := .ld (some 8) (.t 1), grd := some (75, true) },
  { dst := some 77, op := .fa 6 (.t 1), grd := some (75, true) },
  { dst := some 78, op := .ld none (.t 77), grd := some (75, true) },
  { dst := some 79, op := .call .pure (.c (.fn 67 [] [])) [.t 76, .t 78], grd := some (75, true) },
  { dst := some 80, op := .pick (.t 75) (.t 79) (.c (.b false)) },
  { dst := some 81, op := .mv (.t 80) },
  { dst := some 82, op := .ld (some 8) (.t 1), grd := some (81, true) },
  { dst := some 83, op := .fa 7 (.t 1), grd := some (81, true) },
  { dst := some 84, op := .ld none (.t 83), grd := some (81, true) },
  { dst := some 85, op := .call .pure (.c (.fn 67 [] [])) [.t 82, .t 84], grd := some (81, true) },
  { dst := some 86, op := .pick (.t 81) (.t 85) (.c (.b false)) },
  { dst := some 2, op := .mv (.t 86) }])
 .ret)))))) }
def A_xref06_event : AFun := { res := [.t 4], body := (.seq (.reg false [{ dst := some 2, op := .box (.t 0) },
  { dst := some 4, op := .mv (.c (.b false)) }])
 (.seq (.reg false [{ dst := some 7, op := .fa 1 (.t 2) },
  { dst := some 8, op := .ld none (.t 7) },
  { dst := some 9, op := .mv (.t 1) },
  { dst := some 10, op := .ia 6 (.t 8) (.t 9) },
  { dst := some 11, op := .ld (some 6) (.t 10) },
  { dst := some 5, op := .new (List.replicate 5 (.i .i64 0) ++ [.b false]) },
  { dst := none, op := .st 6 (.t 5) (.t 11) }])
 (.seq (.seq (.reg false [{ dst := some 12, op := .mv (.t 1) },
  { dst := some 13, op := .fa 0 (.t 2) },
  { dst := some 14, op := .ld none (.t 13) },
  { dst := some 15, op := .bin .lss (.t 12) (.t 14) }])
 (.cond (.t 15) (.seq (.reg false [{ dst := some 16, op := .fa 0 (.t 5) },
  { dst := some 17, op := .ld none (.t 16) },
  { dst := some 18, op := .bin .eql (.t 17) (.c (.i .i64 0)) },
  { dst := some 19, op := .mv (.t 18) },
  { dst := some 20, op := .fa 1 (.t 5), grd := some (19, true) },
  { dst := some 21, op := .ld none (.t 20), grd := some (19, true) },
  { dst := some 22, op := .bin .eql (.t 21) (.c (.i .i64 2)), grd := some (19, true) },
  { dst := some 23, op := .pick (.t 19) (.t 22) (.c (.b false)) },
  { dst := some 24, op := .mv (.t 23) },
  { dst := some 25, op := .fa 2 (.t 5), grd := some (24, true) },
  { dst := some 26, op := .ld none (.t 25), grd := some (24, true) },
  { dst := some 27, op := .bin .eql (.t 26) (.c (.i .i64 0)), grd := some (24, true) },
  { dst := some 28, op := .pick (.t 24) (.t 27) (.c (.b false)) },
  { dst := some 29, op := .mv (.t 28) },
  { dst := some 30, op := .fa 3 (.t 5), grd := some (29, true) },
  { dst := some 31, op := .ld none (.t 30), grd := some (29, true) },
  { dst := some 32, op := .mv (.t 1), grd := some (29, true) },
  { dst := some 33, op := .bin .eql (.t 31) (.t 32), grd := some (29, true) },
  { dst := some 34, op := .pick (.t 29) (.t 33) (.c (.b false)) },
  { dst := some 35, op := .mv (.t 34) },
  { dst := some 36, op := .fa 4 (.t 5), grd := some (35, true) },
  { dst := some 37, op := .ld none (.t 36), grd := some (35, true) },
  { dst := some 38, op := .bin .eql (.t 37) (.c (.i .i64 0)), grd := some (35, true) },
  { dst := some 39, op := .pick (.t 35) (.t 38) (.c (.b false)) },
  { dst := some 40, op := .mv (.t 39) },
  { dst := some 41, op := .fa 5 (.t 5), grd := some (40, true) },
  { dst := some 42, op := .ld none (.t 41), grd := some (40, true) },
  { dst := some 43, op := .un .not (.t 42), grd := some (40, true) },
  { dst := some 44, op := .pick (.t 40) (.t 43) (.c (.b false)) },
  { dst := some 4, op := .mv (.t 44) }])
 .ret)
 .skip))
 (.seq (.seq (.reg true [{ dst := some 45, op := .fa 0 (.t 5) },
  { dst := some 46, op := .ld none (.t 45), pre := [] },
  { dst := some 47, op := .bin .lss (.t 46) (.c (.i .i64 1)) },
  { dst := some 48, op := .mv (.t 47) },
  { dst := some 49, op := .fa 0 (.t 5), grd := some (48, false) },
  { dst := some 50, op := .ld none (.t 49), grd := some (48, false), pre := [] },
  { dst := some 51, op := .bin .gtr (.t 50) (.c (.i .i64 4)), grd := some (48, false) },
  { dst := some 52, op := .pick (.t 48) (.c (.b true)) (.t 51) },
  { dst := some 53, op := .mv (.t 52) },
  { dst := some 54, op := .mv (.t 1), grd := some (53, false) },
  { dst := some 55, op := .bin .gtr (.t 54) (.c (.i .i64 0)), grd := some (53, false) },
  { dst := some 56, op := .mv (.t 55), grd := some (53, false) },
  { dst := some 57, op := .fa 0 (.t 5), grd := some (56, true) },
  { dst := some 58, op := .ld none (.t 57), grd := some (56, true), pre := [] },
  { dst := some 59, op := .fa 1 (.t 2), grd := some (56, true) },
  { dst := some 60, op := .ld none (.t 59), grd := some (56, true), pre := [] },
  { dst := some 61, op := .mv (.t 1), grd := some (56, true) },
  { dst := some 62, op := .bin .sub (.t 61) (.c (.i .i64 1)), grd := some (56, true) },
  { dst := some 63, op := .ia 6 (.t 60) (.t 62), grd := some (56, true) },
  { dst := some 64, op := .fa 0 (.t 63), grd := some (56, true) },
  { dst := some 65, op := .ld none (.t 64), grd := some (56, true), pre := [] },
  { dst := some 66, op := .bin .lss (.t 58) (.t 65), grd := some (56, true) },
  { dst := some 67, op := .pick (.t 56) (.t 66) (.c (.b false)), grd := some (53, false) },
  { dst := some 68, op := .pick (.t 53) (.c (.b true)) (.t 67) }])
 (.cond (.t 68) (.seq (.reg false [{ dst := some 4, op := .mv (.c (.b false)) }])
 .ret)
 .skip))
 (.seq (.reg false [{ dst := some 69, op := .fa 3 (.t 5) },
  { dst := some 70, op := .ld none (.t 69) },
  { dst := some 71, op := .bin .geq (.t 70) (.c (.i .i64 0)) },
  { dst := some 72, op := .mv (.t 71) },
  { dst := some 73, op := .fa 3 (.t 5), grd := some (72, true) },
  { dst := some 74, op := .ld none (.t 73), grd := some (72, true) },
  { dst := some 75, op := .fa 0 (.t 2), grd := some (72, true) },
  { dst := some 76, op := .ld none (.t 75), grd := some (72, true) },
  { dst := some 77, op := .bin .lss (.t 74) (.t 76), grd := some (72, true) },
  { dst := some 78, op := .pick (.t 72) (.t 77) (.c (.b false)) },
  { dst := some 6, op := .mv (.t 78) }])
 (.seq (.seq (.reg false [{ dst := some 79, op := .fa 1 (.t 5) },
  { dst := some 80, op := .ld none (.t 79) }])
 (.blk 0 (.seq (.reg false [{ dst := some 82, op := .bin .eql (.t 80) (.c (.i .i64 1)) },
  { dst := some 81, op := .mv (.t 82) }])
 (.cond (.t 81) (.seq (.reg false [{ dst := some 83, op := .mv (.t 6) },
  { dst := some 84, op := .mv (.t 83) },
  { dst := some 85, op := .fa 2 (.t 5), grd := some (84, true) },
  { dst := some 86, op := .ld none (.t 85), grd := some (84, true) },
  { dst := some 87, op := .bin .eql (.t 86) (.c (.i .i64 0)), grd := some (84, true) },
  { dst := some 88, op := .mv (.t 87), grd := some (84, true) },
  { dst := some 89, op := .fa 2 (.t 5), grd := some (88, false) },
  { dst := some 90, op := .ld none (.t 89), grd := some (88, false) },
  { dst := some 91, op := .bin .eql (.t 90) (.c (.i .i64 1)), grd := some (88, false) },
  { dst := some 92, op := .pick (.t 88) (.c (.b true)) (.t 91), grd := some (84, true) },
  { dst := some 93, op := .pick (.t 84) (.t 92) (.c (.b false)) },
  { dst := some 4, op := .mv (.t 93) }])
 .ret)
 (.seq (.reg false [{ dst := some 95, op := .bin .eql (.t 80) (.c (.i .i64 2)) },
  { dst := some 94, op := .mv (.t 95) }])
 (.cond (.t 94) (.seq (.reg false [{ dst := some 96, op := .mv (.t 6) },
  { dst := some 97, op := .mv (.t 96) },
  { dst := some 98, op := .fa 2 (.t 5), grd := some (97, true) },
  { dst := some 99, op := .ld none (.t 98), grd := some (97, true) },
  { dst := some 100, op := .bin .eql (.t 99) (.c (.i .i64 0)), grd := some (97, true) },
  { dst := some 101, op := .mv (.t 100), grd := some (97, true) },
  { dst := some 102, op := .fa 2 (.t 5), grd := some (101, false) },
  { dst := some 103, op := .ld none (.t 102), grd := some (101, false) },
  { dst := some 104, op := .bin .eql (.t 103) (.c (.i .i64 2)), grd := some (101, false) },
  { dst := some 105, op := .pick (.t 101) (.c (.b true)) (.t 104), grd := some (97, true) },
  { dst := some 106, op := .pick (.t 97) (.t 105) (.c (.b false)) },
  { dst := some 4, op := .mv (.t 106) }])
 .ret)
 (.seq (.reg false [{ dst := some 108, op := .bin .eql (.t 80) (.c (.i .i64 3)) },
  { dst := some 107, op := .mv (.t 108) }])
 (.cond (.t 107) (.seq (.reg false [{ dst := some 109, op := .fa 2 (.t 5) },
  { dst := some 110, op := .ld none (.t 109) },
  { dst := some 111, op := .bin .geq (.t 110) (.c (.i .i64 1)) },
  { dst := some 112, op := .mv (.t 111) },
  { dst := some 113, op := .fa 2 (.t 5), grd := some (112, true) },
  { dst := some 114, op := .ld none (.t 113), grd := some (112, true) },
  { dst := some 115, op := .bin .leq (.t 114) (.c (.i .i64 4)), grd := some (112, true) },
  { dst := some 116, op := .pick (.t 112) (.t 115) (.c (.b false)) },
  { dst := some 117, op := .mv (.t 116) },
  { dst := some 118, op := .fa 3 (.t 5), grd := some (117, true) },
  { dst := some 119, op := .ld none (.t 118), grd := some (117, true) },
  { dst := some 120, op := .bin .eql (.t 119) (.c (.i .i64 0)), grd := some (117, true) },
  { dst := some 121, op := .pick (.t 117) (.t 120) (.c (.b false)) },
  { dst := some 122, op := .mv (.t 121) },
  { dst := some 123, op := .fa 4 (.t 5), grd := some (122, true) },
  { dst := some 124, op := .ld none (.t 123), grd := some (122, true) },
  { dst := some 125, op := .bin .eql (.t 124) (.c (.i .i64 0)), grd := some (122, true) },
  { dst := some 126, op := .pick (.t 122) (.t 125) (.c (.b false)) },
  { dst := some 127, op := .mv (.t 126) },
  { dst := some 128, op := .fa 5 (.t 5), grd := some (127, true) },
  { dst := some 129, op := .ld none (.t 128), grd := some (127, true) },
  { dst := some 130, op := .un .not (.t 129), grd := some (127, true) },
  { dst := some 131, op := .pick (.t 127) (.t 130) (.c (.b false)) },
  { dst := some 4, op := .mv (.t 131) }])
 .ret)
 .skip))))))))
 (.seq (.reg false [{ dst := some 4, op := .mv (.c (.b false)) }])
 .ret))))))) }
def A_xref06_rf : AFun := { res := [.t 4], body := (.seq (.reg false [{ dst := some 2, op := .box (.t 0) },
  { dst := some 4, op := .mv (.c (.b false)) }])
 (.seq (.reg true [{ dst := some 8, op := .fa 1 (.t 2) },
  { dst := some 9, op := .ld none (.t 8), pre := [] },
  { dst := some 10, op := .mv (.t 1) },
  { dst := some 11, op := .ia 6 (.t 9) (.t 10) },
  { dst := some 12, op := .ld (some 6) (.t 11), pre := [] },
  { dst := some 13, op := .fa 2 (.t 2) },
  { dst := some 14, op := .ld none (.t 13), pre := [] },
  { dst := some 15, op := .mv (.t 1) },
  { dst := some 16, op := .ia 1 (.t 14) (.t 15) },
  { dst := some 17, op := .ld none (.t 16), pre := [] },
  { dst := some 5, op := .new (List.replicate 5 (.i .i64 0) ++ [.b false]) },
  { dst := none, op := .stL 6 (.t 5) (.t 12), pre := [10] },
  { dst := some 6, op := .mv (.t 17) }])
 (.seq (.seq (.reg false [{ dst := some 18, op := .fa 1 (.t 5) },
  { dst := some 19, op := .ld none (.t 18) },
  { dst := some 20, op := .bin .neq (.t 19) (.c (.i .i64 1)) }])
 (.cond (.t 20) (.seq (.reg false [{ dst := some 21, op := .mv (.t 6) },
  { dst := some 22, op := .bin .eql (.t 21) (.c (.i .i64 (-1))) },
  { dst := some 4, op := .mv (.t 22) }])
 .ret)
 .skip))
 (.seq (.seq (.reg false [{ dst := some 23, op := .mv (.t 6) },
  { dst := some 24, op := .bin .lss (.t 23) (.c (.i .i64 0)) },
  { dst := some 25, op := .mv (.t 24) },
  { dst := some 26, op := .mv (.t 6), grd := some (25, false) },
  { dst := some 27, op := .fa 1 (.t 2), grd := some (25, false) },
  { dst := some 28, op := .ld none (.t 27), grd := some (25, false) },
  { dst := some 29, op := .len (.t 28), grd := some (25, false) },
  { dst := some 30, op := .bin .geq (.t 26) (.t 29), grd := some (25, false) },
  { dst := some 31, op := .pick (.t 25) (.c (.b true)) (.t 30) }])
 (.cond (.t 31) (.seq (.reg false [{ dst := some 4, op := .mv (.c (.b false)) }])
 .ret)
 .skip))
 (.seq (.reg false [{ dst := some 32, op := .fa 1 (.t 2) },
  { dst := some 33, op := .ld none (.t 32) },
  { dst := some 34, op := .mv (.t 6) },
  { dst := some 35, op := .ia 6 (.t 33) (.t 34) },
  { dst := some 36, op := .ld (some 6) (.t 35) },
  { dst := some 7, op := .new (List.replicate 5 (.i .i64 0) ++ [.b false]) },
  { dst := none, op := .st 6 (.t 7) (.t 36) }])
 (.seq (.reg false [{ dst := some 37, op := .fa 1 (.t 7) },
  { dst := some 38, op := .ld none (.t 37) },
  { dst := some 39, op := .bin .eql (.t 38) (.c (.i .i64 2)) },
  { dst := some 40, op := .mv (.t 39) },
  { dst := some 41, op := .fa 3 (.t 7), grd := some (40, true) },
  { dst := some 42, op := .ld none (.t 41), grd := some (40, true) },
  { dst := some 43, op := .fa 3 (.t 5), grd := some (40, true) },
  { dst := some 44, op := .ld none (.t 43), grd := some (40, true) },
  { dst := some 45, op := .bin .eql (.t 42) (.t 44), grd := some (40, true) },
  { dst := some 46, op := .pick (.t 40) (.t 45) (.c (.b false)) },
  { dst := some 47, op := .mv (.t 46) },
  { dst := some 48, op := .fa 4 (.t 7), grd := some (47, true) },
  { dst := some 49, op := .ld none (.t 48), grd := some (47, true) },
  { dst := some 50, op := .fa 4 (.t 5), grd := some (47, true) },
  { dst := some 51, op := .ld none (.t 50), grd := some (47, true) },
  { dst := some 52, op := .bin .eql (.t 49) (.t 51), grd := some (47, true) },
  { dst := some 53, op := .pick (.t 47) (.t 52) (.c (.b false)) },
  { dst := some 4, op := .mv (.t 53) }])
 .ret)))))) }
def A_xref06_co : AFun := { res := [.t 4], body := (.seq (.reg false [{ dst := some 2, op := .box (.t 0) },
  { dst := some 4, op := .mv (.c (.b false)) }])
 (.seq (.reg false [{ dst := some 10, op := .fa 3 (.t 2) },
  { dst := some 11, op := .ld none (.t 10) },
  { dst := some 12, op := .mv (.t 1) },
  { dst := some 13, op := .ia 1 (.t 11) (.t 12) },
  { dst := some 14, op := .ld none (.t 13) },
  { dst := some 5, op := .mv (.t 14) }])
 (.seq (.reg false [{ dst := some 6, op := .mv (.c (.i .i64 0)) }])
 (.seq (.seq (.reg false [{ dst := some 7, op := .mv (.c (.i .i64 0)) }])
 (.blk 0 (.loop (.seq (.seq (.reg false [{ dst := some 15, op := .mv (.t 7) },
  { dst := some 16, op := .fa 1 (.t 2) },
  { dst := some 17, op := .ld none (.t 16) },
  { dst := some 18, op := .len (.t 17) },
  { dst := some 19, op := .bin .lss (.t 15) (.t 18) }])
 (.cond (.t 19) .skip
 (.ext 0)))
 (.seq (.blk 1 (.seq (.reg false [{ dst := some 22, op := .fa 1 (.t 2) },
  { dst := some 23, op := .ld none (.t 22) },
  { dst := some 24, op := .mv (.t 7) },
  { dst := some 25, op := .ia 6 (.t 23) (.t 24) },
  { dst := some 26, op := .fa 1 (.t 25) },
  { dst := some 27, op := .ld none (.t 26) },
  { dst := some 28, op := .bin .eql (.t 27) (.c (.i .i64 2)) },
  { dst := some 29, op := .mv (.t 28) },
  { dst := some 30, op := .fa 1 (.t 2), grd := some (29, true) },
  { dst := some 31, op := .ld none (.t 30), grd := some (29, true) },
  { dst := some 32, op := .mv (.t 7), grd := some (29, true) },
  { dst := some 33, op := .ia 6 (.t 31) (.t 32), grd := some (29, true) },
  { dst := some 34, op := .fa 3 (.t 33), grd := some (29, true) },
  { dst := some 35, op := .ld none (.t 34), grd := some (29, true) },
  { dst := some 36, op := .mv (.t 1), grd := some (29, true) },
  { dst := some 37, op := .bin .eql (.t 35) (.t 36), grd := some (29, true) },
  { dst := some 38, op := .pick (.t 29) (.t 37) (.c (.b false)) }])
 (.cond (.t 38) (.reg false [{ dst := some 39, op := .mv (.t 6) },
  { dst := some 40, op := .bin .add (.t 39) (.c (.i .i64 1)) },
  { dst := some 6, op := .mv (.t 40) }])
 .skip)))
 (.reg false [{ dst := some 20, op := .mv (.t 7) },
  { dst := some 21, op := .bin .add (.t 20) (.c (.i .i64 1)) },
  { dst := some 7, op := .mv (.t 21) }]))))))
 (.seq (.seq (.reg false [{ dst := some 8, op := .mv (.c (.i .i64 0)) }])
 (.blk 2 (.loop (.seq (.seq (.reg false [{ dst := some 41, op := .mv (.t 8) },
  { dst := some 42, op := .mv (.t 5) },
  { dst := some 43, op := .len (.t 42) },
  { dst := some 44, op := .bin .lss (.t 41) (.t 43) }])
 (.cond (.t 44) .skip
 (.ext 2)))
 (.seq (.blk 3 (.seq (.seq (.reg true [{ dst := some 47, op := .mv (.t 5) },
  { dst := some 48, op := .mv (.t 8) },
  { dst := some 49, op := .ia 1 (.t 47) (.t 48) },
  { dst := some 50, op := .ld none (.t 49), pre := [] },
  { dst := some 51, op := .bin .lss (.t 50) (.c (.i .i64 0)) },
  { dst := some 52, op := .mv (.t 51) },
  { dst := some 53, op := .mv (.t 5), grd := some (52, false) },
  { dst := some 54, op := .mv (.t 8), grd := some (52, false) },
  { dst := some 55, op := .ia 1 (.t 53) (.t 54), grd := some (52, false) },
  { dst := some 56, op := .ld none (.t 55), grd := some (52, false), pre := [] },
  { dst := some 57, op := .fa 1 (.t 2), grd := some (52, false) },
  { dst := some 58, op := .ld none (.t 57), grd := some (52, false), pre := [] },
  { dst := some 59, op := .len (.t 58), grd := some (52, false) },
  { dst := some 60, op := .bin .geq (.t 56) (.t 59), grd := some (52, false) },
  { dst := some 61, op := .pick (.t 52) (.c (.b true)) (.t 60) },
  { dst := some 62, op := .mv (.t 61) },
  { dst := some 63, op := .fa 1 (.t 2), grd := some (62, false) },
  { dst := some 64, op := .ld none (.t 63), grd := some (62, false), pre := [] },
  { dst := some 65, op := .mv (.t 5), grd := some (62, false) },
  { dst := some 66, op := .mv (.t 8), grd := some (62, false) },
  { dst := some 67, op := .ia 1 (.t 65) (.t 66), grd := some (62, false) },
  { dst := some 68, op := .ld none (.t 67), grd := some (62, false), pre := [] },
  { dst := some 69, op := .ia 6 (.t 64) (.t 68), grd := some (62, false) },
  { dst := some 70, op := .fa 1 (.t 69), grd := some (62, false) },
  { dst := some 71, op := .ld none (.t 70), grd := some (62, false), pre := [] },
  { dst := some 72, op := .bin .neq (.t 71) (.c (.i .i64 2)), grd := some (62, false) },
  { dst := some 73, op := .pick (.t 62) (.c (.b true)) (.t 72) },
  { dst := some 74, op := .mv (.t 73) },
  { dst := some 75, op := .fa 1 (.t 2), grd := some (74, false) },
  { dst := some 76, op := .ld none (.t 75), grd := some (74, false), pre := [] },
  { dst := some 77, op := .mv (.t 5), grd := some (74, false) },
  { dst := some 78, op := .mv (.t 8), grd := some (74, false) },
  { dst := some 79, op := .ia 1 (.t 77) (.t 78), grd := some (74, false) },
  { dst := some 80, op := .ld none (.t 79), grd := some (74, false), pre := [] },
  { dst := some 81, op := .ia 6 (.t 76) (.t 80), grd := some (74, false) },
  { dst := some 82, op := .fa 3 (.t 81), grd := some (74, false) },
  { dst := some 83, op := .ld none (.t 82), grd := some (74, false), pre := [] },
  { dst := some 84, op := .mv (.t 1), grd := some (74, false) },
  { dst := some 85, op := .bin .neq (.t 83) (.t 84), grd := some (74, false) },
  { dst := some 86, op := .pick (.t 74) (.c (.b true)) (.t 85) }])
 (.cond (.t 86) (.seq (.reg false [{ dst := some 4, op := .mv (.c (.b false)) }])
 .ret)
 .skip))
 (.seq (.reg false [{ dst := some 9, op := .mv (.c (.i .i64 0)) }])
 (.blk 4 (.loop (.seq (.seq (.reg false [{ dst := some 87, op := .mv (.t 9) },
  { dst := some 88, op := .mv (.t 8) },
  { dst := some 89, op := .bin .lss (.t 87) (.t 88) }])
 (.cond (.t 89) .skip
 (.ext 4)))
 (.seq (.blk 5 (.seq (.reg true [{ dst := some 92, op := .mv (.t 5) },
  { dst := some 93, op := .mv (.t 9) },
  { dst := some 94, op := .ia 1 (.t 92) (.t 93) },
  { dst := some 95, op := .ld none (.t 94), pre := [] },
  { dst := some 96, op := .mv (.t 5) },
  { dst := some 97, op := .mv (.t 8) },
  { dst := some 98, op := .ia 1 (.t 96) (.t 97) },
  { dst := some 99, op := .ld none (.t 98), pre := [] },
  { dst := some 100, op := .bin .eql (.t 95) (.t 99) }])
 (.cond (.t 100) (.seq (.reg false [{ dst := some 4, op := .mv (.c (.b false)) }])
 .ret)
 .skip)))
 (.reg false [{ dst := some 90, op := .mv (.t 9) },
  { dst := some 91, op := .bin .add (.t 90) (.c (.i .i64 1)) },
  { dst := some 9, op := .mv (.t 91) }]))))))))
 (.reg false [{ dst := some 45, op := .mv (.t 8) },
  { dst := some 46, op := .bin .add (.t 45) (.c (.i .i64 1)) },
  { dst := some 8, op := .mv (.t 46) }]))))))
 (.seq (.reg false [{ dst := some 101, op := .mv (.t 5) },
  { dst := some 102, op := .len (.t 101) },
  { dst := some 103, op := .mv (.t 6) },
  { dst := some 104, op := .bin .eql (.t 102) (.t 103) },
  { dst := some 105, op := .mv (.t 104) },
  { dst := some 106, op := .mv (.t 6), grd := some (105, true) },
  { dst := some 107, op := .bin .gtr (.t 106) (.c (.i .i64 0)), grd := some (105, true) },
  { dst := some 108, op := .pick (.t 105) (.t 107) (.c (.b false)) },
  { dst := some 109, op := .mv (.t 108) },
  { dst := some 110, op := .mv (.t 5), grd := some (109, true) },
  { dst := some 111, op := .ia 1 (.t 110) (.c (.i .i64 0)), grd := some (109, true) },
  { dst := some 112, op := .ld none (.t 111), grd := some (109, true) },
  { dst := some 113, op := .mv (.t 1), grd := some (109, true) },
  { dst := some 114, op := .bin .eql (.t 112) (.t 113), grd := some (109, true) },
  { dst := some 115, op := .pick (.t 109) (.t 114) (.c (.b false)) },
  { dst := some 4, op := .mv (.t 115) }])
 .ret)))))) }
def A_xref06_rmw : AFun := { res := [.t 2], body := (.seq (.reg false [{ dst := some 1, op := .box (.t 0) },
  { dst := some 2, op := .mv (.c (.b false)) }])
 (.seq (.reg false [{ dst := some 3, op := .new (List.replicate 40 (.i .i64 0)) }])
 (.seq (.seq (.reg false [{ dst := some 4, op := .mv (.c (.i .i64 0)) }])
 (.blk 0 (.loop (.seq (.seq (.reg false [{ dst := some 10, op := .mv (.t 4) },
  { dst := some 11, op := .fa 4 (.t 1) },
  { dst := some 12, op := .ld none (.t 11) },
  { dst := some 13, op := .len (.t 12) },
  { dst := some 14, op := .bin .lss (.t 10) (.t 13) }])
 (.cond (.t 14) .skip
 (.ext 0)))
 (.seq (.blk 1 (.seq (.reg true [{ dst := some 17, op := .fa 4 (.t 1) },
  { dst := some 18, op := .ld none (.t 17), pre := [] },
  { dst := some 19, op := .mv (.t 4) },
  { dst := some 20, op := .ia 2 (.t 18) (.t 19) },
  { dst := some 21, op := .fa 0 (.t 20) },
  { dst := some 22, op := .ld none (.t 21), pre := [] },
  { dst := some 23, op := .fa 4 (.t 1) },
  { dst := some 24, op := .ld none (.t 23), pre := [] },
  { dst := some 25, op := .mv (.t 4) },
  { dst := some 26, op := .ia 2 (.t 24) (.t 25) },
  { dst := some 27, op := .fa 1 (.t 26) },
  { dst := some 28, op := .ld none (.t 27), pre := [] },
  { dst := some 5, op := .mv (.t 22) },
  { dst := some 6, op := .mv (.t 28) }])
 (.seq (.seq (.reg false [{ dst := some 29, op := .mv (.t 5) },
  { dst := some 30, op := .bin .lss (.t 29) (.c (.i .i64 0)) },
  { dst := some 31, op := .mv (.t 30) },
  { dst := some 32, op := .mv (.t 5), grd := some (31, false) },
  { dst := some 33, op := .fa 1 (.t 1), grd := some (31, false) },
  { dst := some 34, op := .ld none (.t 33), grd := some (31, false) },
  { dst := some 35, op := .len (.t 34), grd := some (31, false) },
  { dst := some 36, op := .bin .sub (.t 35) (.c (.i .i64 1)), grd := some (31, false) },
  { dst := some 37, op := .bin .geq (.t 32) (.t 36), grd := some (31, false) },
  { dst := some 38, op := .pick (.t 31) (.c (.b true)) (.t 37) },
  { dst := some 39, op := .mv (.t 38) },
  { dst := some 40, op := .mv (.t 6), grd := some (39, false) },
  { dst := some 41, op := .mv (.t 5), grd := some (39, false) },
  { dst := some 42, op := .bin .add (.t 41) (.c (.i .i64 1)), grd := some (39, false) },
  { dst := some 43, op := .bin .neq (.t 40) (.t 42), grd := some (39, false) },
  { dst := some 44, op := .pick (.t 39) (.c (.b true)) (.t 43) }])
 (.cond (.t 44) (.seq (.reg false [{ dst := some 2, op := .mv (.c (.b false)) }])
 .ret)
 .skip))
 (.seq (.reg true [{ dst := some 45, op := .fa 1 (.t 1) },
  { dst := some 46, op := .ld none (.t 45), pre := [] },
  { dst := some 47, op := .mv (.t 5) },
  { dst := some 48, op := .ia 6 (.t 46) (.t 47) },
  { dst := some 49, op := .ld (some 6) (.t 48), pre := [] },
  { dst := some 50, op := .fa 1 (.t 1) },
  { dst := some 51, op := .ld none (.t 50), pre := [] },
  { dst := some 52, op := .mv (.t 6) },
  { dst := some 53, op := .ia 6 (.t 51) (.t 52) },
  { dst := some 54, op := .ld (some 6) (.t 53), pre := [] },
  { dst := some 7, op := .new (List.replicate 5 (.i .i64 0) ++ [.b false]) },
  { dst := some 8, op := .new (List.replicate 5 (.i .i64 0) ++ [.b false]) },
  { dst := none, op := .stL 6 (.t 7) (.t 49), pre := [10] },
  { dst := none, op := .stL 6 (.t 8) (.t 54), pre := [11] }])
 (.seq (.seq (.reg false [{ dst := some 55, op := .fa 0 (.t 7) },
  { dst := some 56, op := .ld none (.t 55) },
  { dst := some 57, op := .fa 0 (.t 8) },
  { dst := some 58, op := .ld none (.t 57) },
  { dst := some 59, op := .bin .neq (.t 56) (.t 58) },
  { dst := some 60, op := .mv (.t 59) },
  { dst := some 61, op := .fa 1 (.t 7), grd := some (60, false) },
  { dst := some 62, op := .ld none (.t 61), grd := some (60, false) },
  { dst := some 63, op := .bin .neq (.t 62) (.c (.i .i64 1)), grd := some (60, false) },
  { dst := some 64, op := .pick (.t 60) (.c (.b true)) (.t 63) },
  { dst := some 65, op := .mv (.t 64) },
  { dst := some 66, op := .fa 1 (.t 8), grd := some (65, false) },
  { dst := some 67, op := .ld none (.t 66), grd := some (65, false) },
  { dst := some 68, op := .bin .neq (.t 67) (.c (.i .i64 2)), grd := some (65, false) },
  { dst := some 69, op := .pick (.t 65) (.c (.b true)) (.t 68) },
  { dst := some 70, op := .mv (.t 69) },
  { dst := some 71, op := .fa 3 (.t 7), grd := some (70, false) },
  { dst := some 72, op := .ld none (.t 71), grd := some (70, false) },
  { dst := some 73, op := .fa 3 (.t 8), grd := some (70, false) },
  { dst := some 74, op := .ld none (.t 73), grd := some (70, false) },
  { dst := some 75, op := .bin .neq (.t 72) (.t 74), grd := some (70, false) },
  { dst := some 76, op := .pick (.t 70) (.c (.b true)) (.t 75) },
  { dst := some 77, op := .mv (.t 76) },
  { dst := some 78, op := .fa 5 (.t 7), grd := some (77, false) },
  { dst := some 79, op := .ld none (.t 78), grd := some (77, false) },
  { dst := some 80, op := .un .not (.t 79), grd := some (77, false) },
  { dst := some 81, op := .pick (.t 77) (.c (.b true)) (.t 80) },
  { dst := some 82, op := .mv (.t 81) },
  { dst := some 83, op := .fa 5 (.t 8), grd := some (82, false) },
  { dst := some 84, op := .ld none (.t 83), grd := some (82, false) },
  { dst := some 85, op := .un .not (.t 84), grd := some (82, false) },
  { dst := some 86, op := .pick (.t 82) (.c (.b true)) (.t 85) }])
 (.cond (.t 86) (.seq (.reg false [{ dst := some 2, op := .mv (.c (.b false)) }])
 .ret)
 .skip))
 (.seq (.reg false [{ dst := some 87, op := .mv (.t 5) },
  { dst := some 88, op := .iaa 40 1 (.t 3) (.t 87) },
  { dst := some 89, op := .ld none (.t 88) },
  { dst := some 90, op := .bin .add (.t 89) (.c (.i .i64 1)) },
  { dst := some 91, op := .iaa 40 1 (.t 3) (.t 87) },
  { dst := none, op := .st 1 (.t 91) (.t 90) }])
 (.reg false [{ dst := some 92, op := .mv (.t 6) },
  { dst := some 93, op := .iaa 40 1 (.t 3) (.t 92) },
  { dst := some 94, op := .ld none (.t 93) },
  { dst := some 95, op := .bin .add (.t 94) (.c (.i .i64 1)) },
  { dst := some 96, op := .iaa 40 1 (.t 3) (.t 92) },
  { dst := none, op := .st 1 (.t 96) (.t 95) }])))))))
 (.reg false [{ dst := some 15, op := .mv (.t 4) },
  { dst := some 16, op := .bin .add (.t 15) (.c (.i .i64 1)) },
  { dst := some 4, op := .mv (.t 16) }]))))))
 (.seq (.seq (.reg false [{ dst := some 9, op := .mv (.c (.i .i64 0)) }])
 (.blk 2 (.loop (.seq (.seq (.reg false [{ dst := some 97, op := .mv (.t 9) },
  { dst := some 98, op := .fa 1 (.t 1) },
  { dst := some 99, op := .ld none (.t 98) },
  { dst := some 100, op := .len (.t 99) },
  { dst := some 101, op := .bin .lss (.t 97) (.t 100) }])
 (.cond (.t 101) .skip
 (.ext 2)))
 (.seq (.blk 3 (.seq (.reg true [{ dst := some 104, op := .mv (.t 9) },
  { dst := some 105, op := .iaa 40 1 (.t 3) (.t 104) },
  { dst := some 106, op := .ld none (.t 105), pre := [] },
  { dst := some 107, op := .bin .gtr (.t 106) (.c (.i .i64 1)) },
  { dst := some 108, op := .mv (.t 107) },
  { dst := some 109, op := .fa 1 (.t 1), grd := some (108, false) },
  { dst := some 110, op := .ld none (.t 109), grd := some (108, false), pre := [] },
  { dst := some 111, op := .mv (.t 9), grd := some (108, false) },
  { dst := some 112, op := .ia 6 (.t 110) (.t 111), grd := some (108, false) },
  { dst := some 113, op := .fa 5 (.t 112), grd := some (108, false) },
  { dst := some 114, op := .ld none (.t 113), grd := some (108, false), pre := [] },
  { dst := some 115, op := .mv (.t 9), grd := some (108, false) },
  { dst := some 116, op := .iaa 40 1 (.t 3) (.t 115), grd := some (108, false) },
  { dst := some 117, op := .ld none (.t 116), grd := some (108, false), pre := [] },
  { dst := some 118, op := .bin .eql (.t 117) (.c (.i .i64 1)), grd := some (108, false) },
  { dst := some 119, op := .eqb true (.t 114) (.t 118), grd := some (108, false) },
  { dst := some 120, op := .pick (.t 108) (.c (.b true)) (.t 119) }])
 (.cond (.t 120) (.seq (.reg false [{ dst := some 2, op := .mv (.c (.b false)) }])
 .ret)
 .skip)))
 (.reg false [{ dst := some 102, op := .mv (.t 9) },
  { dst := some 103, op := .bin .add (.t 102) (.c (.i .i64 1)) },
  { dst := some 9, op := .mv (.t 103) }]))))))
 (.seq (.reg false [{ dst := some 121, op := .fa 4 (.t 1) },
  { dst := some 122, op := .ld none (.t 121) },
  { dst := some 123, op := .call .pure (.c (.fn 82 [] [])) [.t 122] },
  { dst := some 2, op := .mv (.t 123) }])
 .ret))))) }
def A_xref06_deps : AFun := { res := [.t 4], body := (.seq (.reg false [{ dst := some 2, op := .box (.t 0) },
  { dst := some 4, op := .mv (.c (.b false)) }])
 (.seq (.seq (.reg false [{ dst := some 5, op := .mv (.c (.i .i64 0)) }])
 (.blk 0 (.loop (.seq (.seq (.reg false [{ dst := some 8, op := .mv (.t 5) },
  { dst := some 9, op := .mv (.t 1) },
  { dst := some 10, op := .len (.t 9) },
  { dst := some 11, op := .bin .lss (.t 8) (.t 10) }])
 (.cond (.t 11) .skip
 (.ext 0)))
 (.seq (.blk 1 (.seq (.reg true [{ dst := some 14, op := .mv (.t 1) },
  { dst := some 15, op := .mv (.t 5) },
  { dst := some 16, op := .ia 2 (.t 14) (.t 15) },
  { dst := some 17, op := .fa 0 (.t 16) },
  { dst := some 18, op := .ld none (.t 17), pre := [] },
  { dst := some 19, op := .mv (.t 1) },
  { dst := some 20, op := .mv (.t 5) },
  { dst := some 21, op := .ia 2 (.t 19) (.t 20) },
  { dst := some 22, op := .fa 1 (.t 21) },
  { dst := some 23, op := .ld none (.t 22), pre := [] },
  { dst := some 6, op := .mv (.t 18) },
  { dst := some 7, op := .mv (.t 23) }])
 (.seq (.reg true [{ dst := some 24, op := .mv (.t 6) },
  { dst := some 25, op := .bin .lss (.t 24) (.c (.i .i64 0)) },
  { dst := some 26, op := .mv (.t 25) },
  { dst := some 27, op := .mv (.t 7), grd := some (26, false) },
  { dst := some 28, op := .mv (.t 6), grd := some (26, false) },
  { dst := some 29, op := .bin .leq (.t 27) (.t 28), grd := some (26, false) },
  { dst := some 30, op := .pick (.t 26) (.c (.b true)) (.t 29) },
  { dst := some 31, op := .mv (.t 30) },
  { dst := some 32, op := .mv (.t 7), grd := some (31, false) },
  { dst := some 33, op := .fa 1 (.t 2), grd := some (31, false) },
  { dst := some 34, op := .ld none (.t 33), grd := some (31, false), pre := [] },
  { dst := some 35, op := .len (.t 34), grd := some (31, false) },
  { dst := some 36, op := .bin .geq (.t 32) (.t 35), grd := some (31, false) },
  { dst := some 37, op := .pick (.t 31) (.c (.b true)) (.t 36) },
  { dst := some 38, op := .mv (.t 37) },
  { dst := some 39, op := .fa 1 (.t 2), grd := some (38, false) },
  { dst := some 40, op := .ld none (.t 39), grd := some (38, false), pre := [] },
  { dst := some 41, op := .mv (.t 6), grd := some (38, false) },
  { dst := some 42, op := .ia 6 (.t 40) (.t 41), grd := some (38, false) },
  { dst := some 43, op := .fa 1 (.t 42), grd := some (38, false) },
  { dst := some 44, op := .ld none (.t 43), grd := some (38, false), pre := [] },
  { dst := some 45, op := .bin .neq (.t 44) (.c (.i .i64 1)), grd := some (38, false) },
  { dst := some 46, op := .pick (.t 38) (.c (.b true)) (.t 45) },
  { dst := some 47, op := .mv (.t 46) },
  { dst := some 48, op := .fa 1 (.t 2), grd := some (47, false) },
  { dst := some 49, op := .ld none (.t 48), grd := some (47, false), pre := [] },
  { dst := some 50, op := .mv (.t 6), grd := some (47, false) },
  { dst := some 51, op := .ia 6 (.t 49) (.t 50), grd := some (47, false) },
  { dst := some 52, op := .fa 0 (.t 51), grd := some (47, false) },
  { dst := some 53, op := .ld none (.t 52), grd := some (47, false), pre := [] },
  { dst := some 54, op := .fa 1 (.t 2), grd := some (47, false) },
  { dst := some 55, op := .ld none (.t 54), grd := some (47, false), pre := [] },
  { dst := some 56, op := .mv (.t 7), grd := some (47, false) },
  { dst := some 57, op := .ia 6 (.t 55) (.t 56), grd := some (47, false) },
  { dst := some 58, op := .fa 0 (.t 57), grd := some (47, false) },
  { dst := some 59, op := .ld none (.t 58), grd := some (47, false), pre := [] },
  { dst := some 60, op := .bin .neq (.t 53) (.t 59), grd := some (47, false) },
  { dst := some 61, op := .pick (.t 47) (.c (.b true)) (.t 60) }])
 (.cond (.t 61) (.seq (.reg false [{ dst := some 4, op := .mv (.c (.b false)) }])
 .ret)
 .skip))))
 (.reg false [{ dst := some 12, op := .mv (.t 5) },
  { dst := some 13, op := .bin .add (.t 12) (.c (.i .i64 1)) },
  { dst := some 5, op := .mv (.t 13) }]))))))
 (.seq (.reg false [{ dst := some 62, op := .mv (.t 1) },
  { dst := some 63, op := .call .pure (.c (.fn 82 [] [])) [.t 62] },
  { dst := some 4, op := .mv (.t 63) }])
 .ret))) }
def A_xref06_rising : AFun := { res := [.t 2], body := (.seq (.reg false [{ dst := some 2, op := .mv (.c (.b false)) }])
 (.seq (.seq (.reg false [{ dst := some 3, op := .mv (.c (.i .i64 1)) }])
 (.blk 0 (.loop (.seq (.seq (.reg false [{ dst := some 4, op := .mv (.t 3) },
  { dst := some 5, op := .mv (.t 0) },
  { dst := some 6, op := .len (.t 5) },
  { dst := some 7, op := .bin .lss (.t 4) (.t 6) }])
 (.cond (.t 7) .skip
 (.ext 0)))
 (.seq (.blk 1 (.seq (.reg true [{ dst := some 10, op := .mv (.t 0) },
  { dst := some 11, op := .mv (.t 3) },
  { dst := some 12, op := .ia 2 (.t 10) (.t 11) },
  { dst := some 13, op := .fa 0 (.t 12) },
  { dst := some 14, op := .ld none (.t 13), pre := [] },
  { dst := some 15, op := .mv (.t 0) },
  { dst := some 16, op := .mv (.t 3) },
  { dst := some 17, op := .bin .sub (.t 16) (.c (.i .i64 1)) },
  { dst := some 18, op := .ia 2 (.t 15) (.t 17) },
  { dst := some 19, op := .fa 0 (.t 18) },
  { dst := some 20, op := .ld none (.t 19), pre := [] },
  { dst := some 21, op := .bin .lss (.t 14) (.t 20) },
  { dst := some 22, op := .mv (.t 21) },
  { dst := some 23, op := .mv (.t 0), grd := some (22, false) },
  { dst := some 24, op := .mv (.t 3), grd := some (22, false) },
  { dst := some 25, op := .ia 2 (.t 23) (.t 24), grd := some (22, false) },
  { dst := some 26, op := .fa 0 (.t 25), grd := some (22, false) },
  { dst := some 27, op := .ld none (.t 26), grd := some (22, false), pre := [] },
  { dst := some 28, op := .mv (.t 0), grd := some (22, false) },
  { dst := some 29, op := .mv (.t 3), grd := some (22, false) },
  { dst := some 30, op := .bin .sub (.t 29) (.c (.i .i64 1)), grd := some (22, false) },
  { dst := some 31, op := .ia 2 (.t 28) (.t 30), grd := some (22, false) },
  { dst := some 32, op := .fa 0 (.t 31), grd := some (22, false) },
  { dst := some 33, op := .ld none (.t 32), grd := some (22, false), pre := [] },
  { dst := some 34, op := .bin .eql (.t 27) (.t 33), grd := some (22, false) },
  { dst := some 35, op := .mv (.t 34), grd := some (22, false) },
  { dst := some 36, op := .mv (.t 0), grd := some (35, true) },
  { dst := some 37, op := .mv (.t 3), grd := some (35, true) },
  { dst := some 38, op := .ia 2 (.t 36) (.t 37), grd := some (35, true) },
  { dst := some 39, op := .fa 1 (.t 38), grd := some (35, true) },
  { dst := some 40, op := .ld none (.t 39), grd := some (35, true), pre := [] },
  { dst := some 41, op := .mv (.t 0), grd := some (35, true) },
  { dst := some 42, op := .mv (.t 3), grd := some (35, true) },
  { dst := some 43, op := .bin .sub (.t 42) (.c (.i .i64 1)), grd := some (35, true) },
  { dst := some 44, op := .ia 2 (.t 41) (.t 43), grd := some (35, true) },
  { dst := some 45, op := .fa 1 (.t 44), grd := some (35, true) },
  { dst := some 46, op := .ld none (.t 45), grd := some (35, true), pre := [] },
  { dst := some 47, op := .bin .leq (.t 40) (.t 46), grd := some (35, true) },
  { dst := some 48, op := .pick (.t 35) (.t 47) (.c (.b false)), grd := some (22, false) },
  { dst := some 49, op := .pick (.t 22) (.c (.b true)) (.t 48) }])
 (.cond (.t 49) (.seq (.reg false [{ dst := some 2, op := .mv (.c (.b false)) }])
 .ret)
 .skip)))
 (.reg false [{ dst := some 8, op := .mv (.t 3) },
  { dst := some 9, op := .bin .add (.t 8) (.c (.i .i64 1)) },
  { dst := some 3, op := .mv (.t 9) }]))))))
 (.seq (.reg false [{ dst := some 2, op := .mv (.c (.b true)) }])
 .ret))) }
def A_xref06_Po : AFun := { res := [.t 2], body := (.seq (.reg false [{ dst := some 1, op := .box (.t 0) },
  { dst := some 2, op := .mv (.c (.nilp)) }])
 (.seq (.reg false [{ dst := some 8, op := .fa 1 (.t 1) },
  { dst := some 9, op := .ld none (.t 8) },
  { dst := some 10, op := .len (.t 9) },
  { dst := some 11, op := .call .thaw (.c (.fn 27 [] [])) [.t 10, .c (.sl [] 0 .rig)] },
  { dst := some 3, op := .mv (.t 11) }])
 (.seq (.seq (.reg false [{ dst := some 4, op := .mv (.c (.i .i64 0)) }])
 (.blk 0 (.loop (.seq (.seq (.reg false [{ dst := some 12, op := .mv (.t 4) },
  { dst := some 13, op := .mv (.t 3) },
  { dst := some 14, op := .nilck (.t 13) },
  { dst := some 15, op := .fa 0 (.t 14) },
  { dst := some 16, op := .ld none (.t 15) },
  { dst := some 17, op := .bin .lss (.t 12) (.t 16) }])
 (.cond (.t 17) .skip
 (.ext 0)))
 (.seq (.blk 1 (.seq (.reg false [{ dst := some 20, op := .mv (.t 4) },
  { dst := some 21, op := .bin .add (.t 20) (.c (.i .i64 1)) },
  { dst := some 5, op := .mv (.t 21) }])
 (.blk 2 (.loop (.seq (.seq (.reg false [{ dst := some 22, op := .mv (.t 5) },
  { dst := some 23, op := .mv (.t 3) },
  { dst := some 24, op := .nilck (.t 23) },
  { dst := some 25, op := .fa 0 (.t 24) },
  { dst := some 26, op := .ld none (.t 25) },
  { dst := some 27, op := .bin .lss (.t 22) (.t 26) }])
 (.cond (.t 27) .skip
 (.ext 2)))
 (.seq (.blk 3 (.seq (.reg true [{ dst := some 30, op := .fa 1 (.t 1) },
  { dst := some 31, op := .ld none (.t 30), pre := [] },
  { dst := some 32, op := .mv (.t 4) },
  { dst := some 33, op := .ia 6 (.t 31) (.t 32) },
  { dst := some 34, op := .fa 0 (.t 33) },
  { dst := some 35, op := .ld none (.t 34), pre := [] },
  { dst := some 36, op := .fa 1 (.t 1) },
  { dst := some 37, op := .ld none (.t 36), pre := [] },
  { dst := some 38, op := .mv (.t 5) },
  { dst := some 39, op := .ia 6 (.t 37) (.t 38) },
  { dst := some 40, op := .fa 0 (.t 39) },
  { dst := some 41, op := .ld none (.t 40), pre := [] },
  { dst := some 6, op := .mv (.t 35) },
  { dst := some 7, op := .mv (.t 41) }])
 (.reg false [{ dst := some 42, op := .mv (.t 3) },
  { dst := some 43, op := .mv (.t 4) },
  { dst := some 44, op := .mv (.t 5) },
  { dst := some 45, op := .mv (.t 6) },
  { dst := some 46, op := .bin .eql (.t 45) (.c (.i .i64 0)) },
  { dst := some 47, op := .mv (.t 46) },
  { dst := some 48, op := .mv (.t 7), grd := some (47, true) },
  { dst := some 49, op := .bin .gtr (.t 48) (.c (.i .i64 0)), grd := some (47, true) },
  { dst := some 50, op := .pick (.t 47) (.t 49) (.c (.b false)) },
  { dst := some 51, op := .mv (.t 50) },
  { dst := some 52, op := .mv (.t 6), grd := some (51, false) },
  { dst := some 53, op := .bin .gtr (.t 52) (.c (.i .i64 0)), grd := some (51, false) },
  { dst := some 54, op := .mv (.t 53), grd := some (51, false) },
  { dst := some 55, op := .mv (.t 6), grd := some (54, true) },
  { dst := some 56, op := .mv (.t 7), grd := some (54, true) },
  { dst := some 57, op := .bin .eql (.t 55) (.t 56), grd := some (54, true) },
  { dst := some 58, op := .pick (.t 54) (.t 57) (.c (.b false)), grd := some (51, false) },
  { dst := some 59, op := .pick (.t 51) (.c (.b true)) (.t 58) },
  { dst := some 60, op := .nilck (.t 42) },
  { dst := some 61, op := .fa 1 (.t 60) },
  { dst := some 62, op := .iaa 40 40 (.t 61) (.t 43) },
  { dst := some 63, op := .iaa 40 1 (.t 62) (.t 44) },
  { dst := none, op := .st 1 (.t 63) (.t 59) }])))
 (.reg false [{ dst := some 28, op := .mv (.t 5) },
  { dst := some 29, op := .bin .add (.t 28) (.c (.i .i64 1)) },
  { dst := some 5, op := .mv (.t 29) }])))))))
 (.reg false [{ dst := some 18, op := .mv (.t 4) },
  { dst := some 19, op := .bin .add (.t 18) (.c (.i .i64 1)) },
  { dst := some 4, op := .mv (.t 19) }]))))))
 (.seq (.reg false [{ dst := some 64, op := .mv (.t 3) },
  { dst := some 2, op := .mv (.t 64) }])
 .ret)))) }
def A_xref06_Of : AFun := { res := [.t 4], body := (.seq (.reg false [{ dst := some 2, op := .box (.t 0) },
  { dst := some 4, op := .mv (.c (.nilp)) }])
 (.seq (.reg false [{ dst := some 5, op := .fa 1 (.t 2) },
  { dst := some 6, op := .ld none (.t 5) },
  { dst := some 7, op := .len (.t 6) },
  { dst := some 8, op := .mv (.t 1) },
  { dst := some 9, op := .call .pure (.c (.fn 27 [] [])) [.t 7, .t 8] },
  { dst := some 4, op := .mv (.t 9) }])
 .ret)) }
def A_xref06_Kind : AFun := { res := [.t 8], body := (.seq (.reg false [{ dst := some 4, op := .box (.t 0) },
  { dst := some 8, op := .mv (.c (.nilp)) }])
 (.seq (.reg false [{ dst := some 12, op := .fa 1 (.t 4) },
  { dst := some 13, op := .ld none (.t 12) },
  { dst := some 14, op := .len (.t 13) },
  { dst := some 15, op := .call .thaw (.c (.fn 27 [] [])) [.t 14, .c (.sl [] 0 .rig)] },
  { dst := some 9, op := .mv (.t 15) }])
 (.seq (.seq (.reg false [{ dst := some 10, op := .mv (.c (.i .i64 0)) }])
 (.blk 0 (.loop (.seq (.seq (.reg false [{ dst := some 16, op := .mv (.t 10) },
  { dst := some 17, op := .mv (.t 9) },
  { dst := some 18, op := .nilck (.t 17) },
  { dst := some 19, op := .fa 0 (.t 18) },
  { dst := some 20, op := .ld none (.t 19) },
  { dst := some 21, op := .bin .lss (.t 16) (.t 20) }])
 (.cond (.t 21) .skip
 (.ext 0)))
 (.seq (.blk 1 (.seq (.reg false [{ dst := some 24, op := .fa 1 (.t 4) },
  { dst := some 25, op := .ld none (.t 24) },
  { dst := some 26, op := .mv (.t 10) },
  { dst := some 27, op := .ia 6 (.t 25) (.t 26) },
  { dst := some 28, op := .ld (some 6) (.t 27) },
  { dst := some 11, op := .new (List.replicate 5 (.i .i64 0) ++ [.b false]) },
  { dst := none, op := .st 6 (.t 11) (.t 28) }])
 (.reg true [{ dst := some 29, op := .mv (.t 9) },
  { dst := some 30, op := .mv (.t 10) },
  { dst := some 31, op := .mv (.t 10) },
  { dst := some 32, op := .fa 1 (.t 11) },
  { dst := some 33, op := .ld none (.t 32), pre := [] },
  { dst := some 34, op := .mv (.t 1) },
  { dst := some 35, op := .bin .eql (.t 33) (.t 34) },
  { dst := some 36, op := .mv (.t 35) },
  { dst := some 37, op := .fa 2 (.t 11), grd := some (36, true) },
  { dst := some 38, op := .ld none (.t 37), grd := some (36, true), pre := [] },
  { dst := some 39, op := .mv (.t 2), grd := some (36, true) },
  { dst := some 40, op := .bin .geq (.t 38) (.t 39), grd := some (36, true) },
  { dst := some 41, op := .pick (.t 36) (.t 40) (.c (.b false)) },
  { dst := some 42, op := .mv (.t 41) },
  { dst := some 43, op := .fa 2 (.t 11), grd := some (42, true) },
  { dst := some 44, op := .ld none (.t 43), grd := some (42, true), pre := [] },
  { dst := some 45, op := .mv (.t 3), grd := some (42, true) },
  { dst := some 46, op := .bin .leq (.t 44) (.t 45), grd := some (42, true) },
  { dst := some 47, op := .pick (.t 42) (.t 46) (.c (.b false)) },
  { dst := some 48, op := .nilck (.t 29) },
  { dst := some 49, op := .fa 1 (.t 48) },
  { dst := some 50, op := .iaa 40 40 (.t 49) (.t 30) },
  { dst := some 51, op := .iaa 40 1 (.t 50) (.t 31) },
  { dst := none, op := .st 1 (.t 51) (.t 47), pre := [] }])))
 (.reg false [{ dst := some 22, op := .mv (.t 10) },
  { dst := some 23, op := .bin .add (.t 22) (.c (.i .i64 1)) },
  { dst := some 10, op := .mv (.t 23) }]))))))
 (.seq (.reg false [{ dst := some 52, op := .mv (.t 9) },
  { dst := some 8, op := .mv (.t 52) }])
 .ret)))) }
structure Pk_xref06 (F : Funs) : Prop where
  xref06_Check : F 45 = some A_xref06_Check
  xref06_event : F 63 = some A_xref06_event
  xref06_rf : F 64 = some A_xref06_rf
  xref06_co : F 65 = some A_xref06_co
  xref06_rmw : F 66 = some A_xref06_rmw
  xref06_deps : F 67 = some A_xref06_deps
  xref06_rising : F 82 = some A_xref06_rising
  xref06_Po : F 84 = some A_xref06_Po
end Go.Ab
end
section
namespace Go.Ab
def A_xref09_Rf : AFun := { res := [.t 2], body := (.seq (.reg false [{ dst := some 1, op := .box (.t 0) },
  { dst := some 2, op := .mv (.c (.nilp)) }])
 (.seq (.reg false [{ dst := some 5, op := .fa 1 (.t 1) },
  { dst := some 6, op := .ld none (.t 5) },
  { dst := some 7, op := .len (.t 6) },
  { dst := some 8, op := .call .thaw (.c (.fn 27 [] [])) [.t 7, .c (.sl [] 0 .rig)] },
  { dst := some 3, op := .mv (.t 8) }])
 (.seq (.seq (.reg false [{ dst := some 4, op := .mv (.c (.i .i64 0)) }])
 (.blk 0 (.loop (.seq (.seq (.reg false [{ dst := some 9, op := .mv (.t 4) },
  { dst := some 10, op := .fa 2 (.t 1) },
  { dst := some 11, op := .ld none (.t 10) },
  { dst := some 12, op := .len (.t 11) },
  { dst := some 13, op := .bin .lss (.t 9) (.t 12) }])
 (.cond (.t 13) .skip
 (.ext 0)))
 (.seq (.blk 1 (.seq (.reg false [{ dst := some 16, op := .fa 2 (.t 1) },
  { dst := some 17, op := .ld none (.t 16) },
  { dst := some 18, op := .mv (.t 4) },
  { dst := some 19, op := .ia 1 (.t 17) (.t 18) },
  { dst := some 20, op := .ld none (.t 19) },
  { dst := some 21, op := .bin .geq (.t 20) (.c (.i .i64 0)) }])
 (.cond (.t 21) (.reg true [{ dst := some 22, op := .mv (.t 3) },
  { dst := some 23, op := .fa 2 (.t 1) },
  { dst := some 24, op := .ld none (.t 23), pre := [] },
  { dst := some 25, op := .mv (.t 4) },
  { dst := some 26, op := .ia 1 (.t 24) (.t 25) },
  { dst := some 27, op := .ld none (.t 26), pre := [] },
  { dst := some 28, op := .mv (.t 4) },
  { dst := some 29, op := .nilck (.t 22) },
  { dst := some 30, op := .fa 1 (.t 29) },
  { dst := some 31, op := .iaa 40 40 (.t 30) (.t 27) },
  { dst := some 32, op := .iaa 40 1 (.t 31) (.t 28) },
  { dst := none, op := .st 1 (.t 32) (.c (.b true)), pre := [] }])
 .skip)))
 (.reg false [{ dst := some 14, op := .mv (.t 4) },
  { dst := some 15, op := .bin .add (.t 14) (.c (.i .i64 1)) },
  { dst := some 4, op := .mv (.t 15) }]))))))
 (.seq (.reg false [{ dst := some 33, op := .mv (.t 3) },
  { dst := some 2, op := .mv (.t 33) }])
 .ret)))) }
def A_xref09_Co : AFun := { res := [.t 2], body := (.seq (.reg false [{ dst := some 1, op := .box (.t 0) },
  { dst := some 2, op := .mv (.c (.nilp)) }])
 (.seq (.reg false [{ dst := some 7, op := .fa 1 (.t 1) },
  { dst := some 8, op := .ld none (.t 7) },
  { dst := some 9, op := .len (.t 8) },
  { dst := some 10, op := .call .thaw (.c (.fn 27 [] [])) [.t 9, .c (.sl [] 0 .rig)] },
  { dst := some 3, op := .mv (.t 10) }])
 (.seq (.seq (.reg false [{ dst := some 4, op := .mv (.c (.i .i64 0)) }])
 (.blk 0 (.loop (.seq (.seq (.reg false [{ dst := some 11, op := .mv (.t 4) },
  { dst := some 12, op := .fa 3 (.t 1) },
  { dst := some 13, op := .ld none (.t 12) },
  { dst := some 14, op := .len (.t 13) },
  { dst := some 15, op := .bin .lss (.t 11) (.t 14) }])
 (.cond (.t 15) .skip
 (.ext 0)))
 (.seq (.blk 1 (.seq (.reg false [{ dst := some 5, op := .mv (.c (.i .i64 0)) }])
 (.blk 2 (.loop (.seq (.seq (.reg false [{ dst := some 18, op := .mv (.t 5) },
  { dst := some 19, op := .fa 3 (.t 1) },
  { dst := some 20, op := .ld none (.t 19) },
  { dst := some 21, op := .mv (.t 4) },
  { dst := some 22, op := .ia 1 (.t 20) (.t 21) },
  { dst := some 23, op := .ld none (.t 22) },
  { dst := some 24, op := .len (.t 23) },
  { dst := some 25, op := .bin .lss (.t 18) (.t 24) }])
 (.cond (.t 25) .skip
 (.ext 2)))
 (.seq (.blk 3 (.seq (.reg false [{ dst := some 28, op := .mv (.t 5) },
  { dst := some 29, op := .bin .add (.t 28) (.c (.i .i64 1)) },
  { dst := some 6, op := .mv (.t 29) }])
 (.blk 4 (.loop (.seq (.seq (.reg false [{ dst := some 30, op := .mv (.t 6) },
  { dst := some 31, op := .fa 3 (.t 1) },
  { dst := some 32, op := .ld none (.t 31) },
  { dst := some 33, op := .mv (.t 4) },
  { dst := some 34, op := .ia 1 (.t 32) (.t 33) },
  { dst := some 35, op := .ld none (.t 34) },
  { dst := some 36, op := .len (.t 35) },
  { dst := some 37, op := .bin .lss (.t 30) (.t 36) }])
 (.cond (.t 37) .skip
 (.ext 4)))
 (.seq (.blk 5 (.reg true [{ dst := some 40, op := .mv (.t 3) },
  { dst := some 41, op := .fa 3 (.t 1) },
  { dst := some 42, op := .ld none (.t 41), pre := [] },
  { dst := some 43, op := .mv (.t 4) },
  { dst := some 44, op := .ia 1 (.t 42) (.t 43) },
  { dst := some 45, op := .ld none (.t 44), pre := [] },
  { dst := some 46, op := .mv (.t 5) },
  { dst := some 47, op := .ia 1 (.t 45) (.t 46) },
  { dst := some 48, op := .ld none (.t 47), pre := [] },
  { dst := some 49, op := .fa 3 (.t 1) },
  { dst := some 50, op := .ld none (.t 49), pre := [] },
  { dst := some 51, op := .mv (.t 4) },
  { dst := some 52, op := .ia 1 (.t 50) (.t 51) },
  { dst := some 53, op := .ld none (.t 52), pre := [] },
  { dst := some 54, op := .mv (.t 6) },
  { dst := some 55, op := .ia 1 (.t 53) (.t 54) },
  { dst := some 56, op := .ld none (.t 55), pre := [] },
  { dst := some 57, op := .nilck (.t 40) },
  { dst := some 58, op := .fa 1 (.t 57) },
  { dst := some 59, op := .iaa 40 40 (.t 58) (.t 48) },
  { dst := some 60, op := .iaa 40 1 (.t 59) (.t 56) },
  { dst := none, op := .st 1 (.t 60) (.c (.b true)), pre := [] }]))
 (.reg false [{ dst := some 38, op := .mv (.t 6) },
  { dst := some 39, op := .bin .add (.t 38) (.c (.i .i64 1)) },
  { dst := some 6, op := .mv (.t 39) }])))))))
 (.reg false [{ dst := some 26, op := .mv (.t 5) },
  { dst := some 27, op := .bin .add (.t 26) (.c (.i .i64 1)) },
  { dst := some 5, op := .mv (.t 27) }])))))))
 (.reg false [{ dst := some 16, op := .mv (.t 4) },
  { dst := some 17, op := .bin .add (.t 16) (.c (.i .i64 1)) },
  { dst := some 4, op := .mv (.t 17) }]))))))
 (.seq (.reg false [{ dst := some 61, op := .mv (.t 3) },
  { dst := some 2, op := .mv (.t 61) }])
 .ret)))) }
def A_xref09_Fr : AFun := { res := [.t 2], body := (.seq (.reg false [{ dst := some 1, op := .box (.t 0) },
  { dst := some 2, op := .mv (.c (.nilp)) }])
 (.seq (.reg true [{ dst := some 3, op := .ld (some 8) (.t 1), pre := [] },
  { dst := some 4, op := .call .pure (.c (.fn 69 [] [])) [.t 3], pre := [] },
  { dst := some 5, op := .call .pure (.c (.fn 33 [] [])) [.t 4], pre := [] },
  { dst := some 6, op := .ld (some 8) (.t 1), pre := [] },
  { dst := some 7, op := .call .pure (.c (.fn 70 [] [])) [.t 6], pre := [] },
  { dst := some 8, op := .call .pure (.c (.fn 32 [] [])) [.t 5, .t 7], pre := [] },
  { dst := some 2, op := .mv (.t 8) }])
 .ret)) }
def A_xref09_Eco : AFun := { res := [.t 2], body := (.seq (.reg false [{ dst := some 1, op := .box (.t 0) },
  { dst := some 2, op := .mv (.c (.nilp)) }])
 (.seq (.reg false [{ dst := some 3, op := .ld (some 8) (.t 1) },
  { dst := some 4, op := .call .pure (.c (.fn 83 [] [])) [.t 3] },
  { dst := some 5, op := .call .pure (.c (.fn 34 [] [])) [.t 4] },
  { dst := some 2, op := .mv (.t 5) }])
 .ret)) }
def A_xref09_Loc : AFun := { res := [.t 2], body := (.seq (.reg false [{ dst := some 1, op := .box (.t 0) },
  { dst := some 2, op := .mv (.c (.nilp)) }])
 (.seq (.reg false [{ dst := some 8, op := .ld (some 8) (.t 1) },
  { dst := some 9, op := .call .thaw (.c (.fn 84 [] [])) [.t 8] },
  { dst := some 3, op := .mv (.t 9) }])
 (.seq (.seq (.reg false [{ dst := some 4, op := .mv (.c (.i .i64 0)) }])
 (.blk 0 (.loop (.seq (.seq (.reg false [{ dst := some 10, op := .mv (.t 4) },
  { dst := some 11, op := .mv (.t 3) },
  { dst := some 12, op := .nilck (.t 11) },
  { dst := some 13, op := .fa 0 (.t 12) },
  { dst := some 14, op := .ld none (.t 13) },
  { dst := some 15, op := .bin .lss (.t 10) (.t 14) }])
 (.cond (.t 15) .skip
 (.ext 0)))
 (.seq (.blk 1 (.seq (.reg false [{ dst := some 5, op := .mv (.c (.i .i64 0)) }])
 (.blk 2 (.loop (.seq (.seq (.reg false [{ dst := some 18, op := .mv (.t 5) },
  { dst := some 19, op := .mv (.t 3) },
  { dst := some 20, op := .nilck (.t 19) },
  { dst := some 21, op := .fa 0 (.t 20) },
  { dst := some 22, op := .ld none (.t 21) },
  { dst := some 23, op := .bin .lss (.t 18) (.t 22) }])
 (.cond (.t 23) .skip
 (.ext 2)))
 (.seq (.blk 3 (.seq (.reg true [{ dst := some 26, op := .fa 1 (.t 1) },
  { dst := some 27, op := .ld none (.t 26), pre := [] },
  { dst := some 28, op := .mv (.t 4) },
  { dst := some 29, op := .ia 6 (.t 27) (.t 28) },
  { dst := some 30, op := .ld (some 6) (.t 29), pre := [] },
  { dst := some 31, op := .fa 1 (.t 1) },
  { dst := some 32, op := .ld none (.t 31), pre := [] },
  { dst := some 33, op := .mv (.t 5) },
  { dst := some 34, op := .ia 6 (.t 32) (.t 33) },
  { dst := some 35, op := .ld (some 6) (.t 34), pre := [] },
  { dst := some 6, op := .new (List.replicate 5 (.i .i64 0) ++ [.b false]) },
  { dst := some 7, op := .new (List.replicate 5 (.i .i64 0) ++ [.b false]) },
  { dst := none, op := .stL 6 (.t 6) (.t 30), pre := [10] },
  { dst := none, op := .stL 6 (.t 7) (.t 35), pre := [11] }])
 (.reg true [{ dst := some 36, op := .mv (.t 3) },
  { dst := some 37, op := .mv (.t 4) },
  { dst := some 38, op := .mv (.t 5) },
  { dst := some 39, op := .mv (.t 3) },
  { dst := some 40, op := .mv (.t 4) },
  { dst := some 41, op := .mv (.t 5) },
  { dst := some 42, op := .nilck (.t 39) },
  { dst := some 43, op := .fa 1 (.t 42) },
  { dst := some 44, op := .iaa 40 40 (.t 43) (.t 40) },
  { dst := some 45, op := .iaa 40 1 (.t 44) (.t 41) },
  { dst := some 46, op := .ld none (.t 45), pre := [] },
  { dst := some 47, op := .mv (.t 46) },
  { dst := some 48, op := .fa 1 (.t 6), grd := some (47, true) },
  { dst := some 49, op := .ld none (.t 48), grd := some (47, true), pre := [] },
  { dst := some 50, op := .bin .neq (.t 49) (.c (.i .i64 3)), grd := some (47, true) },
  { dst := some 51, op := .pick (.t 47) (.t 50) (.c (.b false)) },
  { dst := some 52, op := .mv (.t 51) },
  { dst := some 53, op := .fa 1 (.t 7), grd := some (52, true) },
  { dst := some 54, op := .ld none (.t 53), grd := some (52, true), pre := [] },
  { dst := some 55, op := .bin .neq (.t 54) (.c (.i .i64 3)), grd := some (52, true) },
  { dst := some 56, op := .pick (.t 52) (.t 55) (.c (.b false)) },
  { dst := some 57, op := .mv (.t 56) },
  { dst := some 58, op := .fa 3 (.t 6), grd := some (57, true) },
  { dst := some 59, op := .ld none (.t 58), grd := some (57, true), pre := [] },
  { dst := some 60, op := .fa 3 (.t 7), grd := some (57, true) },
  { dst := some 61, op := .ld none (.t 60), grd := some (57, true), pre := [] },
  { dst := some 62, op := .bin .eql (.t 59) (.t 61), grd := some (57, true) },
  { dst := some 63, op := .pick (.t 57) (.t 62) (.c (.b false)) },
  { dst := some 64, op := .nilck (.t 36) },
  { dst := some 65, op := .fa 1 (.t 64) },
  { dst := some 66, op := .iaa 40 40 (.t 65) (.t 37) },
  { dst := some 67, op := .iaa 40 1 (.t 66) (.t 38) },
  { dst := none, op := .st 1 (.t 67) (.t 63), pre := [] }])))
 (.reg false [{ dst := some 24, op := .mv (.t 5) },
  { dst := some 25, op := .bin .add (.t 24) (.c (.i .i64 1)) },
  { dst := some 5, op := .mv (.t 25) }])))))))
 (.reg false [{ dst := some 16, op := .mv (.t 4) },
  { dst := some 17, op := .bin .add (.t 16) (.c (.i .i64 1)) },
  { dst := some 4, op := .mv (.t 17) }]))))))
 (.seq (.reg false [{ dst := some 68, op := .mv (.t 3) },
  { dst := some 2, op := .mv (.t 68) }])
 .ret)))) }
def A_xref09_Inner : AFun := { res := [.t 4], body := (.seq (.reg false [{ dst := some 2, op := .box (.t 0) },
  { dst := some 4, op := .mv (.c (.nilp)) }])
 (.seq (.reg false [{ dst := some 5, op := .ld (some 8) (.t 2) },
  { dst := some 6, op := .mv (.t 1) },
  { dst := some 7, op := .call .pure (.c (.fn 85 [] [])) [.t 5, .t 6, .c (.b true)] },
  { dst := some 4, op := .mv (.t 7) }])
 .ret)) }
def A_xref09_Outer : AFun := { res := [.t 4], body := (.seq (.reg false [{ dst := some 2, op := .box (.t 0) },
  { dst := some 4, op := .mv (.c (.nilp)) }])
 (.seq (.reg false [{ dst := some 5, op := .ld (some 8) (.t 2) },
  { dst := some 6, op := .mv (.t 1) },
  { dst := some 7, op := .call .pure (.c (.fn 85 [] [])) [.t 5, .t 6, .c (.b false)] },
  { dst := some 4, op := .mv (.t 7) }])
 .ret)) }
def A_xref09_Com : AFun := { res := [.t 2], body := (.seq (.reg false [{ dst := some 1, op := .box (.t 0) },
  { dst := some 2, op := .mv (.c (.nilp)) }])
 (.seq (.reg true [{ dst := some 3, op := .ld (some 8) (.t 1), pre := [] },
  { dst := some 4, op := .call .pure (.c (.fn 69 [] [])) [.t 3], pre := [] },
  { dst := some 5, op := .ld (some 8) (.t 1), pre := [] },
  { dst := some 6, op := .call .pure (.c (.fn 70 [] [])) [.t 5], pre := [] },
  { dst := some 7, op := .call .pure (.c (.fn 29 [] [])) [.t 4, .t 6], pre := [] },
  { dst := some 8, op := .ld (some 8) (.t 1), pre := [] },
  { dst := some 9, op := .call .pure (.c (.fn 71 [] [])) [.t 8], pre := [] },
  { dst := some 10, op := .call .pure (.c (.fn 29 [] [])) [.t 7, .t 9], pre := [] },
  { dst := some 2, op := .mv (.t 10) }])
 .ret)) }
def A_xref09_part : AFun := { res := [.t 6], body := (.seq (.reg false [{ dst := some 3, op := .box (.t 0) },
  { dst := some 6, op := .mv (.c (.nilp)) }])
 (.seq (.reg false [{ dst := some 10, op := .mv (.t 1) },
  { dst := some 11, op := .nilck (.t 10) },
  { dst := some 12, op := .fa 0 (.t 11) },
  { dst := some 13, op := .ld none (.t 12) },
  { dst := some 14, op := .call .thaw (.c (.fn 27 [] [])) [.t 13, .c (.sl [] 0 .rig)] },
  { dst := some 7, op := .mv (.t 14) }])
 (.seq (.seq (.reg false [{ dst := some 8, op := .mv (.c (.i .i64 0)) }])
 (.blk 0 (.loop (.seq (.seq (.reg false [{ dst := some 15, op := .mv (.t 8) },
  { dst := some 16, op := .mv (.t 1) },
  { dst := some 17, op := .nilck (.t 16) },
  { dst := some 18, op := .fa 0 (.t 17) },
  { dst := some 19, op := .ld none (.t 18) },
  { dst := some 20, op := .bin .lss (.t 15) (.t 19) },
  { dst := some 21, op := .mv (.t 20) },
  { dst := some 22, op := .mv (.t 8), grd := some (21, true) },
  { dst := some 23, op := .fa 1 (.t 3), grd := some (21, true) },
  { dst := some 24, op := .ld none (.t 23), grd := some (21, true) },
  { dst := some 25, op := .len (.t 24), grd := some (21, true) },
  { dst := some 26, op := .bin .lss (.t 22) (.t 25), grd := some (21, true) },
  { dst := some 27, op := .pick (.t 21) (.t 26) (.c (.b false)) }])
 (.cond (.t 27) .skip
 (.ext 0)))
 (.seq (.blk 1 (.seq (.reg false [{ dst := some 9, op := .mv (.c (.i .i64 0)) }])
 (.blk 2 (.loop (.seq (.seq (.reg false [{ dst := some 30, op := .mv (.t 9) },
  { dst := some 31, op := .mv (.t 1) },
  { dst := some 32, op := .nilck (.t 31) },
  { dst := some 33, op := .fa 0 (.t 32) },
  { dst := some 34, op := .ld none (.t 33) },
  { dst := some 35, op := .bin .lss (.t 30) (.t 34) },
  { dst := some 36, op := .mv (.t 35) },
  { dst := some 37, op := .mv (.t 9), grd := some (36, true) },
  { dst := some 38, op := .fa 1 (.t 3), grd := some (36, true) },
  { dst := some 39, op := .ld none (.t 38), grd := some (36, true) },
  { dst := some 40, op := .len (.t 39), grd := some (36, true) },
  { dst := some 41, op := .bin .lss (.t 37) (.t 40), grd := some (36, true) },
  { dst := some 42, op := .pick (.t 36) (.t 41) (.c (.b false)) }])
 (.cond (.t 42) .skip
 (.ext 2)))
 (.seq (.blk 3 (.reg true [{ dst := some 45, op := .mv (.t 7) },
  { dst := some 46, op := .mv (.t 8) },
  { dst := some 47, op := .mv (.t 9) },
  { dst := some 48, op := .mv (.t 1) },
  { dst := some 49, op := .mv (.t 8) },
  { dst := some 50, op := .mv (.t 9) },
  { dst := some 51, op := .nilck (.t 48) },
  { dst := some 52, op := .fa 1 (.t 51) },
  { dst := some 53, op := .iaa 40 40 (.t 52) (.t 49) },
  { dst := some 54, op := .iaa 40 1 (.t 53) (.t 50) },
  { dst := some 55, op := .ld none (.t 54), pre := [] },
  { dst := some 56, op := .mv (.t 55) },
  { dst := some 57, op := .fa 1 (.t 3), grd := some (56, true) },
  { dst := some 58, op := .ld none (.t 57), grd := some (56, true), pre := [] },
  { dst := some 59, op := .mv (.t 8), grd := some (56, true) },
  { dst := some 60, op := .ia 6 (.t 58) (.t 59), grd := some (56, true) },
  { dst := some 61, op := .fa 0 (.t 60), grd := some (56, true) },
  { dst := some 62, op := .ld none (.t 61), grd := some (56, true), pre := [] },
  { dst := some 63, op := .fa 1 (.t 3), grd := some (56, true) },
  { dst := some 64, op := .ld none (.t 63), grd := some (56, true), pre := [] },
  { dst := some 65, op := .mv (.t 9), grd := some (56, true) },
  { dst := some 66, op := .ia 6 (.t 64) (.t 65), grd := some (56, true) },
  { dst := some 67, op := .fa 0 (.t 66), grd := some (56, true) },
  { dst := some 68, op := .ld none (.t 67), grd := some (56, true), pre := [] },
  { dst := some 69, op := .bin .eql (.t 62) (.t 68), grd := some (56, true) },
  { dst := some 70, op := .mv (.t 2), grd := some (56, true) },
  { dst := some 71, op := .eqb false (.t 69) (.t 70), grd := some (56, true) },
  { dst := some 72, op := .pick (.t 56) (.t 71) (.c (.b false)) },
  { dst := some 73, op := .nilck (.t 45) },
  { dst := some 74, op := .fa 1 (.t 73) },
  { dst := some 75, op := .iaa 40 40 (.t 74) (.t 46) },
  { dst := some 76, op := .iaa 40 1 (.t 75) (.t 47) },
  { dst := none, op := .st 1 (.t 76) (.t 72), pre := [] }]))
 (.reg false [{ dst := some 43, op := .mv (.t 9) },
  { dst := some 44, op := .bin .add (.t 43) (.c (.i .i64 1)) },
  { dst := some 9, op := .mv (.t 44) }])))))))
 (.reg false [{ dst := some 28, op := .mv (.t 8) },
  { dst := some 29, op := .bin .add (.t 28) (.c (.i .i64 1)) },
  { dst := some 8, op := .mv (.t 29) }]))))))
 (.seq (.reg false [{ dst := some 77, op := .mv (.t 7) },
  { dst := some 6, op := .mv (.t 77) }])
 .ret)))) }
structure Pk_xref09 (F : Funs) : Prop where
  xref09_Rf : F 69 = some A_xref09_Rf
  xref09_Co : F 70 = some A_xref09_Co
  xref09_Fr : F 71 = some A_xref09_Fr
  xref09_Loc : F 73 = some A_xref09_Loc
  xref09_Inner : F 74 = some A_xref09_Inner
  xref09_Outer : F 75 = some A_xref09_Outer
  xref09_part : F 85 = some A_xref09_part
end Go.Ab
end
section
namespace Go.Ab
def A_xref10_Rs : AFun := { res := [.t 2], body := (.seq (.reg false [{ dst := some 1, op := .box (.t 0) },
  { dst := some 2, op := .mv (.c (.nilp)) }])
 (.seq (.reg true [{ dst := some 6, op := .ld (some 8) (.t 1), pre := [] },
  { dst := some 7, op := .call .pure (.c (.fn 230 [] [])) [.t 6], pre := [] },
  { dst := some 8, op := .ld (some 8) (.t 1), pre := [] },
  { dst := some 9, op := .call .pure (.c (.fn 73 [] [])) [.t 8], pre := [] },
  { dst := some 3, op := .mv (.t 7) },
  { dst := some 4, op := .mv (.t 9) }])
 (.seq (.reg true [{ dst := some 10, op := .mv (.t 4) },
  { dst := some 11, op := .call .pure (.c (.fn 35 [] [])) [.t 10], pre := [] },
  { dst := some 12, op := .ld (some 8) (.t 1), pre := [] },
  { dst := some 13, op := .call .pure (.c (.fn 69 [] [])) [.t 12], pre := [] },
  { dst := some 14, op := .call .pure (.c (.fn 32 [] [])) [.t 11, .t 13], pre := [] },
  { dst := some 15, op := .ld (some 8) (.t 1), pre := [] },
  { dst := some 16, op := .fa 4 (.t 1) },
  { dst := some 17, op := .ld none (.t 16), pre := [] },
  { dst := some 18, op := .call .pure (.c (.fn 223 [] [])) [.t 15, .t 17], pre := [] },
  { dst := some 19, op := .call .pure (.c (.fn 32 [] [])) [.t 14, .t 18], pre := [] },
  { dst := some 5, op := .mv (.t 19) }])
 (.seq (.reg false [{ dst := some 20, op := .mv (.t 3) },
  { dst := some 21, op := .mv (.t 4) },
  { dst := some 22, op := .call .pure (.c (.fn 32 [] [])) [.t 20, .t 21] },
  { dst := some 23, op := .mv (.t 3) },
  { dst := some 24, op := .call .pure (.c (.fn 32 [] [])) [.t 22, .t 23] },
  { dst := some 25, op := .mv (.t 3) },
  { dst := some 26, op := .mv (.t 5) },
  { dst := some 27, op := .call .pure (.c (.fn 231 [] [])) [.t 26] },
  { dst := some 28, op := .call .pure (.c (.fn 32 [] [])) [.t 25, .t 27] },
  { dst := some 29, op := .call .pure (.c (.fn 29 [] [])) [.t 24, .t 28] },
  { dst := some 2, op := .mv (.t 29) }])
 .ret)))) }
def A_xref10_Release : AFun := { res := [.t 2], body := (.seq (.reg false [{ dst := some 1, op := .box (.t 0) },
  { dst := some 2, op := .mv (.c (.nilp)) }])
 (.seq (.reg true [{ dst := some 3, op := .ld (some 8) (.t 1), pre := [] },
  { dst := some 4, op := .call .pure (.c (.fn 232 [] [])) [.t 3], pre := [] },
  { dst := some 5, op := .ld (some 8) (.t 1), pre := [] },
  { dst := some 6, op := .call .pure (.c (.fn 233 [] [])) [.t 5], pre := [] },
  { dst := some 7, op := .ld (some 8) (.t 1), pre := [] },
  { dst := some 8, op := .call .pure (.c (.fn 84 [] [])) [.t 7], pre := [] },
  { dst := some 9, op := .call .pure (.c (.fn 32 [] [])) [.t 6, .t 8], pre := [] },
  { dst := some 10, op := .call .pure (.c (.fn 29 [] [])) [.t 4, .t 9], pre := [] },
  { dst := some 11, op := .ld (some 8) (.t 1), pre := [] },
  { dst := some 12, op := .call .pure (.c (.fn 182 [] [])) [.t 11], pre := [] },
  { dst := some 13, op := .call .pure (.c (.fn 32 [] [])) [.t 10, .t 12], pre := [] },
  { dst := some 2, op := .mv (.t 13) }])
 .ret)) }
def A_xref10_Sw : AFun := { res := [.t 2], body := (.seq (.reg false [{ dst := some 1, op := .box (.t 0) },
  { dst := some 2, op := .mv (.c (.nilp)) }])
 (.seq (.reg false [{ dst := some 5, op := .ld (some 8) (.t 1) },
  { dst := some 6, op := .call .pure (.c (.fn 69 [] [])) [.t 5] },
  { dst := some 3, op := .mv (.t 6) }])
 (.seq (.reg true [{ dst := some 7, op := .ld (some 8) (.t 1), pre := [] },
  { dst := some 8, op := .mv (.t 3) },
  { dst := some 9, op := .call .pure (.c (.fn 74 [] [])) [.t 7, .t 8], pre := [] },
  { dst := some 10, op := .ld (some 8) (.t 1), pre := [] },
  { dst := some 11, op := .call .pure (.c (.fn 73 [] [])) [.t 10], pre := [] },
  { dst := some 12, op := .call .pure (.c (.fn 35 [] [])) [.t 11], pre := [] },
  { dst := some 13, op := .ld (some 8) (.t 1), pre := [] },
  { dst := some 14, op := .mv (.t 3) },
  { dst := some 15, op := .call .pure (.c (.fn 75 [] [])) [.t 13, .t 14], pre := [] },
  { dst := some 16, op := .call .pure (.c (.fn 32 [] [])) [.t 12, .t 15], pre := [] },
  { dst := some 17, op := .call .pure (.c (.fn 29 [] [])) [.t 9, .t 16], pre := [] },
  { dst := some 4, op := .mv (.t 17) }])
 (.seq (.reg true [{ dst := some 18, op := .ld (some 8) (.t 1), pre := [] },
  { dst := some 19, op := .call .pure (.c (.fn 183 [] [])) [.t 18], pre := [] },
  { dst := some 20, op := .mv (.t 4) },
  { dst := some 21, op := .call .pure (.c (.fn 32 [] [])) [.t 19, .t 20], pre := [] },
  { dst := some 22, op := .ld (some 8) (.t 1), pre := [] },
  { dst := some 23, op := .call .pure (.c (.fn 234 [] [])) [.t 22], pre := [] },
  { dst := some 24, op := .ld (some 8) (.t 1), pre := [] },
  { dst := some 25, op := .call .pure (.c (.fn 84 [] [])) [.t 24], pre := [] },
  { dst := some 26, op := .ld (some 8) (.t 1), pre := [] },
  { dst := some 27, op := .call .pure (.c (.fn 235 [] [])) [.t 26], pre := [] },
  { dst := some 28, op := .call .pure (.c (.fn 32 [] [])) [.t 25, .t 27], pre := [] },
  { dst := some 29, op := .call .pure (.c (.fn 29 [] [])) [.t 23, .t 28], pre := [] },
  { dst := some 30, op := .call .pure (.c (.fn 32 [] [])) [.t 21, .t 29], pre := [] },
  { dst := some 2, op := .mv (.t 30) }])
 .ret)))) }
def A_xref10_Hb : AFun := { res := [.t 2], body := (.seq (.reg false [{ dst := some 1, op := .box (.t 0) },
  { dst := some 2, op := .mv (.c (.nilp)) }])
 (.seq (.reg true [{ dst := some 3, op := .ld (some 8) (.t 1), pre := [] },
  { dst := some 4, op := .call .pure (.c (.fn 84 [] [])) [.t 3], pre := [] },
  { dst := some 5, op := .ld (some 8) (.t 1), pre := [] },
  { dst := some 6, op := .call .pure (.c (.fn 184 [] [])) [.t 5], pre := [] },
  { dst := some 7, op := .call .pure (.c (.fn 29 [] [])) [.t 4, .t 6], pre := [] },
  { dst := some 8, op := .call .pure (.c (.fn 34 [] [])) [.t 7], pre := [] },
  { dst := some 2, op := .mv (.t 8) }])
 .ret)) }
def A_xref10_W : AFun := { res := [.t 2], body := (.seq (.reg false [{ dst := some 1, op := .box (.t 0) },
  { dst := some 2, op := .mv (.c (.nilp)) }])
 (.seq (.reg false [{ dst := some 3, op := .ld (some 8) (.t 1) },
  { dst := some 4, op := .call .pure (.c (.fn 225 [] [])) [.t 3, .c (.i .i64 2), .c (.i .i64 0), .c (.i .i64 2)] },
  { dst := some 2, op := .mv (.t 4) }])
 .ret)) }
def A_xref10_Wrel : AFun := { res := [.t 2], body := (.seq (.reg false [{ dst := some 1, op := .box (.t 0) },
  { dst := some 2, op := .mv (.c (.nilp)) }])
 (.seq (.reg false [{ dst := some 3, op := .ld (some 8) (.t 1) },
  { dst := some 4, op := .call .pure (.c (.fn 225 [] [])) [.t 3, .c (.i .i64 2), .c (.i .i64 2), .c (.i .i64 2)] },
  { dst := some 2, op := .mv (.t 4) }])
 .ret)) }
def A_xref10_Frel : AFun := { res := [.t 2], body := (.seq (.reg false [{ dst := some 1, op := .box (.t 0) },
  { dst := some 2, op := .mv (.c (.nilp)) }])
 (.seq (.reg false [{ dst := some 3, op := .ld (some 8) (.t 1) },
  { dst := some 4, op := .call .pure (.c (.fn 225 [] [])) [.t 3, .c (.i .i64 3), .c (.i .i64 2), .c (.i .i64 4)] },
  { dst := some 2, op := .mv (.t 4) }])
 .ret)) }
def A_xref10_Racq : AFun := { res := [.t 2], body := (.seq (.reg false [{ dst := some 1, op := .box (.t 0) },
  { dst := some 2, op := .mv (.c (.nilp)) }])
 (.seq (.reg false [{ dst := some 3, op := .ld (some 8) (.t 1) },
  { dst := some 4, op := .call .pure (.c (.fn 225 [] [])) [.t 3, .c (.i .i64 1), .c (.i .i64 1), .c (.i .i64 1)] },
  { dst := some 2, op := .mv (.t 4) }])
 .ret)) }
def A_xref10_Facq : AFun := { res := [.t 2], body := (.seq (.reg false [{ dst := some 1, op := .box (.t 0) },
  { dst := some 2, op := .mv (.c (.nilp)) }])
 (.seq (.reg true [{ dst := some 3, op := .ld (some 8) (.t 1), pre := [] },
  { dst := some 4, op := .call .pure (.c (.fn 225 [] [])) [.t 3, .c (.i .i64 3), .c (.i .i64 1), .c (.i .i64 1)], pre := [] },
  { dst := some 5, op := .ld (some 8) (.t 1), pre := [] },
  { dst := some 6, op := .call .pure (.c (.fn 225 [] [])) [.t 5, .c (.i .i64 3), .c (.i .i64 3), .c (.i .i64 4)], pre := [] },
  { dst := some 7, op := .call .pure (.c (.fn 29 [] [])) [.t 4, .t 6], pre := [] },
  { dst := some 2, op := .mv (.t 7) }])
 .ret)) }
structure Pk_xref10 (F : Funs) : Prop where
  xref10_Rs : F 182 = some A_xref10_Rs
  xref10_Release : F 183 = some A_xref10_Release
  xref10_Sw : F 184 = some A_xref10_Sw
  xref10_Hb : F 185 = some A_xref10_Hb
  xref10_W : F 230 = some A_xref10_W
  xref10_Wrel : F 232 = some A_xref10_Wrel
  xref10_Frel : F 233 = some A_xref10_Frel
  xref10_Racq : F 234 = some A_xref10_Racq
  xref10_Facq : F 235 = some A_xref10_Facq
end Go.Ab
end
section
namespace Go.Ab
def A_xref11_Bob : AFun := { res := [.t 2], body := (.seq (.reg false [{ dst := some 1, op := .box (.t 0) },
  { dst := some 2, op := .mv (.c (.nilp)) }])
 (.seq (.reg true [{ dst := some 6, op := .ld (some 8) (.t 1), pre := [] },
  { dst := some 7, op := .call .pure (.c (.fn 84 [] [])) [.t 6], pre := [] },
  { dst := some 8, op := .ld (some 8) (.t 1), pre := [] },
  { dst := some 9, op := .call .pure (.c (.fn 225 [] [])) [.t 8, .c (.i .i64 3), .c (.i .i64 1), .c (.i .i64 4)], pre := [] },
  { dst := some 3, op := .mv (.t 7) },
  { dst := some 4, op := .mv (.t 9) }])
 (.seq (.reg true [{ dst := some 10, op := .mv (.t 3) },
  { dst := some 11, op := .ld (some 8) (.t 1), pre := [] },
  { dst := some 12, op := .call .pure (.c (.fn 232 [] [])) [.t 11], pre := [] },
  { dst := some 13, op := .call .pure (.c (.fn 32 [] [])) [.t 10, .t 12], pre := [] },
  { dst := some 14, op := .ld (some 8) (.t 1), pre := [] },
  { dst := some 15, op := .call .pure (.c (.fn 234 [] [])) [.t 14], pre := [] },
  { dst := some 16, op := .mv (.t 3) },
  { dst := some 17, op := .call .pure (.c (.fn 32 [] [])) [.t 15, .t 16], pre := [] },
  { dst := some 18, op := .call .pure (.c (.fn 29 [] [])) [.t 13, .t 17], pre := [] },
  { dst := some 19, op := .mv (.t 3) },
  { dst := some 20, op := .mv (.t 4) },
  { dst := some 21, op := .call .pure (.c (.fn 32 [] [])) [.t 19, .t 20], pre := [] },
  { dst := some 22, op := .call .pure (.c (.fn 29 [] [])) [.t 18, .t 21], pre := [] },
  { dst := some 23, op := .mv (.t 4) },
  { dst := some 24, op := .mv (.t 3) },
  { dst := some 25, op := .call .pure (.c (.fn 32 [] [])) [.t 23, .t 24], pre := [] },
  { dst := some 26, op := .call .pure (.c (.fn 29 [] [])) [.t 22, .t 25], pre := [] },
  { dst := some 5, op := .mv (.t 26) }])
 (.seq (.reg true [{ dst := some 27, op := .mv (.t 5) },
  { dst := some 28, op := .ld (some 8) (.t 1), pre := [] },
  { dst := some 29, op := .call .pure (.c (.fn 232 [] [])) [.t 28], pre := [] },
  { dst := some 30, op := .ld (some 8) (.t 1), pre := [] },
  { dst := some 31, op := .call .pure (.c (.fn 73 [] [])) [.t 30], pre := [] },
  { dst := some 32, op := .call .pure (.c (.fn 32 [] [])) [.t 29, .t 31], pre := [] },
  { dst := some 33, op := .ld (some 8) (.t 1), pre := [] },
  { dst := some 34, op := .call .pure (.c (.fn 230 [] [])) [.t 33], pre := [] },
  { dst := some 35, op := .call .pure (.c (.fn 32 [] [])) [.t 32, .t 34], pre := [] },
  { dst := some 36, op := .call .pure (.c (.fn 29 [] [])) [.t 27, .t 35], pre := [] },
  { dst := some 2, op := .mv (.t 36) }])
 .ret)))) }
def A_xref11_Deps : AFun := { res := [.t 2], body := (.seq (.reg false [{ dst := some 1, op := .box (.t 0) },
  { dst := some 2, op := .mv (.c (.nilp)) }])
 (.seq (.reg true [{ dst := some 6, op := .ld (some 8) (.t 1), pre := [] },
  { dst := some 7, op := .fa 5 (.t 1) },
  { dst := some 8, op := .ld none (.t 7), pre := [] },
  { dst := some 9, op := .call .pure (.c (.fn 223 [] [])) [.t 6, .t 8], pre := [] },
  { dst := some 10, op := .ld (some 8) (.t 1), pre := [] },
  { dst := some 11, op := .fa 6 (.t 1) },
  { dst := some 12, op := .ld none (.t 11), pre := [] },
  { dst := some 13, op := .call .pure (.c (.fn 223 [] [])) [.t 10, .t 12], pre := [] },
  { dst := some 14, op := .call .pure (.c (.fn 29 [] [])) [.t 9, .t 13], pre := [] },
  { dst := some 3, op := .mv (.t 14) }])
 (.seq (.reg false [{ dst := some 15, op := .fa 1 (.t 1) },
  { dst := some 16, op := .ld none (.t 15) },
  { dst := some 17, op := .len (.t 16) },
  { dst := some 18, op := .call .thaw (.c (.fn 27 [] [])) [.t 17, .c (.sl [] 0 .rig)] },
  { dst := some 4, op := .mv (.t 18) }])
 (.seq (.seq (.reg false [{ dst := some 5, op := .mv (.c (.i .i64 0)) }])
 (.blk 0 (.loop (.seq (.seq (.reg false [{ dst := some 19, op := .mv (.t 5) },
  { dst := some 20, op := .fa 1 (.t 1) },
  { dst := some 21, op := .ld none (.t 20) },
  { dst := some 22, op := .len (.t 21) },
  { dst := some 23, op := .bin .lss (.t 19) (.t 22) }])
 (.cond (.t 23) .skip
 (.ext 0)))
 (.seq (.blk 1 (.reg true [{ dst := some 26, op := .mv (.t 4) },
  { dst := some 27, op := .mv (.t 5) },
  { dst := some 28, op := .mv (.t 5) },
  { dst := some 29, op := .fa 1 (.t 1) },
  { dst := some 30, op := .ld none (.t 29), pre := [] },
  { dst := some 31, op := .mv (.t 5) },
  { dst := some 32, op := .ia 6 (.t 30) (.t 31) },
  { dst := some 33, op := .fa 1 (.t 32) },
  { dst := some 34, op := .ld none (.t 33), pre := [] },
  { dst := some 35, op := .bin .eql (.t 34) (.c (.i .i64 1)) },
  { dst := some 36, op := .mv (.t 35) },
  { dst := some 37, op := .fa 1 (.t 1), grd := some (36, true) },
  { dst := some 38, op := .ld none (.t 37), grd := some (36, true), pre := [] },
  { dst := some 39, op := .mv (.t 5), grd := some (36, true) },
  { dst := some 40, op := .ia 6 (.t 38) (.t 39), grd := some (36, true) },
  { dst := some 41, op := .fa 5 (.t 40), grd := some (36, true) },
  { dst := some 42, op := .ld none (.t 41), grd := some (36, true), pre := [] },
  { dst := some 43, op := .pick (.t 36) (.t 42) (.c (.b false)) },
  { dst := some 44, op := .nilck (.t 26) },
  { dst := some 45, op := .fa 1 (.t 44) },
  { dst := some 46, op := .iaa 40 40 (.t 45) (.t 27) },
  { dst := some 47, op := .iaa 40 1 (.t 46) (.t 28) },
  { dst := none, op := .st 1 (.t 47) (.t 43), pre := [] }]))
 (.reg false [{ dst := some 24, op := .mv (.t 5) },
  { dst := some 25, op := .bin .add (.t 24) (.c (.i .i64 1)) },
  { dst := some 5, op := .mv (.t 25) }]))))))
 (.seq (.imm 4 (.reg false [{ dst := some 48, op := .mv (.t 3) },
  { dst := some 49, op := .mv (.t 4) },
  { dst := some 50, op := .ld (some 8) (.t 1) },
  { dst := some 51, op := .call .pure (.c (.fn 84 [] [])) [.t 50] },
  { dst := some 52, op := .call .pure (.c (.fn 32 [] [])) [.t 49, .t 51] },
  { dst := some 53, op := .call .pure (.c (.fn 29 [] [])) [.t 48, .t 52] },
  { dst := some 2, op := .mv (.t 53) }]))
 .ret))))) }
def A_xref11_Ppo : AFun := { res := [.t 2], body := (.seq (.reg false [{ dst := some 1, op := .box (.t 0) },
  { dst := some 2, op := .mv (.c (.nilp)) }])
 (.seq (.reg false [{ dst := some 5, op := .ld (some 8) (.t 1) },
  { dst := some 6, op := .call .pure (.c (.fn 225 [] [])) [.t 5, .c (.i .i64 1), .c (.i .i64 0), .c (.i .i64 1)] },
  { dst := some 3, op := .mv (.t 6) }])
 (.seq (.reg true [{ dst := some 7, op := .ld (some 8) (.t 1), pre := [] },
  { dst := some 8, op := .ld (some 8) (.t 1), pre := [] },
  { dst := some 9, op := .call .pure (.c (.fn 69 [] [])) [.t 8], pre := [] },
  { dst := some 10, op := .call .pure (.c (.fn 74 [] [])) [.t 7, .t 9], pre := [] },
  { dst := some 4, op := .mv (.t 10) }])
 (.seq (.reg true [{ dst := some 11, op := .mv (.t 3) },
  { dst := some 12, op := .ld (some 8) (.t 1), pre := [] },
  { dst := some 13, op := .call .pure (.c (.fn 256 [] [])) [.t 12], pre := [] },
  { dst := some 14, op := .mv (.t 4) },
  { dst := some 15, op := .call .pure (.c (.fn 29 [] [])) [.t 13, .t 14], pre := [] },
  { dst := some 16, op := .call .pure (.c (.fn 34 [] [])) [.t 15], pre := [] },
  { dst := some 17, op := .call .pure (.c (.fn 32 [] [])) [.t 11, .t 16], pre := [] },
  { dst := some 18, op := .ld (some 8) (.t 1), pre := [] },
  { dst := some 19, op := .call .pure (.c (.fn 230 [] [])) [.t 18], pre := [] },
  { dst := some 20, op := .call .pure (.c (.fn 32 [] [])) [.t 17, .t 19], pre := [] },
  { dst := some 2, op := .mv (.t 20) }])
 .ret)))) }
def A_xref11_Detour : AFun := { res := [.t 2], body := (.seq (.reg false [{ dst := some 1, op := .box (.t 0) },
  { dst := some 2, op := .mv (.c (.nilp)) }])
 (.seq (.reg true [{ dst := some 5, op := .ld (some 8) (.t 1), pre := [] },
  { dst := some 6, op := .ld (some 8) (.t 1), pre := [] },
  { dst := some 7, op := .call .pure (.c (.fn 70 [] [])) [.t 6], pre := [] },
  { dst := some 8, op := .call .pure (.c (.fn 75 [] [])) [.t 5, .t 7], pre := [] },
  { dst := some 9, op := .ld (some 8) (.t 1), pre := [] },
  { dst := some 10, op := .ld (some 8) (.t 1), pre := [] },
  { dst := some 11, op := .call .pure (.c (.fn 69 [] [])) [.t 10], pre := [] },
  { dst := some 12, op := .call .pure (.c (.fn 75 [] [])) [.t 9, .t 11], pre := [] },
  { dst := some 3, op := .mv (.t 8) },
  { dst := some 4, op := .mv (.t 12) }])
 (.seq (.reg true [{ dst := some 13, op := .mv (.t 3) },
  { dst := some 14, op := .mv (.t 4) },
  { dst := some 15, op := .call .pure (.c (.fn 32 [] [])) [.t 13, .t 14], pre := [] },
  { dst := some 16, op := .ld (some 8) (.t 1), pre := [] },
  { dst := some 17, op := .call .pure (.c (.fn 84 [] [])) [.t 16], pre := [] },
  { dst := some 18, op := .call .pure (.c (.fn 30 [] [])) [.t 15, .t 17], pre := [] },
  { dst := some 2, op := .mv (.t 18) }])
 .ret))) }
def A_xref11_Psc : AFun := { res := [.t 2], body := (.seq (.reg false [{ dst := some 1, op := .box (.t 0) },
  { dst := some 2, op := .mv (.c (.nilp)) }])
 (.seq (.reg true [{ dst := some 5, op := .ld (some 8) (.t 1), pre := [] },
  { dst := some 6, op := .call .pure (.c (.fn 225 [] [])) [.t 5, .c (.i .i64 3), .c (.i .i64 4), .c (.i .i64 4)], pre := [] },
  { dst := some 7, op := .ld (some 8) (.t 1), pre := [] },
  { dst := some 8, op := .call .pure (.c (.fn 185 [] [])) [.t 7], pre := [] },
  { dst := some 3, op := .mv (.t 6) },
  { dst := some 4, op := .mv (.t 8) }])
 (.seq (.reg true [{ dst := some 9, op := .mv (.t 3) },
  { dst := some 10, op := .mv (.t 4) },
  { dst := some 11, op := .call .pure (.c (.fn 32 [] [])) [.t 9, .t 10], pre := [] },
  { dst := some 12, op := .ld (some 8) (.t 1), pre := [] },
  { dst := some 13, op := .call .pure (.c (.fn 72 [] [])) [.t 12], pre := [] },
  { dst := some 14, op := .call .pure (.c (.fn 32 [] [])) [.t 11, .t 13], pre := [] },
  { dst := some 15, op := .mv (.t 4) },
  { dst := some 16, op := .call .pure (.c (.fn 32 [] [])) [.t 14, .t 15], pre := [] },
  { dst := some 17, op := .mv (.t 3) },
  { dst := some 18, op := .call .pure (.c (.fn 32 [] [])) [.t 16, .t 17], pre := [] },
  { dst := some 2, op := .mv (.t 18) }])
 .ret))) }
def A_xref11_Ar : AFun := { res := [.t 2], body := (.seq (.reg false [{ dst := some 1, op := .box (.t 0) },
  { dst := some 2, op := .mv (.c (.nilp)) }])
 (.seq (.reg true [{ dst := some 4, op := .ld (some 8) (.t 1), pre := [] },
  { dst := some 5, op := .ld (some 8) (.t 1), pre := [] },
  { dst := some 6, op := .call .pure (.c (.fn 69 [] [])) [.t 5], pre := [] },
  { dst := some 7, op := .call .pure (.c (.fn 75 [] [])) [.t 4, .t 6], pre := [] },
  { dst := some 3, op := .mv (.t 7) }])
 (.seq (.reg true [{ dst := some 8, op := .mv (.t 3) },
  { dst := some 9, op := .ld (some 8) (.t 1), pre := [] },
  { dst := some 10, op := .call .pure (.c (.fn 255 [] [])) [.t 9], pre := [] },
  { dst := some 11, op := .call .pure (.c (.fn 29 [] [])) [.t 8, .t 10], pre := [] },
  { dst := some 12, op := .ld (some 8) (.t 1), pre := [] },
  { dst := some 13, op := .call .pure (.c (.fn 257 [] [])) [.t 12], pre := [] },
  { dst := some 14, op := .call .pure (.c (.fn 29 [] [])) [.t 11, .t 13], pre := [] },
  { dst := some 15, op := .ld (some 8) (.t 1), pre := [] },
  { dst := some 16, op := .call .pure (.c (.fn 258 [] [])) [.t 15], pre := [] },
  { dst := some 17, op := .call .pure (.c (.fn 29 [] [])) [.t 14, .t 16], pre := [] },
  { dst := some 18, op := .ld (some 8) (.t 1), pre := [] },
  { dst := some 19, op := .call .pure (.c (.fn 259 [] [])) [.t 18], pre := [] },
  { dst := some 20, op := .call .pure (.c (.fn 29 [] [])) [.t 17, .t 19], pre := [] },
  { dst := some 2, op := .mv (.t 20) }])
 .ret))) }
structure Pk_xref11 (F : Funs) : Prop where
  xref11_Bob : F 255 = some A_xref11_Bob
  xref11_Deps : F 256 = some A_xref11_Deps
  xref11_Ppo : F 257 = some A_xref11_Ppo
  xref11_Detour : F 258 = some A_xref11_Detour
  xref11_Psc : F 259 = some A_xref11_Psc
  xref11_Ar : F 260 = some A_xref11_Ar
end Go.Ab
end
section
namespace Go.Ab
def A_xref12_Coherent : AFun := { res := [.t 2], body := (.seq (.reg false [{ dst := some 1, op := .box (.t 0) },
  { dst := some 2, op := .mv (.c (.b false)) }])
 (.seq (.reg false [{ dst := some 4, op := .ld (some 8) (.t 1) },
  { dst := some 5, op := .call .pure (.c (.fn 185 [] [])) [.t 4] },
  { dst := some 3, op := .mv (.t 5) }])
 (.seq (.reg false [{ dst := some 6, op := .mv (.t 3) },
  { dst := some 7, op := .call .pure (.c (.fn 265 [] [])) [.t 6] },
  { dst := some 8, op := .un .not (.t 7) },
  { dst := some 9, op := .mv (.t 8) },
  { dst := some 10, op := .mv (.t 3), grd := some (9, true) },
  { dst := some 11, op := .ld (some 8) (.t 1), grd := some (9, true) },
  { dst := some 12, op := .call .pure (.c (.fn 72 [] [])) [.t 11], grd := some (9, true) },
  { dst := some 13, op := .call .pure (.c (.fn 32 [] [])) [.t 10, .t 12], grd := some (9, true) },
  { dst := some 14, op := .call .pure (.c (.fn 265 [] [])) [.t 13], grd := some (9, true) },
  { dst := some 15, op := .un .not (.t 14), grd := some (9, true) },
  { dst := some 16, op := .pick (.t 9) (.t 15) (.c (.b false)) },
  { dst := some 2, op := .mv (.t 16) }])
 .ret))) }
def A_xref12_Atomic : AFun := { res := [.t 2], body := (.seq (.reg false [{ dst := some 1, op := .box (.t 0) },
  { dst := some 2, op := .mv (.c (.b false)) }])
 (.seq (.reg true [{ dst := some 5, op := .ld (some 8) (.t 1), pre := [] },
  { dst := some 6, op := .ld (some 8) (.t 1), pre := [] },
  { dst := some 7, op := .call .pure (.c (.fn 71 [] [])) [.t 6], pre := [] },
  { dst := some 8, op := .call .pure (.c (.fn 75 [] [])) [.t 5, .t 7], pre := [] },
  { dst := some 9, op := .ld (some 8) (.t 1), pre := [] },
  { dst := some 10, op := .ld (some 8) (.t 1), pre := [] },
  { dst := some 11, op := .call .pure (.c (.fn 70 [] [])) [.t 10], pre := [] },
  { dst := some 12, op := .call .pure (.c (.fn 75 [] [])) [.t 9, .t 11], pre := [] },
  { dst := some 3, op := .mv (.t 8) },
  { dst := some 4, op := .mv (.t 12) }])
 (.seq (.reg false [{ dst := some 13, op := .ld (some 8) (.t 1) },
  { dst := some 14, op := .fa 4 (.t 1) },
  { dst := some 15, op := .ld none (.t 14) },
  { dst := some 16, op := .call .pure (.c (.fn 223 [] [])) [.t 13, .t 15] },
  { dst := some 17, op := .mv (.t 3) },
  { dst := some 18, op := .mv (.t 4) },
  { dst := some 19, op := .call .pure (.c (.fn 32 [] [])) [.t 17, .t 18] },
  { dst := some 20, op := .call .pure (.c (.fn 30 [] [])) [.t 16, .t 19] },
  { dst := some 21, op := .call .pure (.c (.fn 56 [] [])) [.t 20] },
  { dst := some 22, op := .len (.t 21) },
  { dst := some 23, op := .bin .eql (.t 22) (.c (.i .i64 0)) },
  { dst := some 2, op := .mv (.t 23) }])
 .ret))) }
def A_xref12_Ordered : AFun := { res := [.t 2], body := (.seq (.reg false [{ dst := some 1, op := .box (.t 0) },
  { dst := some 2, op := .mv (.c (.b false)) }])
 (.seq (.reg false [{ dst := some 3, op := .ld (some 8) (.t 1) },
  { dst := some 4, op := .call .pure (.c (.fn 260 [] [])) [.t 3] },
  { dst := some 5, op := .call .pure (.c (.fn 37 [] [])) [.t 4] },
  { dst := some 6, op := .un .not (.t 5) },
  { dst := some 2, op := .mv (.t 6) }])
 .ret)) }
def A_xref12_Consistent : AFun := { res := [.t 2], body := (.seq (.reg false [{ dst := some 1, op := .box (.t 0) },
  { dst := some 2, op := .mv (.c (.b false)) }])
 (.seq (.reg false [{ dst := some 3, op := .ld (some 8) (.t 1) },
  { dst := some 4, op := .call .pure (.c (.fn 45 [] [])) [.t 3] },
  { dst := some 5, op := .mv (.t 4) },
  { dst := some 6, op := .ld (some 8) (.t 1), grd := some (5, true) },
  { dst := some 7, op := .call .pure (.c (.fn 261 [] [])) [.t 6], grd := some (5, true) },
  { dst := some 8, op := .pick (.t 5) (.t 7) (.c (.b false)) },
  { dst := some 9, op := .mv (.t 8) },
  { dst := some 10, op := .ld (some 8) (.t 1), grd := some (9, true) },
  { dst := some 11, op := .call .pure (.c (.fn 262 [] [])) [.t 10], grd := some (9, true) },
  { dst := some 12, op := .pick (.t 9) (.t 11) (.c (.b false)) },
  { dst := some 13, op := .mv (.t 12) },
  { dst := some 14, op := .ld (some 8) (.t 1), grd := some (13, true) },
  { dst := some 15, op := .call .pure (.c (.fn 263 [] [])) [.t 14], grd := some (13, true) },
  { dst := some 16, op := .pick (.t 13) (.t 15) (.c (.b false)) },
  { dst := some 2, op := .mv (.t 16) }])
 .ret)) }
structure Pk_xref12 (F : Funs) : Prop where
  xref12_Coherent : F 261 = some A_xref12_Coherent
  xref12_Atomic : F 262 = some A_xref12_Atomic
  xref12_Ordered : F 263 = some A_xref12_Ordered
  xref12_Consistent : F 264 = some A_xref12_Consistent
end Go.Ab
end
section
namespace Go.Ab
def A_graph_Po : AFun := { res := [.t 2], body := (.seq (.reg false [{ dst := some 1, op := .box (.t 0) },
  { dst := some 2, op := .mv (.c (.nilp)) }])
 (.seq (.reg false [{ dst := some 3, op := .mv (.c (.sl [] 0 .rig)) }])
 (.seq (.seq (.reg false [{ dst := some 8, op := .fa 1 (.t 1) },
  { dst := some 9, op := .ld none (.t 8) },
  { dst := some 10, op := .len (.t 9) },
  { dst := some 11, op := .mv (.c (.i .i64 0)) }])
 (.blk 0 (.loop (.seq (.reg false [{ dst := some 12, op := .bin .lss (.t 11) (.t 10) }])
 (.seq (.cond (.t 12) .skip
 (.ext 0))
 (.seq (.blk 1 (.seq (.reg false [{ dst := some 13, op := .mv (.t 11) },
  { dst := some 14, op := .ia 6 (.t 9) (.t 11) },
  { dst := some 15, op := .ld (some 6) (.t 14) },
  { dst := some 5, op := .new (List.replicate 5 (.i .i64 0) ++ [.b false]) },
  { dst := some 4, op := .mv (.t 13) },
  { dst := none, op := .st 6 (.t 5) (.t 15) }])
 (.seq (.reg false [{ dst := some 16, op := .fa 1 (.t 1) },
  { dst := some 17, op := .ld none (.t 16) },
  { dst := some 18, op := .len (.t 17) },
  { dst := some 19, op := .mv (.c (.i .i64 0)) }])
 (.blk 2 (.loop (.seq (.reg false [{ dst := some 20, op := .bin .lss (.t 19) (.t 18) }])
 (.seq (.cond (.t 20) .skip
 (.ext 2))
 (.seq (.blk 3 (.seq (.reg false [{ dst := some 21, op := .mv (.t 19) },
  { dst := some 22, op := .ia 6 (.t 17) (.t 19) },
  { dst := some 23, op := .ld (some 6) (.t 22) },
  { dst := some 7, op := .new (List.replicate 5 (.i .i64 0) ++ [.b false]) },
  { dst := some 6, op := .mv (.t 21) },
  { dst := none, op := .st 6 (.t 7) (.t 23) }])
 (.seq (.reg false [{ dst := some 24, op := .fa 0 (.t 5) },
  { dst := some 25, op := .ld none (.t 24) },
  { dst := some 26, op := .bin .eql (.t 25) (.c (.i .i64 0)) },
  { dst := some 27, op := .mv (.t 26) },
  { dst := some 28, op := .fa 0 (.t 7), grd := some (27, true) },
  { dst := some 29, op := .ld none (.t 28), grd := some (27, true) },
  { dst := some 30, op := .bin .neq (.t 29) (.c (.i .i64 0)), grd := some (27, true) },
  { dst := some 31, op := .pick (.t 27) (.t 30) (.c (.b false)) },
  { dst := some 32, op := .mv (.t 31) },
  { dst := some 33, op := .fa 0 (.t 5), grd := some (32, false) },
  { dst := some 34, op := .ld none (.t 33), grd := some (32, false) },
  { dst := some 35, op := .fa 0 (.t 7), grd := some (32, false) },
  { dst := some 36, op := .ld none (.t 35), grd := some (32, false) },
  { dst := some 37, op := .bin .eql (.t 34) (.t 36), grd := some (32, false) },
  { dst := some 38, op := .mv (.t 37), grd := some (32, false) },
  { dst := some 39, op := .fa 0 (.t 5), grd := some (38, true) },
  { dst := some 40, op := .ld none (.t 39), grd := some (38, true) },
  { dst := some 41, op := .bin .neq (.t 40) (.c (.i .i64 0)), grd := some (38, true) },
  { dst := some 42, op := .pick (.t 38) (.t 41) (.c (.b false)), grd := some (32, false) },
  { dst := some 43, op := .mv (.t 42), grd := some (32, false) },
  { dst := some 44, op := .mv (.t 4), grd := some (43, true) },
  { dst := some 45, op := .mv (.t 6), grd := some (43, true) },
  { dst := some 46, op := .bin .lss (.t 44) (.t 45), grd := some (43, true) },
  { dst := some 47, op := .pick (.t 43) (.t 46) (.c (.b false)), grd := some (32, false) },
  { dst := some 48, op := .pick (.t 32) (.c (.b true)) (.t 47) }])
 (.cond (.t 48) (.reg false [{ dst := some 49, op := .mv (.t 3) },
  { dst := some 50, op := .mv (.t 4) },
  { dst := some 51, op := .mv (.t 6) },
  { dst := some 52, op := .build ([.i .i64 0, .i .i64 0]) [(0, 1, .t 50), (1, 1, .t 51)] },
  { dst := some 53, op := .bsl true 1 ([.i .i64 0, .i .i64 0]) [(0, 2, .t 52)] },
  { dst := some 54, op := .app 2 16 (.t 49) (.t 53) },
  { dst := some 3, op := .mv (.t 54) }])
 .skip))))
 (.reg false [{ dst := some 55, op := .bin .add (.t 19) (.c (.i .i64 1)) },
  { dst := some 19, op := .mv (.t 55) }])))))))))
 (.reg false [{ dst := some 56, op := .bin .add (.t 11) (.c (.i .i64 1)) },
  { dst := some 11, op := .mv (.t 56) }])))))))
 (.seq (.reg false [{ dst := some 57, op := .ld (some 8) (.t 1) },
  { dst := some 58, op := .mv (.t 3) },
  { dst := some 59, op := .call .pure (.c (.fn 81 [] [])) [.t 57, .t 58] },
  { dst := some 2, op := .mv (.t 59) }])
 .ret)))) }
def A_graph_Of : AFun := { res := [.t 4], body := (.seq (.reg false [{ dst := some 2, op := .box (.t 0) },
  { dst := some 4, op := .mv (.c (.nilp)) }])
 (.seq (.reg false [{ dst := some 5, op := .fa 1 (.t 2) },
  { dst := some 6, op := .ld none (.t 5) },
  { dst := some 7, op := .len (.t 6) },
  { dst := some 8, op := .mv (.t 1) },
  { dst := some 9, op := .call .pure (.c (.fn 11 [] [])) [.t 7, .t 8] },
  { dst := some 4, op := .mv (.t 9) }])
 .ret)) }
def A_graph_Check : AFun := { res := [.t 2], body := (.seq (.reg false [{ dst := some 1, op := .box (.t 0) },
  { dst := some 2, op := .mv (.c (.b false)) }])
 (.seq (.seq (.reg false [{ dst := some 4, op := .fa 0 (.t 1) },
  { dst := some 5, op := .ld none (.t 4) },
  { dst := some 6, op := .bin .lss (.t 5) (.c (.i .i64 1)) },
  { dst := some 7, op := .mv (.t 6) },
  { dst := some 8, op := .fa 0 (.t 1), grd := some (7, false) },
  { dst := some 9, op := .ld none (.t 8), grd := some (7, false) },
  { dst := some 10, op := .bin .gtr (.t 9) (.c (.i .i64 4)), grd := some (7, false) },
  { dst := some 11, op := .pick (.t 7) (.c (.b true)) (.t 10) },
  { dst := some 12, op := .mv (.t 11) },
  { dst := some 13, op := .fa 1 (.t 1), grd := some (12, false) },
  { dst := some 14, op := .ld none (.t 13), grd := some (12, false) },
  { dst := some 15, op := .len (.t 14), grd := some (12, false) },
  { dst := some 16, op := .bin .gtr (.t 15) (.c (.i .i64 40)), grd := some (12, false) },
  { dst := some 17, op := .pick (.t 12) (.c (.b true)) (.t 16) },
  { dst := some 18, op := .mv (.t 17) },
  { dst := some 19, op := .fa 1 (.t 1), grd := some (18, false) },
  { dst := some 20, op := .ld none (.t 19), grd := some (18, false) },
  { dst := some 21, op := .len (.t 20), grd := some (18, false) },
  { dst := some 22, op := .fa 0 (.t 1), grd := some (18, false) },
  { dst := some 23, op := .ld none (.t 22), grd := some (18, false) },
  { dst := some 24, op := .bin .lss (.t 21) (.t 23), grd := some (18, false) },
  { dst := some 25, op := .pick (.t 18) (.c (.b true)) (.t 24) },
  { dst := some 26, op := .mv (.t 25) },
  { dst := some 27, op := .ld (some 8) (.t 1), grd := some (26, false) },
  { dst := some 28, op := .call .pure (.c (.fn 186 [] [])) [.t 27], grd := some (26, false) },
  { dst := some 29, op := .un .not (.t 28), grd := some (26, false) },
  { dst := some 30, op := .pick (.t 26) (.c (.b true)) (.t 29) },
  { dst := some 31, op := .mv (.t 30) },
  { dst := some 32, op := .ld (some 8) (.t 1), grd := some (31, false) },
  { dst := some 33, op := .call .pure (.c (.fn 187 [] [])) [.t 32], grd := some (31, false) },
  { dst := some 34, op := .un .not (.t 33), grd := some (31, false) },
  { dst := some 35, op := .pick (.t 31) (.c (.b true)) (.t 34) },
  { dst := some 36, op := .mv (.t 35) },
  { dst := some 37, op := .ld (some 8) (.t 1), grd := some (36, false) },
  { dst := some 38, op := .call .pure (.c (.fn 188 [] [])) [.t 37], grd := some (36, false) },
  { dst := some 39, op := .un .not (.t 38), grd := some (36, false) },
  { dst := some 40, op := .pick (.t 36) (.c (.b true)) (.t 39) },
  { dst := some 41, op := .mv (.t 40) },
  { dst := some 42, op := .ld (some 8) (.t 1), grd := some (41, false) },
  { dst := some 43, op := .call .pure (.c (.fn 189 [] [])) [.t 42], grd := some (41, false) },
  { dst := some 44, op := .un .not (.t 43), grd := some (41, false) },
  { dst := some 45, op := .pick (.t 41) (.c (.b true)) (.t 44) },
  { dst := some 46, op := .mv (.t 45) },
  { dst := some 47, op := .ld (some 8) (.t 1), grd := some (46, false) },
  { dst := some 48, op := .call .pure (.c (.fn 190 [] [])) [.t 47], grd := some (46, false) },
  { dst := some 49, op := .un .not (.t 48), grd := some (46, false) },
  { dst := some 50, op := .pick (.t 46) (.c (.b true)) (.t 49) }])
 (.cond (.t 50) (.seq (.reg false [{ dst := some 2, op := .mv (.c (.b false)) }])
 .ret)
 .skip))
 (.seq (.reg false [{ dst := some 3, op := .mv (.c (.fn 191 [] [])) }])
 (.seq (.reg false [{ dst := some 51, op := .ld (some 8) (.t 1) },
  { dst := some 52, op := .fa 5 (.t 1) },
  { dst := some 53, op := .ld none (.t 52) },
  { dst := some 54, op := .mv (.t 3) },
  { dst := some 55, op := .call .pure (.c (.fn 192 [] [])) [.t 51, .t 53, .t 54] },
  { dst := some 56, op := .mv (.t 55) },
  { dst := some 57, op := .ld (some 8) (.t 1), grd := some (56, true) },
  { dst := some 58, op := .fa 6 (.t 1), grd := some (56, true) },
  { dst := some 59, op := .ld none (.t 58), grd := some (56, true) },
  { dst := some 60, op := .mv (.t 3), grd := some (56, true) },
  { dst := some 61, op := .call .pure (.c (.fn 192 [] [])) [.t 57, .t 59, .t 60], grd := some (56, true) },
  { dst := some 62, op := .pick (.t 56) (.t 61) (.c (.b false)) },
  { dst := some 63, op := .mv (.t 62) },
  { dst := some 64, op := .ld (some 8) (.t 1), grd := some (63, true) },
  { dst := some 65, op := .fa 7 (.t 1), grd := some (63, true) },
  { dst := some 66, op := .ld none (.t 65), grd := some (63, true) },
  { dst := some 67, op := .mv (.t 3), grd := some (63, true) },
  { dst := some 68, op := .call .pure (.c (.fn 192 [] [])) [.t 64, .t 66, .t 67], grd := some (63, true) },
  { dst := some 69, op := .pick (.t 63) (.t 68) (.c (.b false)) },
  { dst := some 2, op := .mv (.t 69) }])
 .ret)))) }
def A_graph_Set : AFun := { res := [.t 4], body := (.seq (.reg false [{ dst := some 2, op := .box (.t 0) },
  { dst := some 4, op := .mv (.c (.nilp)) }])
 (.seq (.reg false [{ dst := some 5, op := .mv (.c (.sl [] 0 .rig)) }])
 (.seq (.reg false [{ dst := some 9, op := .mv (.t 1) },
  { dst := some 10, op := .build ([.nilf]) [(0, 1, .t 9)] },
  { dst := some 6, op := .new ([.nilf]) },
  { dst := none, op := .st 1 (.t 6) (.t 10) }])
 (.seq (.seq (.reg false [{ dst := some 11, op := .fa 1 (.t 2) },
  { dst := some 12, op := .ld none (.t 11) },
  { dst := some 13, op := .len (.t 12) },
  { dst := some 14, op := .mv (.c (.i .i64 0)) }])
 (.blk 0 (.loop (.seq (.reg false [{ dst := some 15, op := .bin .lss (.t 14) (.t 13) }])
 (.seq (.cond (.t 15) .skip
 (.ext 0))
 (.seq (.blk 1 (.seq (.reg false [{ dst := some 16, op := .mv (.t 14) },
  { dst := some 17, op := .ia 6 (.t 12) (.t 14) },
  { dst := some 18, op := .ld (some 6) (.t 17) },
  { dst := some 8, op := .new (List.replicate 5 (.i .i64 0) ++ [.b false]) },
  { dst := some 7, op := .mv (.t 16) },
  { dst := none, op := .st 6 (.t 8) (.t 18) }])
 (.seq (.reg false [{ dst := some 19, op := .fa 0 (.t 6) },
  { dst := some 20, op := .ld none (.t 19) },
  { dst := some 21, op := .ld (some 6) (.t 8) },
  { dst := some 22, op := .call .pure (.t 20) [.t 21] }])
 (.cond (.t 22) (.reg false [{ dst := some 23, op := .mv (.t 5) },
  { dst := some 24, op := .mv (.t 7) },
  { dst := some 25, op := .mv (.t 7) },
  { dst := some 26, op := .build ([.i .i64 0, .i .i64 0]) [(0, 1, .t 24), (1, 1, .t 25)] },
  { dst := some 27, op := .bsl true 1 ([.i .i64 0, .i .i64 0]) [(0, 2, .t 26)] },
  { dst := some 28, op := .app 2 16 (.t 23) (.t 27) },
  { dst := some 5, op := .mv (.t 28) }])
 .skip))))
 (.reg false [{ dst := some 29, op := .bin .add (.t 14) (.c (.i .i64 1)) },
  { dst := some 14, op := .mv (.t 29) }])))))))
 (.seq (.reg false [{ dst := some 30, op := .ld (some 8) (.t 2) },
  { dst := some 31, op := .mv (.t 5) },
  { dst := some 32, op := .call .pure (.c (.fn 81 [] [])) [.t 30, .t 31] },
  { dst := some 4, op := .mv (.t 32) }])
 .ret))))) }
def A_graph_first : AFun := { res := [.t 2], body := (.seq (.reg false [{ dst := some 1, op := .box (.t 0) },
  { dst := some 2, op := .mv (.c (.b false)) }])
 (.seq (.seq (.reg false [{ dst := some 4, op := .fa 0 (.t 1) },
  { dst := some 5, op := .ld none (.t 4) },
  { dst := some 6, op := .mv (.c (.i .i64 0)) }])
 (.blk 0 (.loop (.seq (.reg false [{ dst := some 7, op := .bin .lss (.t 6) (.t 5) }])
 (.seq (.cond (.t 7) .skip
 (.ext 0))
 (.seq (.blk 1 (.seq (.reg false [{ dst := some 8, op := .mv (.t 6) },
  { dst := some 3, op := .mv (.t 8) }])
 (.seq (.reg false [{ dst := some 9, op := .fa 1 (.t 1) },
  { dst := some 10, op := .ld none (.t 9) },
  { dst := some 11, op := .mv (.t 3) },
  { dst := some 12, op := .ia 6 (.t 10) (.t 11) },
  { dst := some 13, op := .ld (some 6) (.t 12) },
  { dst := some 14, op := .mv (.t 3) },
  { dst := some 15, op := .build (List.replicate 5 (.i .i64 0) ++ [.b false]) [(1, 1, .c (.i .i64 2)), (3, 1, .t 14)] },
  { dst := some 16, op := .eqa true [0, 0, 0, 0, 0, 1] (.t 13) (.t 15) }])
 (.cond (.t 16) (.seq (.reg false [{ dst := some 2, op := .mv (.c (.b false)) }])
 .ret)
 .skip))))
 (.reg false [{ dst := some 17, op := .bin .add (.t 6) (.c (.i .i64 1)) },
  { dst := some 6, op := .mv (.t 17) }])))))))
 (.seq (.reg false [{ dst := some 2, op := .mv (.c (.b true)) }])
 .ret))) }
def A_graph_threads : AFun := { res := [.t 2], body := (.seq (.reg false [{ dst := some 1, op := .box (.t 0) },
  { dst := some 2, op := .mv (.c (.b false)) }])
 (.seq (.reg false [{ dst := some 3, op := .mv (.c (.i .i64 1)) }])
 (.seq (.seq (.reg false [{ dst := some 6, op := .fa 1 (.t 1) },
  { dst := some 7, op := .ld none (.t 6) },
  { dst := some 8, op := .fa 0 (.t 1) },
  { dst := some 9, op := .ld none (.t 8) },
  { dst := some 10, op := .slice 6 (.t 7) (some (.t 9)) none none },
  { dst := some 11, op := .len (.t 10) },
  { dst := some 12, op := .mv (.c (.i .i64 0)) }])
 (.blk 0 (.loop (.seq (.reg false [{ dst := some 13, op := .bin .lss (.t 12) (.t 11) }])
 (.seq (.cond (.t 13) .skip
 (.ext 0))
 (.seq (.blk 1 (.seq (.reg false [{ dst := some 14, op := .ia 6 (.t 10) (.t 12) },
  { dst := some 15, op := .ld (some 6) (.t 14) },
  { dst := some 5, op := .new (List.replicate 5 (.i .i64 0) ++ [.b false]) },
  { dst := none, op := .st 6 (.t 5) (.t 15) }])
 (.seq (.seq (.reg false [{ dst := some 16, op := .fa 0 (.t 5) },
  { dst := some 17, op := .ld none (.t 16) },
  { dst := some 18, op := .mv (.t 3) },
  { dst := some 19, op := .bin .lss (.t 17) (.t 18) },
  { dst := some 20, op := .mv (.t 19) },
  { dst := some 21, op := .fa 0 (.t 5), grd := some (20, false) },
  { dst := some 22, op := .ld none (.t 21), grd := some (20, false) },
  { dst := some 23, op := .bin .gtr (.t 22) (.c (.i .i64 4)), grd := some (20, false) },
  { dst := some 24, op := .pick (.t 20) (.c (.b true)) (.t 23) },
  { dst := some 25, op := .mv (.t 24) },
  { dst := some 26, op := .ld (some 6) (.t 5), grd := some (25, false) },
  { dst := some 27, op := .fa 0 (.t 1), grd := some (25, false) },
  { dst := some 28, op := .ld none (.t 27), grd := some (25, false) },
  { dst := some 29, op := .call .pure (.c (.fn 236 [] [])) [.t 26, .t 28], grd := some (25, false) },
  { dst := some 30, op := .un .not (.t 29), grd := some (25, false) },
  { dst := some 31, op := .pick (.t 25) (.c (.b true)) (.t 30) }])
 (.cond (.t 31) (.seq (.reg false [{ dst := some 2, op := .mv (.c (.b false)) }])
 .ret)
 .skip))
 (.reg false [{ dst := some 32, op := .fa 0 (.t 5) },
  { dst := some 33, op := .ld none (.t 32) },
  { dst := some 3, op := .mv (.t 33) }]))))
 (.reg false [{ dst := some 34, op := .bin .add (.t 12) (.c (.i .i64 1)) },
  { dst := some 12, op := .mv (.t 34) }])))))))
 (.seq (.reg false [{ dst := some 2, op := .mv (.c (.b true)) }])
 .ret)))) }
def A_graph_rf : AFun := { res := [.t 2], body := (.seq (.reg false [{ dst := some 1, op := .box (.t 0) },
  { dst := some 2, op := .mv (.c (.b false)) }])
 (.seq (.seq (.reg false [{ dst := some 6, op := .fa 2 (.t 1) },
  { dst := some 7, op := .ld none (.t 6) },
  { dst := some 8, op := .len (.t 7) },
  { dst := some 9, op := .fa 1 (.t 1) },
  { dst := some 10, op := .ld none (.t 9) },
  { dst := some 11, op := .len (.t 10) },
  { dst := some 12, op := .bin .neq (.t 8) (.t 11) }])
 (.cond (.t 12) (.seq (.reg false [{ dst := some 2, op := .mv (.c (.b false)) }])
 .ret)
 .skip))
 (.seq (.seq (.reg false [{ dst := some 13, op := .fa 1 (.t 1) },
  { dst := some 14, op := .ld none (.t 13) },
  { dst := some 15, op := .len (.t 14) },
  { dst := some 16, op := .mv (.c (.i .i64 0)) }])
 (.blk 0 (.loop (.seq (.reg false [{ dst := some 17, op := .bin .lss (.t 16) (.t 15) }])
 (.seq (.cond (.t 17) .skip
 (.ext 0))
 (.seq (.blk 1 (.seq (.reg false [{ dst := some 18, op := .mv (.t 16) },
  { dst := some 19, op := .ia 6 (.t 14) (.t 16) },
  { dst := some 20, op := .ld (some 6) (.t 19) },
  { dst := some 4, op := .new (List.replicate 5 (.i .i64 0) ++ [.b false]) },
  { dst := some 3, op := .mv (.t 18) },
  { dst := none, op := .st 6 (.t 4) (.t 20) }])
 (.seq (.reg false [{ dst := some 21, op := .fa 2 (.t 1) },
  { dst := some 22, op := .ld none (.t 21) },
  { dst := some 23, op := .mv (.t 3) },
  { dst := some 24, op := .ia 1 (.t 22) (.t 23) },
  { dst := some 25, op := .ld none (.t 24) },
  { dst := some 5, op := .mv (.t 25) }])
 (.blk 2 (.seq (.reg false [{ dst := some 27, op := .fa 1 (.t 4) },
  { dst := some 28, op := .ld none (.t 27) },
  { dst := some 29, op := .bin .neq (.t 28) (.c (.i .i64 1)) },
  { dst := some 30, op := .mv (.t 29) },
  { dst := some 31, op := .mv (.t 5), grd := some (30, true) },
  { dst := some 32, op := .bin .neq (.t 31) (.c (.i .i64 (-1))), grd := some (30, true) },
  { dst := some 33, op := .pick (.t 30) (.t 32) (.c (.b false)) },
  { dst := some 26, op := .mv (.t 33) }])
 (.cond (.t 26) (.seq (.reg false [{ dst := some 2, op := .mv (.c (.b false)) }])
 .ret)
 (.seq (.reg true [{ dst := some 35, op := .fa 1 (.t 4) },
  { dst := some 36, op := .ld none (.t 35), pre := [] },
  { dst := some 37, op := .bin .eql (.t 36) (.c (.i .i64 1)) },
  { dst := some 38, op := .mv (.t 37) },
  { dst := some 39, op := .ld (some 8) (.t 1), grd := some (38, true), pre := [] },
  { dst := some 40, op := .mv (.t 5), grd := some (38, true) },
  { dst := some 41, op := .fa 3 (.t 4), grd := some (38, true) },
  { dst := some 42, op := .ld none (.t 41), grd := some (38, true), pre := [] },
  { dst := some 43, op := .call .pure (.c (.fn 237 [] [])) [.t 39, .t 40, .t 42], grd := some (38, true), pre := [] },
  { dst := some 44, op := .un .not (.t 43), grd := some (38, true) },
  { dst := some 45, op := .mv (.t 44), grd := some (38, true) },
  { dst := some 46, op := .fa 1 (.t 1), grd := some (45, false) },
  { dst := some 47, op := .ld none (.t 46), grd := some (45, false), pre := [] },
  { dst := some 48, op := .mv (.t 5), grd := some (45, false) },
  { dst := some 49, op := .ia 6 (.t 47) (.t 48), grd := some (45, false) },
  { dst := some 50, op := .fa 4 (.t 49), grd := some (45, false) },
  { dst := some 51, op := .ld none (.t 50), grd := some (45, false), pre := [] },
  { dst := some 52, op := .fa 4 (.t 4), grd := some (45, false) },
  { dst := some 53, op := .ld none (.t 52), grd := some (45, false), pre := [] },
  { dst := some 54, op := .bin .neq (.t 51) (.t 53), grd := some (45, false) },
  { dst := some 55, op := .pick (.t 45) (.c (.b true)) (.t 54), grd := some (38, true) },
  { dst := some 56, op := .pick (.t 38) (.t 55) (.c (.b false)) },
  { dst := some 34, op := .mv (.t 56) }])
 (.cond (.t 34) (.seq (.reg false [{ dst := some 2, op := .mv (.c (.b false)) }])
 .ret)
 .skip))))))))
 (.reg false [{ dst := some 57, op := .bin .add (.t 16) (.c (.i .i64 1)) },
  { dst := some 16, op := .mv (.t 57) }])))))))
 (.seq (.reg false [{ dst := some 2, op := .mv (.c (.b true)) }])
 .ret)))) }
def A_graph_co : AFun := { res := [.t 2], body := (.seq (.reg false [{ dst := some 1, op := .box (.t 0) },
  { dst := some 2, op := .mv (.c (.b false)) }])
 (.seq (.seq (.reg false [{ dst := some 11, op := .fa 3 (.t 1) },
  { dst := some 12, op := .ld none (.t 11) },
  { dst := some 13, op := .len (.t 12) },
  { dst := some 14, op := .fa 0 (.t 1) },
  { dst := some 15, op := .ld none (.t 14) },
  { dst := some 16, op := .bin .neq (.t 13) (.t 15) }])
 (.cond (.t 16) (.seq (.reg false [{ dst := some 2, op := .mv (.c (.b false)) }])
 .ret)
 .skip))
 (.seq (.reg false [{ dst := some 3, op := .mv (.c (.i .i64 0)) }])
 (.seq (.reg false [{ dst := some 4, op := .new (List.replicate 40 (.b false)) }])
 (.seq (.seq (.reg false [{ dst := some 17, op := .fa 3 (.t 1) },
  { dst := some 18, op := .ld none (.t 17) },
  { dst := some 19, op := .len (.t 18) },
  { dst := some 20, op := .mv (.c (.i .i64 0)) }])
 (.blk 0 (.loop (.seq (.reg false [{ dst := some 21, op := .bin .lss (.t 20) (.t 19) }])
 (.seq (.cond (.t 21) .skip
 (.ext 0))
 (.seq (.blk 1 (.seq (.reg false [{ dst := some 22, op := .mv (.t 20) },
  { dst := some 23, op := .ia 1 (.t 18) (.t 20) },
  { dst := some 24, op := .ld none (.t 23) },
  { dst := some 5, op := .mv (.t 22) },
  { dst := some 6, op := .mv (.t 24) }])
 (.seq (.seq (.reg false [{ dst := some 25, op := .mv (.t 6) },
  { dst := some 26, op := .len (.t 25) },
  { dst := some 27, op := .bin .eql (.t 26) (.c (.i .i64 0)) },
  { dst := some 28, op := .mv (.t 27) },
  { dst := some 29, op := .mv (.t 6), grd := some (28, false) },
  { dst := some 30, op := .ia 1 (.t 29) (.c (.i .i64 0)), grd := some (28, false) },
  { dst := some 31, op := .ld none (.t 30), grd := some (28, false) },
  { dst := some 32, op := .mv (.t 5), grd := some (28, false) },
  { dst := some 33, op := .bin .neq (.t 31) (.t 32), grd := some (28, false) },
  { dst := some 34, op := .pick (.t 28) (.c (.b true)) (.t 33) }])
 (.cond (.t 34) (.seq (.reg false [{ dst := some 2, op := .mv (.c (.b false)) }])
 .ret)
 .skip))
 (.seq (.reg false [{ dst := some 35, op := .mv (.t 6) },
  { dst := some 36, op := .len (.t 35) },
  { dst := some 37, op := .mv (.c (.i .i64 0)) }])
 (.blk 2 (.loop (.seq (.reg false [{ dst := some 38, op := .bin .lss (.t 37) (.t 36) }])
 (.seq (.cond (.t 38) .skip
 (.ext 2))
 (.seq (.blk 3 (.seq (.reg false [{ dst := some 39, op := .ia 1 (.t 35) (.t 37) },
  { dst := some 40, op := .ld none (.t 39) },
  { dst := some 8, op := .mv (.t 40) }])
 (.seq (.seq (.reg false [{ dst := some 41, op := .ld (some 8) (.t 1) },
  { dst := some 42, op := .mv (.t 8) },
  { dst := some 43, op := .mv (.t 5) },
  { dst := some 44, op := .call .pure (.c (.fn 237 [] [])) [.t 41, .t 42, .t 43] },
  { dst := some 45, op := .un .not (.t 44) },
  { dst := some 46, op := .mv (.t 45) },
  { dst := some 47, op := .mv (.t 8), grd := some (46, false) },
  { dst := some 48, op := .iaa 40 1 (.t 4) (.t 47), grd := some (46, false) },
  { dst := some 49, op := .ld none (.t 48), grd := some (46, false) },
  { dst := some 50, op := .pick (.t 46) (.c (.b true)) (.t 49) }])
 (.cond (.t 50) (.seq (.reg false [{ dst := some 2, op := .mv (.c (.b false)) }])
 .ret)
 .skip))
 (.seq (.reg false [{ dst := some 51, op := .mv (.t 8) },
  { dst := some 52, op := .iaa 40 1 (.t 4) (.t 51) },
  { dst := none, op := .st 1 (.t 52) (.c (.b true)) }])
 (.reg false [{ dst := some 53, op := .mv (.t 3) },
  { dst := some 54, op := .bin .add (.t 53) (.c (.i .i64 1)) },
  { dst := some 3, op := .mv (.t 54) }])))))
 (.reg false [{ dst := some 55, op := .bin .add (.t 37) (.c (.i .i64 1)) },
  { dst := some 37, op := .mv (.t 55) }]))))))))))
 (.reg false [{ dst := some 56, op := .bin .add (.t 20) (.c (.i .i64 1)) },
  { dst := some 20, op := .mv (.t 56) }])))))))
 (.seq (.seq (.reg false [{ dst := some 57, op := .fa 1 (.t 1) },
  { dst := some 58, op := .ld none (.t 57) },
  { dst := some 59, op := .len (.t 58) },
  { dst := some 60, op := .mv (.c (.i .i64 0)) }])
 (.blk 4 (.loop (.seq (.reg false [{ dst := some 61, op := .bin .lss (.t 60) (.t 59) }])
 (.seq (.cond (.t 61) .skip
 (.ext 4))
 (.seq (.blk 5 (.seq (.reg false [{ dst := some 62, op := .ia 6 (.t 58) (.t 60) },
  { dst := some 63, op := .ld (some 6) (.t 62) },
  { dst := some 10, op := .new (List.replicate 5 (.i .i64 0) ++ [.b false]) },
  { dst := none, op := .st 6 (.t 10) (.t 63) }])
 (.seq (.reg false [{ dst := some 64, op := .fa 1 (.t 10) },
  { dst := some 65, op := .ld none (.t 64) },
  { dst := some 66, op := .bin .eql (.t 65) (.c (.i .i64 2)) }])
 (.cond (.t 66) (.reg false [{ dst := some 67, op := .mv (.t 3) },
  { dst := some 68, op := .bin .sub (.t 67) (.c (.i .i64 1)) },
  { dst := some 3, op := .mv (.t 68) }])
 .skip))))
 (.reg false [{ dst := some 69, op := .bin .add (.t 60) (.c (.i .i64 1)) },
  { dst := some 60, op := .mv (.t 69) }])))))))
 (.seq (.reg false [{ dst := some 70, op := .mv (.t 3) },
  { dst := some 71, op := .bin .eql (.t 70) (.c (.i .i64 0)) },
  { dst := some 2, op := .mv (.t 71) }])
 .ret))))))) }
def A_graph_rmw : AFun := { res := [.t 2], body := (.seq (.reg false [{ dst := some 1, op := .box (.t 0) },
  { dst := some 2, op := .mv (.c (.b false)) }])
 (.seq (.reg false [{ dst := some 3, op := .mv (.c (.fn 238 [] [])) }])
 (.seq (.seq (.reg false [{ dst := some 10, op := .ld (some 8) (.t 1) },
  { dst := some 11, op := .fa 4 (.t 1) },
  { dst := some 12, op := .ld none (.t 11) },
  { dst := some 13, op := .mv (.t 3) },
  { dst := some 14, op := .call .pure (.c (.fn 192 [] [])) [.t 10, .t 12, .t 13] },
  { dst := some 15, op := .un .not (.t 14) }])
 (.cond (.t 15) (.seq (.reg false [{ dst := some 2, op := .mv (.c (.b false)) }])
 .ret)
 .skip))
 (.seq (.reg false [{ dst := some 4, op := .mv (.c (.i .i64 0)) }])
 (.seq (.seq (.reg false [{ dst := some 16, op := .fa 1 (.t 1) },
  { dst := some 17, op := .ld none (.t 16) },
  { dst := some 18, op := .len (.t 17) },
  { dst := some 19, op := .mv (.c (.i .i64 0)) }])
 (.blk 0 (.loop (.seq (.reg false [{ dst := some 20, op := .bin .lss (.t 19) (.t 18) }])
 (.seq (.cond (.t 20) .skip
 (.ext 0))
 (.seq (.blk 1 (.seq (.reg false [{ dst := some 21, op := .ia 6 (.t 17) (.t 19) },
  { dst := some 22, op := .ld (some 6) (.t 21) },
  { dst := some 6, op := .new (List.replicate 5 (.i .i64 0) ++ [.b false]) },
  { dst := none, op := .st 6 (.t 6) (.t 22) }])
 (.seq (.reg false [{ dst := some 23, op := .fa 5 (.t 6) },
  { dst := some 24, op := .ld none (.t 23) }])
 (.cond (.t 24) (.reg false [{ dst := some 25, op := .mv (.t 4) },
  { dst := some 26, op := .bin .add (.t 25) (.c (.i .i64 1)) },
  { dst := some 4, op := .mv (.t 26) }])
 .skip))))
 (.reg false [{ dst := some 27, op := .bin .add (.t 19) (.c (.i .i64 1)) },
  { dst := some 19, op := .mv (.t 27) }])))))))
 (.seq (.reg false [{ dst := some 7, op := .mv (.c (.i .i64 (-1))) }])
 (.seq (.seq (.reg false [{ dst := some 28, op := .fa 4 (.t 1) },
  { dst := some 29, op := .ld none (.t 28) },
  { dst := some 30, op := .len (.t 29) },
  { dst := some 31, op := .mv (.c (.i .i64 0)) }])
 (.blk 2 (.loop (.seq (.reg false [{ dst := some 32, op := .bin .lss (.t 31) (.t 30) }])
 (.seq (.cond (.t 32) .skip
 (.ext 2))
 (.seq (.blk 3 (.seq (.reg false [{ dst := some 33, op := .ia 2 (.t 29) (.t 31) },
  { dst := some 34, op := .ld (some 2) (.t 33) },
  { dst := some 9, op := .new ([.i .i64 0, .i .i64 0]) },
  { dst := none, op := .st 2 (.t 9) (.t 34) }])
 (.seq (.seq (.reg false [{ dst := some 35, op := .fa 1 (.t 9) },
  { dst := some 36, op := .ld none (.t 35) },
  { dst := some 37, op := .fa 0 (.t 9) },
  { dst := some 38, op := .ld none (.t 37) },
  { dst := some 39, op := .bin .add (.t 38) (.c (.i .i64 1)) },
  { dst := some 40, op := .bin .neq (.t 36) (.t 39) },
  { dst := some 41, op := .mv (.t 40) },
  { dst := some 42, op := .fa 0 (.t 9), grd := some (41, false) },
  { dst := some 43, op := .ld none (.t 42), grd := some (41, false) },
  { dst := some 44, op := .mv (.t 7), grd := some (41, false) },
  { dst := some 45, op := .bin .leq (.t 43) (.t 44), grd := some (41, false) },
  { dst := some 46, op := .pick (.t 41) (.c (.b true)) (.t 45) }])
 (.cond (.t 46) (.seq (.reg false [{ dst := some 2, op := .mv (.c (.b false)) }])
 .ret)
 .skip))
 (.reg false [{ dst := some 47, op := .fa 1 (.t 9) },
  { dst := some 48, op := .ld none (.t 47) },
  { dst := some 7, op := .mv (.t 48) }]))))
 (.reg false [{ dst := some 49, op := .bin .add (.t 31) (.c (.i .i64 1)) },
  { dst := some 31, op := .mv (.t 49) }])))))))
 (.seq (.reg false [{ dst := some 50, op := .mv (.t 4) },
  { dst := some 51, op := .fa 4 (.t 1) },
  { dst := some 52, op := .ld none (.t 51) },
  { dst := some 53, op := .len (.t 52) },
  { dst := some 54, op := .bin .mul (.c (.i .i64 2)) (.t 53) },
  { dst := some 55, op := .bin .eql (.t 50) (.t 54) },
  { dst := some 2, op := .mv (.t 55) }])
 .ret)))))))) }
def A_graph_Check_1 : AFun := { res := [.t 4], body := (.seq (.reg false [{ dst := some 2, op := .box (.t 0) },
  { dst := some 3, op := .box (.t 1) },
  { dst := some 4, op := .mv (.c (.b false)) }])
 (.seq (.reg false [{ dst := some 5, op := .fa 1 (.t 2) },
  { dst := some 6, op := .ld none (.t 5) },
  { dst := some 7, op := .bin .eql (.t 6) (.c (.i .i64 1)) },
  { dst := some 8, op := .mv (.t 7) },
  { dst := some 9, op := .fa 0 (.t 2), grd := some (8, true) },
  { dst := some 10, op := .ld none (.t 9), grd := some (8, true) },
  { dst := some 11, op := .fa 0 (.t 3), grd := some (8, true) },
  { dst := some 12, op := .ld none (.t 11), grd := some (8, true) },
  { dst := some 13, op := .bin .eql (.t 10) (.t 12), grd := some (8, true) },
  { dst := some 14, op := .pick (.t 8) (.t 13) (.c (.b false)) },
  { dst := some 4, op := .mv (.t 14) }])
 .ret)) }
def A_graph_list : AFun := { res := [.t 6], body := (.seq (.reg false [{ dst := some 3, op := .box (.t 0) },
  { dst := some 6, op := .mv (.c (.b false)) }])
 (.seq (.seq (.reg false [{ dst := some 9, op := .mv (.t 1) },
  { dst := some 10, op := .len (.t 9) },
  { dst := some 11, op := .mv (.c (.i .i64 0)) }])
 (.blk 0 (.loop (.seq (.reg false [{ dst := some 12, op := .bin .lss (.t 11) (.t 10) }])
 (.seq (.cond (.t 12) .skip
 (.ext 0))
 (.seq (.blk 1 (.seq (.reg false [{ dst := some 13, op := .mv (.t 11) },
  { dst := some 14, op := .ia 2 (.t 9) (.t 11) },
  { dst := some 15, op := .ld (some 2) (.t 14) },
  { dst := some 8, op := .new ([.i .i64 0, .i .i64 0]) },
  { dst := some 7, op := .mv (.t 13) },
  { dst := none, op := .st 2 (.t 8) (.t 15) }])
 (.seq (.reg true [{ dst := some 16, op := .fa 0 (.t 8) },
  { dst := some 17, op := .ld none (.t 16), pre := [] },
  { dst := some 18, op := .bin .lss (.t 17) (.c (.i .i64 0)) },
  { dst := some 19, op := .mv (.t 18) },
  { dst := some 20, op := .fa 1 (.t 8), grd := some (19, false) },
  { dst := some 21, op := .ld none (.t 20), grd := some (19, false), pre := [] },
  { dst := some 22, op := .fa 1 (.t 3), grd := some (19, false) },
  { dst := some 23, op := .ld none (.t 22), grd := some (19, false), pre := [] },
  { dst := some 24, op := .len (.t 23), grd := some (19, false) },
  { dst := some 25, op := .bin .geq (.t 21) (.t 24), grd := some (19, false) },
  { dst := some 26, op := .pick (.t 19) (.c (.b true)) (.t 25) },
  { dst := some 27, op := .mv (.t 26) },
  { dst := some 28, op := .fa 0 (.t 8), grd := some (27, false) },
  { dst := some 29, op := .ld none (.t 28), grd := some (27, false), pre := [] },
  { dst := some 30, op := .fa 1 (.t 8), grd := some (27, false) },
  { dst := some 31, op := .ld none (.t 30), grd := some (27, false), pre := [] },
  { dst := some 32, op := .bin .geq (.t 29) (.t 31), grd := some (27, false) },
  { dst := some 33, op := .pick (.t 27) (.c (.b true)) (.t 32) },
  { dst := some 34, op := .mv (.t 33) },
  { dst := some 35, op := .mv (.t 7), grd := some (34, false) },
  { dst := some 36, op := .bin .gtr (.t 35) (.c (.i .i64 0)), grd := some (34, false) },
  { dst := some 37, op := .mv (.t 36), grd := some (34, false) },
  { dst := some 38, op := .mv (.t 1), grd := some (37, true) },
  { dst := some 39, op := .mv (.t 7), grd := some (37, true) },
  { dst := some 40, op := .bin .sub (.t 39) (.c (.i .i64 1)), grd := some (37, true) },
  { dst := some 41, op := .ia 2 (.t 38) (.t 40), grd := some (37, true) },
  { dst := some 42, op := .ld (some 2) (.t 41), grd := some (37, true), pre := [] },
  { dst := some 43, op := .ld (some 2) (.t 8), grd := some (37, true), pre := [] },
  { dst := some 44, op := .call .pure (.c (.fn 239 [] [])) [.t 42, .t 43], grd := some (37, true), pre := [] },
  { dst := some 45, op := .bin .geq (.t 44) (.c (.i .i64 0)), grd := some (37, true) },
  { dst := some 46, op := .pick (.t 37) (.t 45) (.c (.b false)), grd := some (34, false) },
  { dst := some 47, op := .pick (.t 34) (.c (.b true)) (.t 46) },
  { dst := some 48, op := .mv (.t 47) },
  { dst := some 49, op := .mv (.t 2), grd := some (48, false) },
  { dst := some 50, op := .fa 1 (.t 3), grd := some (48, false) },
  { dst := some 51, op := .ld none (.t 50), grd := some (48, false), pre := [] },
  { dst := some 52, op := .fa 0 (.t 8), grd := some (48, false) },
  { dst := some 53, op := .ld none (.t 52), grd := some (48, false), pre := [] },
  { dst := some 54, op := .ia 6 (.t 51) (.t 53), grd := some (48, false) },
  { dst := some 55, op := .ld (some 6) (.t 54), grd := some (48, false), pre := [] },
  { dst := some 56, op := .fa 1 (.t 3), grd := some (48, false) },
  { dst := some 57, op := .ld none (.t 56), grd := some (48, false), pre := [] },
  { dst := some 58, op := .fa 1 (.t 8), grd := some (48, false) },
  { dst := some 59, op := .ld none (.t 58), grd := some (48, false), pre := [] },
  { dst := some 60, op := .ia 6 (.t 57) (.t 59), grd := some (48, false) },
  { dst := some 61, op := .ld (some 6) (.t 60), grd := some (48, false), pre := [] },
  { dst := some 62, op := .call .pure (.t 49) [.t 55, .t 61], grd := some (48, false), pre := [] },
  { dst := some 63, op := .un .not (.t 62), grd := some (48, false) },
  { dst := some 64, op := .pick (.t 48) (.c (.b true)) (.t 63) }])
 (.cond (.t 64) (.seq (.reg false [{ dst := some 6, op := .mv (.c (.b false)) }])
 .ret)
 .skip))))
 (.reg false [{ dst := some 65, op := .bin .add (.t 11) (.c (.i .i64 1)) },
  { dst := some 11, op := .mv (.t 65) }])))))))
 (.seq (.reg false [{ dst := some 6, op := .mv (.c (.b true)) }])
 .ret))) }
def A_graph_event : AFun := { res := [.t 4], body := (.seq (.reg false [{ dst := some 2, op := .box (.t 0) },
  { dst := some 4, op := .mv (.c (.b false)) }])
 (.seq (.reg false [{ dst := some 6, op := .fa 3 (.t 2) },
  { dst := some 7, op := .ld none (.t 6) },
  { dst := some 8, op := .bin .geq (.t 7) (.c (.i .i64 0)) },
  { dst := some 9, op := .mv (.t 8) },
  { dst := some 10, op := .fa 3 (.t 2), grd := some (9, true) },
  { dst := some 11, op := .ld none (.t 10), grd := some (9, true) },
  { dst := some 12, op := .mv (.t 1), grd := some (9, true) },
  { dst := some 13, op := .bin .lss (.t 11) (.t 12), grd := some (9, true) },
  { dst := some 14, op := .pick (.t 9) (.t 13) (.c (.b false)) },
  { dst := some 5, op := .mv (.t 14) }])
 (.seq (.seq (.reg false [{ dst := some 15, op := .fa 1 (.t 2) },
  { dst := some 16, op := .ld none (.t 15) }])
 (.blk 0 (.seq (.reg false [{ dst := some 18, op := .bin .eql (.t 16) (.c (.i .i64 1)) },
  { dst := some 17, op := .mv (.t 18) }])
 (.cond (.t 17) (.seq (.reg false [{ dst := some 19, op := .mv (.t 5) },
  { dst := some 20, op := .mv (.t 19) },
  { dst := some 21, op := .fa 2 (.t 2), grd := some (20, true) },
  { dst := some 22, op := .ld none (.t 21), grd := some (20, true) },
  { dst := some 23, op := .bin .eql (.t 22) (.c (.i .i64 0)), grd := some (20, true) },
  { dst := some 24, op := .mv (.t 23), grd := some (20, true) },
  { dst := some 25, op := .fa 2 (.t 2), grd := some (24, false) },
  { dst := some 26, op := .ld none (.t 25), grd := some (24, false) },
  { dst := some 27, op := .bin .eql (.t 26) (.c (.i .i64 1)), grd := some (24, false) },
  { dst := some 28, op := .pick (.t 24) (.c (.b true)) (.t 27), grd := some (20, true) },
  { dst := some 29, op := .pick (.t 20) (.t 28) (.c (.b false)) },
  { dst := some 4, op := .mv (.t 29) }])
 .ret)
 (.seq (.reg false [{ dst := some 31, op := .bin .eql (.t 16) (.c (.i .i64 2)) },
  { dst := some 30, op := .mv (.t 31) }])
 (.cond (.t 30) (.seq (.reg false [{ dst := some 32, op := .mv (.t 5) },
  { dst := some 33, op := .mv (.t 32) },
  { dst := some 34, op := .fa 2 (.t 2), grd := some (33, true) },
  { dst := some 35, op := .ld none (.t 34), grd := some (33, true) },
  { dst := some 36, op := .bin .eql (.t 35) (.c (.i .i64 0)), grd := some (33, true) },
  { dst := some 37, op := .mv (.t 36), grd := some (33, true) },
  { dst := some 38, op := .fa 2 (.t 2), grd := some (37, false) },
  { dst := some 39, op := .ld none (.t 38), grd := some (37, false) },
  { dst := some 40, op := .bin .eql (.t 39) (.c (.i .i64 2)), grd := some (37, false) },
  { dst := some 41, op := .pick (.t 37) (.c (.b true)) (.t 40), grd := some (33, true) },
  { dst := some 42, op := .pick (.t 33) (.t 41) (.c (.b false)) },
  { dst := some 4, op := .mv (.t 42) }])
 .ret)
 .skip))))))
 (.seq (.reg false [{ dst := some 43, op := .fa 1 (.t 2) },
  { dst := some 44, op := .ld none (.t 43) },
  { dst := some 45, op := .bin .eql (.t 44) (.c (.i .i64 3)) },
  { dst := some 46, op := .mv (.t 45) },
  { dst := some 47, op := .fa 2 (.t 2), grd := some (46, true) },
  { dst := some 48, op := .ld none (.t 47), grd := some (46, true) },
  { dst := some 49, op := .bin .geq (.t 48) (.c (.i .i64 1)), grd := some (46, true) },
  { dst := some 50, op := .pick (.t 46) (.t 49) (.c (.b false)) },
  { dst := some 51, op := .mv (.t 50) },
  { dst := some 52, op := .fa 2 (.t 2), grd := some (51, true) },
  { dst := some 53, op := .ld none (.t 52), grd := some (51, true) },
  { dst := some 54, op := .bin .leq (.t 53) (.c (.i .i64 4)), grd := some (51, true) },
  { dst := some 55, op := .pick (.t 51) (.t 54) (.c (.b false)) },
  { dst := some 56, op := .mv (.t 55) },
  { dst := some 57, op := .fa 3 (.t 2), grd := some (56, true) },
  { dst := some 58, op := .ld none (.t 57), grd := some (56, true) },
  { dst := some 59, op := .bin .eql (.t 58) (.c (.i .i64 0)), grd := some (56, true) },
  { dst := some 60, op := .pick (.t 56) (.t 59) (.c (.b false)) },
  { dst := some 61, op := .mv (.t 60) },
  { dst := some 62, op := .fa 4 (.t 2), grd := some (61, true) },
  { dst := some 63, op := .ld none (.t 62), grd := some (61, true) },
  { dst := some 64, op := .bin .eql (.t 63) (.c (.i .i64 0)), grd := some (61, true) },
  { dst := some 65, op := .pick (.t 61) (.t 64) (.c (.b false)) },
  { dst := some 66, op := .mv (.t 65) },
  { dst := some 67, op := .fa 5 (.t 2), grd := some (66, true) },
  { dst := some 68, op := .ld none (.t 67), grd := some (66, true) },
  { dst := some 69, op := .un .not (.t 68), grd := some (66, true) },
  { dst := some 70, op := .pick (.t 66) (.t 69) (.c (.b false)) },
  { dst := some 4, op := .mv (.t 70) }])
 .ret)))) }
def A_graph_write : AFun := { res := [.t 6], body := (.seq (.reg false [{ dst := some 3, op := .box (.t 0) },
  { dst := some 6, op := .mv (.c (.b false)) }])
 (.seq (.reg false [{ dst := some 7, op := .mv (.t 1) },
  { dst := some 8, op := .bin .geq (.t 7) (.c (.i .i64 0)) },
  { dst := some 9, op := .mv (.t 8) },
  { dst := some 10, op := .mv (.t 1), grd := some (9, true) },
  { dst := some 11, op := .fa 1 (.t 3), grd := some (9, true) },
  { dst := some 12, op := .ld none (.t 11), grd := some (9, true) },
  { dst := some 13, op := .len (.t 12), grd := some (9, true) },
  { dst := some 14, op := .bin .lss (.t 10) (.t 13), grd := some (9, true) },
  { dst := some 15, op := .pick (.t 9) (.t 14) (.c (.b false)) },
  { dst := some 16, op := .mv (.t 15) },
  { dst := some 17, op := .fa 1 (.t 3), grd := some (16, true) },
  { dst := some 18, op := .ld none (.t 17), grd := some (16, true) },
  { dst := some 19, op := .mv (.t 1), grd := some (16, true) },
  { dst := some 20, op := .ia 6 (.t 18) (.t 19), grd := some (16, true) },
  { dst := some 21, op := .fa 1 (.t 20), grd := some (16, true) },
  { dst := some 22, op := .ld none (.t 21), grd := some (16, true) },
  { dst := some 23, op := .bin .eql (.t 22) (.c (.i .i64 2)), grd := some (16, true) },
  { dst := some 24, op := .pick (.t 16) (.t 23) (.c (.b false)) },
  { dst := some 25, op := .mv (.t 24) },
  { dst := some 26, op := .fa 1 (.t 3), grd := some (25, true) },
  { dst := some 27, op := .ld none (.t 26), grd := some (25, true) },
  { dst := some 28, op := .mv (.t 1), grd := some (25, true) },
  { dst := some 29, op := .ia 6 (.t 27) (.t 28), grd := some (25, true) },
  { dst := some 30, op := .fa 3 (.t 29), grd := some (25, true) },
  { dst := some 31, op := .ld none (.t 30), grd := some (25, true) },
  { dst := some 32, op := .mv (.t 2), grd := some (25, true) },
  { dst := some 33, op := .bin .eql (.t 31) (.t 32), grd := some (25, true) },
  { dst := some 34, op := .pick (.t 25) (.t 33) (.c (.b false)) },
  { dst := some 6, op := .mv (.t 34) }])
 .ret)) }
def A_graph_rmw_1 : AFun := { res := [.t 4], body := (.seq (.reg false [{ dst := some 2, op := .box (.t 0) },
  { dst := some 3, op := .box (.t 1) },
  { dst := some 4, op := .mv (.c (.b false)) }])
 (.seq (.reg false [{ dst := some 5, op := .fa 1 (.t 2) },
  { dst := some 6, op := .ld none (.t 5) },
  { dst := some 7, op := .bin .eql (.t 6) (.c (.i .i64 1)) },
  { dst := some 8, op := .mv (.t 7) },
  { dst := some 9, op := .fa 1 (.t 3), grd := some (8, true) },
  { dst := some 10, op := .ld none (.t 9), grd := some (8, true) },
  { dst := some 11, op := .bin .eql (.t 10) (.c (.i .i64 2)), grd := some (8, true) },
  { dst := some 12, op := .pick (.t 8) (.t 11) (.c (.b false)) },
  { dst := some 13, op := .mv (.t 12) },
  { dst := some 14, op := .fa 3 (.t 2), grd := some (13, true) },
  { dst := some 15, op := .ld none (.t 14), grd := some (13, true) },
  { dst := some 16, op := .fa 3 (.t 3), grd := some (13, true) },
  { dst := some 17, op := .ld none (.t 16), grd := some (13, true) },
  { dst := some 18, op := .bin .eql (.t 15) (.t 17), grd := some (13, true) },
  { dst := some 19, op := .pick (.t 13) (.t 18) (.c (.b false)) },
  { dst := some 20, op := .mv (.t 19) },
  { dst := some 21, op := .fa 5 (.t 2), grd := some (20, true) },
  { dst := some 22, op := .ld none (.t 21), grd := some (20, true) },
  { dst := some 23, op := .pick (.t 20) (.t 22) (.c (.b false)) },
  { dst := some 24, op := .mv (.t 23) },
  { dst := some 25, op := .fa 5 (.t 3), grd := some (24, true) },
  { dst := some 26, op := .ld none (.t 25), grd := some (24, true) },
  { dst := some 27, op := .pick (.t 24) (.t 26) (.c (.b false)) },
  { dst := some 28, op := .mv (.t 27) },
  { dst := some 29, op := .fa 0 (.t 2), grd := some (28, true) },
  { dst := some 30, op := .ld none (.t 29), grd := some (28, true) },
  { dst := some 31, op := .fa 0 (.t 3), grd := some (28, true) },
  { dst := some 32, op := .ld none (.t 31), grd := some (28, true) },
  { dst := some 33, op := .bin .eql (.t 30) (.t 32), grd := some (28, true) },
  { dst := some 34, op := .pick (.t 28) (.t 33) (.c (.b false)) },
  { dst := some 4, op := .mv (.t 34) }])
 .ret)) }
def A_graph_order : AFun := { res := [.t 4], body := (.seq (.reg false [{ dst := some 2, op := .box (.t 0) },
  { dst := some 3, op := .box (.t 1) },
  { dst := some 4, op := .mv (.c (.i .i64 0)) }])
 (.seq (.reg true [{ dst := some 5, op := .fa 0 (.t 2) },
  { dst := some 6, op := .ld none (.t 5), pre := [] },
  { dst := some 7, op := .fa 0 (.t 3) },
  { dst := some 8, op := .ld none (.t 7), pre := [] },
  { dst := some 9, op := .call .pure (.c (.fn 248 [] [])) [.t 6, .t 8], pre := [] },
  { dst := some 10, op := .fa 1 (.t 2) },
  { dst := some 11, op := .ld none (.t 10), pre := [] },
  { dst := some 12, op := .fa 1 (.t 3) },
  { dst := some 13, op := .ld none (.t 12), pre := [] },
  { dst := some 14, op := .call .pure (.c (.fn 248 [] [])) [.t 11, .t 13], pre := [] },
  { dst := some 15, op := .bsl true 2 ([.i .i64 0, .i .i64 0]) [(0, 1, .t 9), (1, 1, .t 14)], pre := [] },
  { dst := some 16, op := .call .pure (.c (.fn 249 [] [])) [.t 15], pre := [] },
  { dst := some 4, op := .mv (.t 16) }])
 .ret)) }
end Go.Ab
end
section
namespace Go.Ab
def A_imm_Consistent : AFun := { res := [.t 2], body := (.seq (.reg false [{ dst := some 1, op := .box (.t 0) },
  { dst := some 2, op := .mv (.c (.b false)) }])
 (.seq (.seq (.reg false [{ dst := some 6, op := .ld (some 8) (.t 1) },
  { dst := some 7, op := .call .pure (.c (.fn 152 [] [])) [.t 6] },
  { dst := some 8, op := .un .not (.t 7) }])
 (.cond (.t 8) (.seq (.reg false [{ dst := some 2, op := .mv (.c (.b false)) }])
 .ret)
 .skip))
 (.seq (.reg false [{ dst := some 9, op := .ld (some 8) (.t 1) },
  { dst := some 10, op := .build ([.i .i64 0] ++ List.replicate 7 (.sl [] 0 .rig)) [(0, 8, .t 9)] },
  { dst := some 3, op := .new ([.i .i64 0] ++ List.replicate 7 (.sl [] 0 .rig)) },
  { dst := none, op := .st 8 (.t 3) (.t 10) }])
 (.seq (.seq (.reg false [{ dst := some 11, op := .ld (some 8) (.t 3) },
  { dst := some 12, op := .mkfn 214 [.t 11] [] },
  { dst := some 13, op := .build ([.nilf]) [(0, 1, .t 12)] },
  { dst := some 14, op := .ld (some 8) (.t 3) },
  { dst := some 15, op := .mkfn 215 [.t 14] [] },
  { dst := some 16, op := .build ([.nilf]) [(0, 1, .t 15)] },
  { dst := some 17, op := .ld (some 8) (.t 3) },
  { dst := some 18, op := .mkfn 216 [.t 17] [] },
  { dst := some 19, op := .build ([.nilf]) [(0, 1, .t 18)] },
  { dst := some 20, op := .bsl true 3 ([.nilf, .nilf, .nilf]) [(0, 1, .t 13), (1, 1, .t 16), (2, 1, .t 19)] },
  { dst := some 21, op := .len (.t 20) },
  { dst := some 22, op := .mv (.c (.i .i64 0)) }])
 (.blk 0 (.loop (.seq (.reg false [{ dst := some 23, op := .bin .lss (.t 22) (.t 21) }])
 (.seq (.cond (.t 23) .skip
 (.ext 0))
 (.seq (.blk 1 (.seq (.reg false [{ dst := some 24, op := .ia 1 (.t 20) (.t 22) },
  { dst := some 25, op := .ld (some 1) (.t 24) },
  { dst := some 5, op := .new ([.nilf]) },
  { dst := none, op := .st 1 (.t 5) (.t 25) }])
 (.seq (.reg false [{ dst := some 26, op := .fa 0 (.t 5) },
  { dst := some 27, op := .ld none (.t 26) },
  { dst := some 28, op := .call .pure (.t 27) [] },
  { dst := some 29, op := .un .not (.t 28) }])
 (.cond (.t 29) (.seq (.reg false [{ dst := some 2, op := .mv (.c (.b false)) }])
 .ret)
 .skip))))
 (.reg false [{ dst := some 30, op := .bin .add (.t 22) (.c (.i .i64 1)) },
  { dst := some 22, op := .mv (.t 30) }])))))))
 (.seq (.reg false [{ dst := some 2, op := .mv (.c (.b true)) }])
 .ret))))) }
def A_imm_Atomic : AFun := { res := [.t 2], body := (.seq (.reg false [{ dst := some 1, op := .box (.t 0) },
  { dst := some 2, op := .mv (.c (.b false)) }])
 (.seq (.reg false [{ dst := some 3, op := .ld (some 8) (.t 1) },
  { dst := some 4, op := .build ([.i .i64 0] ++ List.replicate 7 (.sl [] 0 .rig)) [(0, 8, .t 3)] },
  { dst := some 5, op := .call .pure (.c (.fn 215 [] [])) [.t 4] },
  { dst := some 2, op := .mv (.t 5) }])
 .ret)) }
def A_imm_Coherent : AFun := { res := [.t 2], body := (.seq (.reg false [{ dst := some 1, op := .box (.t 0) },
  { dst := some 2, op := .mv (.c (.b false)) }])
 (.seq (.reg false [{ dst := some 3, op := .ld (some 8) (.t 1) },
  { dst := some 4, op := .build ([.i .i64 0] ++ List.replicate 7 (.sl [] 0 .rig)) [(0, 8, .t 3)] },
  { dst := some 5, op := .call .pure (.c (.fn 214 [] [])) [.t 4] },
  { dst := some 2, op := .mv (.t 5) }])
 .ret)) }
def A_imm_looked_coherent : AFun := { res := [.t 2], body := (.seq (.reg false [{ dst := some 1, op := .box (.t 0) },
  { dst := some 2, op := .mv (.c (.b false)) }])
 (.seq (.reg false [{ dst := some 6, op := .fa 0 (.t 1) },
  { dst := some 7, op := .ld (some 8) (.t 6) },
  { dst := some 8, op := .call .pure (.c (.fn 148 [] [])) [.t 7] },
  { dst := some 3, op := .mv (.t 8) }])
 (.seq (.reg false [{ dst := some 9, op := .mv (.t 3) },
  { dst := some 10, op := .mv (.t 3) },
  { dst := some 11, op := .fa 0 (.t 1) },
  { dst := some 12, op := .ld (some 8) (.t 11) },
  { dst := some 13, op := .call .pure (.c (.fn 42 [] [])) [.t 12] },
  { dst := some 14, op := .call .pure (.c (.fn 23 [] [])) [.t 10, .t 13] },
  { dst := some 15, op := .call .pure (.c (.fn 24 [] [])) [.t 9, .t 14] },
  { dst := some 4, op := .mv (.t 15) }])
 (.seq (.seq (.reg false [{ dst := some 16, op := .fa 0 (.t 1) },
  { dst := some 17, op := .fa 1 (.t 16) },
  { dst := some 18, op := .ld none (.t 17) },
  { dst := some 19, op := .len (.t 18) },
  { dst := some 20, op := .mv (.c (.i .i64 0)) }])
 (.blk 0 (.loop (.seq (.reg false [{ dst := some 21, op := .bin .lss (.t 20) (.t 19) }])
 (.seq (.cond (.t 21) .skip
 (.ext 0))
 (.seq (.blk 1 (.seq (.reg false [{ dst := some 22, op := .mv (.t 20) },
  { dst := some 5, op := .mv (.t 22) }])
 (.seq (.reg false [{ dst := some 23, op := .mv (.t 4) },
  { dst := some 24, op := .mv (.t 5) },
  { dst := some 25, op := .mv (.t 5) },
  { dst := some 26, op := .call .pure (.c (.fn 13 [] [])) [.t 23, .t 24, .t 25] }])
 (.cond (.t 26) (.seq (.reg false [{ dst := some 2, op := .mv (.c (.b false)) }])
 .ret)
 .skip))))
 (.reg false [{ dst := some 27, op := .bin .add (.t 20) (.c (.i .i64 1)) },
  { dst := some 20, op := .mv (.t 27) }])))))))
 (.seq (.reg false [{ dst := some 2, op := .mv (.c (.b true)) }])
 .ret))))) }
def A_imm_looked_atomic : AFun := { res := [.t 2], body := (.seq (.reg false [{ dst := some 1, op := .box (.t 0) },
  { dst := some 2, op := .mv (.c (.b false)) }])
 (.seq (.reg false [{ dst := some 5, op := .fa 0 (.t 1) },
  { dst := some 6, op := .ld (some 8) (.t 5) },
  { dst := some 3, op := .new ([.i .i64 0] ++ List.replicate 7 (.sl [] 0 .rig)) },
  { dst := none, op := .st 8 (.t 3) (.t 6) }])
 (.seq (.reg true [{ dst := some 7, op := .ld (some 8) (.t 3), pre := [] },
  { dst := some 8, op := .ld (some 8) (.t 3), pre := [] },
  { dst := some 9, op := .call .pure (.c (.fn 50 [] [])) [.t 8], pre := [] },
  { dst := some 10, op := .call .pure (.c (.fn 40 [] [])) [.t 7, .t 9], pre := [] },
  { dst := some 11, op := .ld (some 8) (.t 3), pre := [] },
  { dst := some 12, op := .ld (some 8) (.t 3), pre := [] },
  { dst := some 13, op := .call .pure (.c (.fn 49 [] [])) [.t 12], pre := [] },
  { dst := some 14, op := .call .pure (.c (.fn 40 [] [])) [.t 11, .t 13], pre := [] },
  { dst := some 15, op := .call .pure (.c (.fn 23 [] [])) [.t 10, .t 14], pre := [] },
  { dst := some 4, op := .mv (.t 15) }])
 (.seq (.reg false [{ dst := some 16, op := .ld (some 8) (.t 3) },
  { dst := some 17, op := .fa 4 (.t 3) },
  { dst := some 18, op := .ld none (.t 17) },
  { dst := some 19, op := .call .pure (.c (.fn 81 [] [])) [.t 16, .t 18] },
  { dst := some 20, op := .mv (.t 4) },
  { dst := some 21, op := .call .pure (.c (.fn 18 [] [])) [.t 19, .t 20] },
  { dst := some 22, op := .call .pure (.c (.fn 15 [] [])) [.t 21] },
  { dst := some 23, op := .len (.t 22) },
  { dst := some 24, op := .bin .eql (.t 23) (.c (.i .i64 0)) },
  { dst := some 2, op := .mv (.t 24) }])
 .ret)))) }
def A_imm_looked_ordered : AFun := { res := [.t 2], body := (.seq (.reg false [{ dst := some 1, op := .box (.t 0) },
  { dst := some 2, op := .mv (.c (.b false)) }])
 (.seq (.reg false [{ dst := some 3, op := .fa 0 (.t 1) },
  { dst := some 4, op := .ld (some 8) (.t 3) },
  { dst := some 5, op := .call .pure (.c (.fn 156 [] [])) [.t 4] },
  { dst := some 6, op := .call .pure (.c (.fn 14 [] [])) [.t 5] },
  { dst := some 7, op := .un .not (.t 6) },
  { dst := some 2, op := .mv (.t 7) }])
 .ret)) }
def A_imm_Ordered : AFun := { res := [.t 2], body := (.seq (.reg false [{ dst := some 1, op := .box (.t 0) },
  { dst := some 2, op := .mv (.c (.b false)) }])
 (.seq (.reg false [{ dst := some 3, op := .ld (some 8) (.t 1) },
  { dst := some 4, op := .build ([.i .i64 0] ++ List.replicate 7 (.sl [] 0 .rig)) [(0, 8, .t 3)] },
  { dst := some 5, op := .call .pure (.c (.fn 216 [] [])) [.t 4] },
  { dst := some 2, op := .mv (.t 5) }])
 .ret)) }
structure Pk_imm (F : Funs) : Prop where
  imm_Consistent : F 161 = some A_imm_Consistent
  imm_Atomic : F 162 = some A_imm_Atomic
  imm_Coherent : F 164 = some A_imm_Coherent
  imm_looked_coherent : F 214 = some A_imm_looked_coherent
  imm_looked_atomic : F 215 = some A_imm_looked_atomic
  imm_looked_ordered : F 216 = some A_imm_looked_ordered
  imm_Ordered : F 217 = some A_imm_Ordered
end Go.Ab
end
section
namespace Go.Ab
def A_order_Bob : AFun := { res := [.t 2], body := (.seq (.reg false [{ dst := some 1, op := .boxI (.t 0) },
  { dst := some 2, op := .mv (.c (.nilp)) }])
 (.seq (.reg false [{ dst := some 4, op := .ld (some 8) (.t 1) },
  { dst := some 5, op := .call .pure (.c (.fn 60 [] [])) [.t 4] },
  { dst := some 3, op := .new ([.nilp]) },
  { dst := none, op := .st 1 (.t 3) (.t 5) }])
 (.seq (.imm 3 (.reg false [{ dst := some 6, op := .ld (some 8) (.t 1) },
  { dst := some 7, op := .mkfn 194 [] [.t 3, .t 1] },
  { dst := some 8, op := .mkfn 197 [] [.t 1, .t 3] },
  { dst := some 9, op := .mkfn 199 [] [.t 3, .t 1] },
  { dst := some 10, op := .mkfn 201 [] [.t 1, .t 3] },
  { dst := some 11, op := .mkfn 202 [] [.t 1] },
  { dst := some 12, op := .bsl true 5 (List.replicate 5 (.nilf)) [(0, 1, .t 7), (1, 1, .t 8), (2, 1, .t 9), (3, 1, .t 10), (4, 1, .t 11)] },
  { dst := some 13, op := .call .pure (.c (.fn 193 [] [])) [.t 6, .t 12] },
  { dst := some 2, op := .mv (.t 13) }]))
 .ret))) }
def A_order_Ar : AFun := { res := [.t 2], body := (.seq (.reg false [{ dst := some 1, op := .boxI (.t 0) },
  { dst := some 2, op := .mv (.c (.nilp)) }])
 (.seq (.reg false [{ dst := some 3, op := .ld (some 8) (.t 1) },
  { dst := some 4, op := .mkfn 204 [] [.t 1] },
  { dst := some 5, op := .mkfn 205 [] [.t 1] },
  { dst := some 6, op := .mkfn 206 [] [.t 1] },
  { dst := some 7, op := .mkfn 208 [] [.t 1] },
  { dst := some 8, op := .mkfn 210 [] [.t 1] },
  { dst := some 9, op := .bsl true 5 (List.replicate 5 (.nilf)) [(0, 1, .t 4), (1, 1, .t 5), (2, 1, .t 6), (3, 1, .t 7), (4, 1, .t 8)] },
  { dst := some 10, op := .call .pure (.c (.fn 193 [] [])) [.t 3, .t 9] },
  { dst := some 2, op := .mv (.t 10) }])
 .ret)) }
def A_order_all : AFun := { res := [.t 4], body := (.seq (.reg false [{ dst := some 2, op := .box (.t 0) },
  { dst := some 4, op := .mv (.c (.nilp)) }])
 (.seq (.reg false [{ dst := some 8, op := .fa 1 (.t 2) },
  { dst := some 9, op := .ld none (.t 8) },
  { dst := some 10, op := .len (.t 9) },
  { dst := some 11, op := .call .pure (.c (.fn 11 [] [])) [.t 10, .c (.sl [] 0 .rig)] },
  { dst := some 5, op := .mv (.t 11) }])
 (.seq (.seq (.reg false [{ dst := some 12, op := .mv (.t 1) },
  { dst := some 13, op := .len (.t 12) },
  { dst := some 14, op := .mv (.c (.i .i64 0)) }])
 (.blk 0 (.loop (.seq (.reg false [{ dst := some 15, op := .bin .lss (.t 14) (.t 13) }])
 (.seq (.cond (.t 15) .skip
 (.ext 0))
 (.seq (.blk 1 (.seq (.reg false [{ dst := some 16, op := .ia 1 (.t 12) (.t 14) },
  { dst := some 17, op := .ld none (.t 16) },
  { dst := some 7, op := .mv (.t 17) }])
 (.reg false [{ dst := some 18, op := .mv (.t 5) },
  { dst := some 19, op := .mv (.t 7) },
  { dst := some 20, op := .call .pure (.t 19) [] },
  { dst := some 21, op := .call .pure (.c (.fn 24 [] [])) [.t 18, .t 20] },
  { dst := some 5, op := .mv (.t 21) }])))
 (.reg false [{ dst := some 22, op := .bin .add (.t 14) (.c (.i .i64 1)) },
  { dst := some 14, op := .mv (.t 22) }])))))))
 (.seq (.reg false [{ dst := some 23, op := .mv (.t 5) },
  { dst := some 4, op := .mv (.t 23) }])
 .ret)))) }
def A_order_Bob_1 : AFun := { res := [.t 2], body := (.seq (.reg false [{ dst := some 2, op := .mv (.c (.nilp)) }])
 (.seq (.reg true [{ dst := some 3, op := .ld none (.t 0), pre := [] },
  { dst := some 4, op := .ld (some 8) (.t 1), pre := [] },
  { dst := some 5, op := .call .pure (.c (.fn 195 [] [])) [.t 4, .c (.fn 196 [] [])], pre := [] },
  { dst := some 6, op := .call .pure (.c (.fn 23 [] [])) [.t 3, .t 5], pre := [] },
  { dst := some 2, op := .mv (.t 6) }])
 .ret)) }
def A_order_set : AFun := { res := [.t 4], body := (.seq (.reg false [{ dst := some 2, op := .box (.t 0) },
  { dst := some 4, op := .mv (.c (.nilp)) }])
 (.seq (.reg false [{ dst := some 5, op := .ld (some 8) (.t 2) },
  { dst := some 6, op := .mv (.t 1) },
  { dst := some 7, op := .call .pure (.c (.fn 166 [] [])) [.t 5, .t 6] },
  { dst := some 4, op := .mv (.t 7) }])
 .ret)) }
def A_order_isRel : AFun := { res := [.t 2], body := (.seq (.reg false [{ dst := some 1, op := .box (.t 0) },
  { dst := some 2, op := .mv (.c (.b false)) }])
 (.seq (.reg false [{ dst := some 3, op := .ld (some 6) (.t 1) },
  { dst := some 4, op := .call .pure (.c (.fn 203 [] [])) [.t 3] },
  { dst := some 5, op := .mv (.t 4) },
  { dst := some 6, op := .fa 2 (.t 1), grd := some (5, true) },
  { dst := some 7, op := .ld none (.t 6), grd := some (5, true) },
  { dst := some 8, op := .bin .eql (.t 7) (.c (.i .i64 2)), grd := some (5, true) },
  { dst := some 9, op := .pick (.t 5) (.t 8) (.c (.b false)) },
  { dst := some 2, op := .mv (.t 9) }])
 .ret)) }
def A_order_Bob_2 : AFun := { res := [.t 2], body := (.seq (.reg false [{ dst := some 2, op := .mv (.c (.nilp)) }])
 (.seq (.reg true [{ dst := some 3, op := .ld (some 8) (.t 0), pre := [] },
  { dst := some 4, op := .call .pure (.c (.fn 195 [] [])) [.t 3, .c (.fn 198 [] [])], pre := [] },
  { dst := some 5, op := .ld none (.t 1), pre := [] },
  { dst := some 6, op := .call .pure (.c (.fn 23 [] [])) [.t 4, .t 5], pre := [] },
  { dst := some 2, op := .mv (.t 6) }])
 .ret)) }
def A_order_isAcq : AFun := { res := [.t 2], body := (.seq (.reg false [{ dst := some 1, op := .box (.t 0) },
  { dst := some 2, op := .mv (.c (.b false)) }])
 (.seq (.reg false [{ dst := some 3, op := .ld (some 6) (.t 1) },
  { dst := some 4, op := .call .pure (.c (.fn 240 [] [])) [.t 3] },
  { dst := some 5, op := .mv (.t 4) },
  { dst := some 6, op := .fa 2 (.t 1), grd := some (5, true) },
  { dst := some 7, op := .ld none (.t 6), grd := some (5, true) },
  { dst := some 8, op := .bin .eql (.t 7) (.c (.i .i64 1)), grd := some (5, true) },
  { dst := some 9, op := .pick (.t 5) (.t 8) (.c (.b false)) },
  { dst := some 2, op := .mv (.t 9) }])
 .ret)) }
def A_order_Bob_3 : AFun := { res := [.t 2], body := (.seq (.reg false [{ dst := some 2, op := .mv (.c (.nilp)) }])
 (.seq (.reg true [{ dst := some 3, op := .ld none (.t 0), pre := [] },
  { dst := some 4, op := .ld (some 8) (.t 1), pre := [] },
  { dst := some 5, op := .call .pure (.c (.fn 195 [] [])) [.t 4, .c (.fn 200 [] [])], pre := [] },
  { dst := some 6, op := .call .pure (.c (.fn 23 [] [])) [.t 3, .t 5], pre := [] },
  { dst := some 2, op := .mv (.t 6) }])
 .ret)) }
def A_order_isF : AFun := { res := [.t 2], body := (.seq (.reg false [{ dst := some 1, op := .box (.t 0) },
  { dst := some 2, op := .mv (.c (.b false)) }])
 (.seq (.reg false [{ dst := some 3, op := .fa 1 (.t 1) },
  { dst := some 4, op := .ld none (.t 3) },
  { dst := some 5, op := .bin .eql (.t 4) (.c (.i .i64 3)) },
  { dst := some 2, op := .mv (.t 5) }])
 .ret)) }
def A_order_Bob_4 : AFun := { res := [.t 2], body := (.seq (.reg false [{ dst := some 2, op := .mv (.c (.nilp)) }])
 (.seq (.reg true [{ dst := some 3, op := .ld (some 8) (.t 0), pre := [] },
  { dst := some 4, op := .call .pure (.c (.fn 195 [] [])) [.t 3, .c (.fn 200 [] [])], pre := [] },
  { dst := some 5, op := .ld none (.t 1), pre := [] },
  { dst := some 6, op := .call .pure (.c (.fn 23 [] [])) [.t 4, .t 5], pre := [] },
  { dst := some 2, op := .mv (.t 6) }])
 .ret)) }
def A_order_Bob_5 : AFun := { res := [.t 1], body := (.seq (.reg false [{ dst := some 1, op := .mv (.c (.nilp)) }])
 (.seq (.reg true [{ dst := some 2, op := .ld (some 8) (.t 0), pre := [] },
  { dst := some 3, op := .call .pure (.c (.fn 195 [] [])) [.t 2, .c (.fn 196 [] [])], pre := [] },
  { dst := some 4, op := .ld (some 8) (.t 0), pre := [] },
  { dst := some 5, op := .call .pure (.c (.fn 41 [] [])) [.t 4], pre := [] },
  { dst := some 6, op := .call .pure (.c (.fn 23 [] [])) [.t 3, .t 5], pre := [] },
  { dst := some 7, op := .ld (some 8) (.t 0), pre := [] },
  { dst := some 8, op := .call .pure (.c (.fn 195 [] [])) [.t 7, .c (.fn 203 [] [])], pre := [] },
  { dst := some 9, op := .call .pure (.c (.fn 23 [] [])) [.t 6, .t 8], pre := [] },
  { dst := some 1, op := .mv (.t 9) }])
 .ret)) }
def A_order_isW : AFun := { res := [.t 2], body := (.seq (.reg false [{ dst := some 1, op := .box (.t 0) },
  { dst := some 2, op := .mv (.c (.b false)) }])
 (.seq (.reg false [{ dst := some 3, op := .fa 1 (.t 1) },
  { dst := some 4, op := .ld none (.t 3) },
  { dst := some 5, op := .bin .eql (.t 4) (.c (.i .i64 2)) },
  { dst := some 2, op := .mv (.t 5) }])
 .ret)) }
def A_order_Ar_1 : AFun := { res := [.t 1], body := (.seq (.reg false [{ dst := some 1, op := .mv (.c (.nilp)) }])
 (.seq (.reg true [{ dst := some 2, op := .ld (some 8) (.t 0), pre := [] },
  { dst := some 3, op := .ld (some 8) (.t 0), pre := [] },
  { dst := some 4, op := .call .pure (.c (.fn 48 [] [])) [.t 3], pre := [] },
  { dst := some 5, op := .call .pure (.c (.fn 40 [] [])) [.t 2, .t 4], pre := [] },
  { dst := some 1, op := .mv (.t 5) }])
 .ret)) }
def A_order_Ar_2 : AFun := { res := [.t 1], body := (.seq (.reg false [{ dst := some 1, op := .mv (.c (.nilp)) }])
 (.seq (.reg false [{ dst := some 2, op := .ld (some 8) (.t 0) },
  { dst := some 3, op := .call .pure (.c (.fn 155 [] [])) [.t 2] },
  { dst := some 1, op := .mv (.t 3) }])
 .ret)) }
def A_order_Ar_3 : AFun := { res := [.t 1], body := (.seq (.reg false [{ dst := some 1, op := .mv (.c (.nilp)) }])
 (.seq (.reg false [{ dst := some 2, op := .ld (some 8) (.t 0) },
  { dst := some 3, op := .call .pure (.c (.fn 207 [] [])) [.t 2] },
  { dst := some 1, op := .mv (.t 3) }])
 .ret)) }
def A_order_Ppo : AFun := { res := [.t 2], body := (.seq (.reg false [{ dst := some 1, op := .box (.t 0) },
  { dst := some 2, op := .mv (.c (.nilp)) }])
 (.seq (.reg true [{ dst := some 4, op := .ld (some 8) (.t 1), pre := [] },
  { dst := some 5, op := .call .pure (.c (.fn 213 [] [])) [.t 4], pre := [] },
  { dst := some 6, op := .ld (some 8) (.t 1), pre := [] },
  { dst := some 7, op := .ld (some 8) (.t 1), pre := [] },
  { dst := some 8, op := .call .pure (.c (.fn 48 [] [])) [.t 7], pre := [] },
  { dst := some 9, op := .call .pure (.c (.fn 39 [] [])) [.t 6, .t 8], pre := [] },
  { dst := some 10, op := .call .pure (.c (.fn 24 [] [])) [.t 5, .t 9], pre := [] },
  { dst := some 11, op := .call .pure (.c (.fn 12 [] [])) [.t 10], pre := [] },
  { dst := some 3, op := .mv (.t 11) }])
 (.seq (.reg true [{ dst := some 12, op := .ld (some 8) (.t 1), pre := [] },
  { dst := some 13, op := .call .pure (.c (.fn 195 [] [])) [.t 12, .c (.fn 240 [] [])], pre := [] },
  { dst := some 14, op := .mv (.t 3) },
  { dst := some 15, op := .call .pure (.c (.fn 23 [] [])) [.t 13, .t 14], pre := [] },
  { dst := some 16, op := .ld (some 8) (.t 1), pre := [] },
  { dst := some 17, op := .call .pure (.c (.fn 195 [] [])) [.t 16, .c (.fn 203 [] [])], pre := [] },
  { dst := some 18, op := .call .pure (.c (.fn 23 [] [])) [.t 15, .t 17], pre := [] },
  { dst := some 2, op := .mv (.t 18) }])
 .ret))) }
def A_order_Ar_4 : AFun := { res := [.t 1], body := (.seq (.reg false [{ dst := some 1, op := .mv (.c (.nilp)) }])
 (.seq (.reg false [{ dst := some 2, op := .ld (some 8) (.t 0) },
  { dst := some 3, op := .call .pure (.c (.fn 209 [] [])) [.t 2] },
  { dst := some 1, op := .mv (.t 3) }])
 .ret)) }
def A_order_Detour : AFun := { res := [.t 2], body := (.seq (.reg false [{ dst := some 1, op := .box (.t 0) },
  { dst := some 2, op := .mv (.c (.nilp)) }])
 (.seq (.reg true [{ dst := some 4, op := .ld (some 8) (.t 1), pre := [] },
  { dst := some 5, op := .ld (some 8) (.t 1), pre := [] },
  { dst := some 6, op := .call .pure (.c (.fn 49 [] [])) [.t 5], pre := [] },
  { dst := some 7, op := .call .pure (.c (.fn 40 [] [])) [.t 4, .t 6], pre := [] },
  { dst := some 8, op := .ld (some 8) (.t 1), pre := [] },
  { dst := some 9, op := .ld (some 8) (.t 1), pre := [] },
  { dst := some 10, op := .call .pure (.c (.fn 48 [] [])) [.t 9], pre := [] },
  { dst := some 11, op := .call .pure (.c (.fn 40 [] [])) [.t 8, .t 10], pre := [] },
  { dst := some 12, op := .call .pure (.c (.fn 23 [] [])) [.t 7, .t 11], pre := [] },
  { dst := some 3, op := .mv (.t 12) }])
 (.seq (.reg false [{ dst := some 13, op := .mv (.t 3) },
  { dst := some 14, op := .ld (some 8) (.t 1) },
  { dst := some 15, op := .call .pure (.c (.fn 60 [] [])) [.t 14] },
  { dst := some 16, op := .call .pure (.c (.fn 18 [] [])) [.t 13, .t 15] },
  { dst := some 2, op := .mv (.t 16) }])
 .ret))) }
def A_order_Ar_5 : AFun := { res := [.t 1], body := (.seq (.reg false [{ dst := some 1, op := .mv (.c (.nilp)) }])
 (.seq (.reg false [{ dst := some 2, op := .ld (some 8) (.t 0) },
  { dst := some 3, op := .call .pure (.c (.fn 211 [] [])) [.t 2] },
  { dst := some 1, op := .mv (.t 3) }])
 .ret)) }
def A_order_Psc : AFun := { res := [.t 2], body := (.seq (.reg false [{ dst := some 1, op := .box (.t 0) },
  { dst := some 2, op := .mv (.c (.nilp)) }])
 (.seq (.reg true [{ dst := some 5, op := .ld (some 8) (.t 1), pre := [] },
  { dst := some 6, op := .call .pure (.c (.fn 195 [] [])) [.t 5, .c (.fn 241 [] [])], pre := [] },
  { dst := some 7, op := .ld (some 8) (.t 1), pre := [] },
  { dst := some 8, op := .call .pure (.c (.fn 148 [] [])) [.t 7], pre := [] },
  { dst := some 3, op := .mv (.t 6) },
  { dst := some 4, op := .mv (.t 8) }])
 (.seq (.reg true [{ dst := some 9, op := .mv (.t 3) },
  { dst := some 10, op := .mv (.t 4) },
  { dst := some 11, op := .call .pure (.c (.fn 23 [] [])) [.t 9, .t 10], pre := [] },
  { dst := some 12, op := .ld (some 8) (.t 1), pre := [] },
  { dst := some 13, op := .call .pure (.c (.fn 42 [] [])) [.t 12], pre := [] },
  { dst := some 14, op := .call .pure (.c (.fn 23 [] [])) [.t 11, .t 13], pre := [] },
  { dst := some 15, op := .mv (.t 4) },
  { dst := some 16, op := .call .pure (.c (.fn 23 [] [])) [.t 14, .t 15], pre := [] },
  { dst := some 17, op := .mv (.t 3) },
  { dst := some 18, op := .call .pure (.c (.fn 23 [] [])) [.t 16, .t 17], pre := [] },
  { dst := some 2, op := .mv (.t 18) }])
 .ret))) }
def A_order_Deps : AFun := { res := [.t 2], body := (.seq (.reg false [{ dst := some 1, op := .boxI (.t 0) },
  { dst := some 2, op := .mv (.c (.nilp)) }])
 (.seq (.reg false [{ dst := some 3, op := .ld (some 8) (.t 1) },
  { dst := some 4, op := .mkfn 242 [] [.t 1] },
  { dst := some 5, op := .mkfn 243 [] [.t 1] },
  { dst := some 6, op := .mkfn 244 [] [.t 1] },
  { dst := some 7, op := .bsl true 3 ([.nilf, .nilf, .nilf]) [(0, 1, .t 4), (1, 1, .t 5), (2, 1, .t 6)] },
  { dst := some 8, op := .call .pure (.c (.fn 193 [] [])) [.t 3, .t 7] },
  { dst := some 2, op := .mv (.t 8) }])
 .ret)) }
def A_order_isR : AFun := { res := [.t 2], body := (.seq (.reg false [{ dst := some 1, op := .box (.t 0) },
  { dst := some 2, op := .mv (.c (.b false)) }])
 (.seq (.reg false [{ dst := some 3, op := .fa 1 (.t 1) },
  { dst := some 4, op := .ld none (.t 3) },
  { dst := some 5, op := .bin .eql (.t 4) (.c (.i .i64 1)) },
  { dst := some 2, op := .mv (.t 5) }])
 .ret)) }
def A_order_isSc : AFun := { res := [.t 2], body := (.seq (.reg false [{ dst := some 1, op := .box (.t 0) },
  { dst := some 2, op := .mv (.c (.b false)) }])
 (.seq (.reg false [{ dst := some 3, op := .ld (some 6) (.t 1) },
  { dst := some 4, op := .call .pure (.c (.fn 200 [] [])) [.t 3] },
  { dst := some 5, op := .mv (.t 4) },
  { dst := some 6, op := .fa 2 (.t 1), grd := some (5, true) },
  { dst := some 7, op := .ld none (.t 6), grd := some (5, true) },
  { dst := some 8, op := .bin .eql (.t 7) (.c (.i .i64 4)), grd := some (5, true) },
  { dst := some 9, op := .pick (.t 5) (.t 8) (.c (.b false)) },
  { dst := some 2, op := .mv (.t 9) }])
 .ret)) }
def A_order_Deps_1 : AFun := { res := [.t 1], body := (.seq (.reg false [{ dst := some 1, op := .mv (.c (.nilp)) }])
 (.seq (.reg false [{ dst := some 2, op := .ld (some 8) (.t 0) },
  { dst := some 3, op := .fa 5 (.t 0) },
  { dst := some 4, op := .ld none (.t 3) },
  { dst := some 5, op := .call .pure (.c (.fn 81 [] [])) [.t 2, .t 4] },
  { dst := some 1, op := .mv (.t 5) }])
 .ret)) }
def A_order_Deps_2 : AFun := { res := [.t 1], body := (.seq (.reg false [{ dst := some 1, op := .mv (.c (.nilp)) }])
 (.seq (.reg false [{ dst := some 2, op := .ld (some 8) (.t 0) },
  { dst := some 3, op := .fa 6 (.t 0) },
  { dst := some 4, op := .ld none (.t 3) },
  { dst := some 5, op := .call .pure (.c (.fn 81 [] [])) [.t 2, .t 4] },
  { dst := some 1, op := .mv (.t 5) }])
 .ret)) }
def A_order_Deps_3 : AFun := { res := [.t 1], body := (.seq (.reg false [{ dst := some 1, op := .mv (.c (.nilp)) }])
 (.seq (.reg true [{ dst := some 2, op := .ld (some 8) (.t 0), pre := [] },
  { dst := some 3, op := .call .pure (.c (.fn 195 [] [])) [.t 2, .c (.fn 245 [] [])], pre := [] },
  { dst := some 4, op := .ld (some 8) (.t 0), pre := [] },
  { dst := some 5, op := .call .pure (.c (.fn 60 [] [])) [.t 4], pre := [] },
  { dst := some 6, op := .call .pure (.c (.fn 23 [] [])) [.t 3, .t 5], pre := [] },
  { dst := some 1, op := .mv (.t 6) }])
 .ret)) }
def A_order_isEx : AFun := { res := [.t 2], body := (.seq (.reg false [{ dst := some 1, op := .box (.t 0) },
  { dst := some 2, op := .mv (.c (.b false)) }])
 (.seq (.reg false [{ dst := some 3, op := .ld (some 6) (.t 1) },
  { dst := some 4, op := .call .pure (.c (.fn 240 [] [])) [.t 3] },
  { dst := some 5, op := .mv (.t 4) },
  { dst := some 6, op := .fa 5 (.t 1), grd := some (5, true) },
  { dst := some 7, op := .ld none (.t 6), grd := some (5, true) },
  { dst := some 8, op := .pick (.t 5) (.t 7) (.c (.b false)) },
  { dst := some 2, op := .mv (.t 8) }])
 .ret)) }
structure Pk_order (F : Funs) : Prop where
  order_Bob : F 155 = some A_order_Bob
  order_Ar : F 156 = some A_order_Ar
  order_all : F 193 = some A_order_all
  order_Bob_1 : F 194 = some A_order_Bob_1
  order_set : F 195 = some A_order_set
  order_isRel : F 196 = some A_order_isRel
  order_Bob_2 : F 197 = some A_order_Bob_2
  order_isAcq : F 198 = some A_order_isAcq
  order_Bob_3 : F 199 = some A_order_Bob_3
  order_isF : F 200 = some A_order_isF
  order_Bob_4 : F 201 = some A_order_Bob_4
  order_Bob_5 : F 202 = some A_order_Bob_5
  order_isW : F 203 = some A_order_isW
  order_Ar_1 : F 204 = some A_order_Ar_1
  order_Ar_2 : F 205 = some A_order_Ar_2
  order_Ar_3 : F 206 = some A_order_Ar_3
  order_Ppo : F 207 = some A_order_Ppo
  order_Ar_4 : F 208 = some A_order_Ar_4
  order_Detour : F 209 = some A_order_Detour
  order_Ar_5 : F 210 = some A_order_Ar_5
  order_Psc : F 211 = some A_order_Psc
  order_Deps : F 213 = some A_order_Deps
  order_isR : F 240 = some A_order_isR
  order_isSc : F 241 = some A_order_isSc
  order_Deps_1 : F 242 = some A_order_Deps_1
  order_Deps_2 : F 243 = some A_order_Deps_2
  order_Deps_3 : F 244 = some A_order_Deps_3
  order_isEx : F 245 = some A_order_isEx
end Go.Ab
end
