/- Regions in any order: two operations that do not meet change places, so each order answers as the text's. -/
import Derived.Test.YtfhinaopoffcnaaAbRun
import Derived.Test.YtfhinaopoffcnaaAbFoot
set_option linter.unusedVariables false
set_option linter.unusedSimpArgs false
namespace Go.Ab
open Go.RowKit

def gnames : Option (Nat × Bool) → List Nat
  | none => []
  | some (t, _) => [t]
def AOper.looks (o : AOper) : List Nat := gnames o.grd ++ o.op.names
def dnot (d : Option Nat) (l : List Nat) : Bool := match d with
  | none => true
  | some d => !l.contains d
def ddif (d d' : Option Nat) : Bool := match d, d' with
  | some a, some b => a != b
  | _, _ => true
def clsOk (k i : Nat) (x y : AOper) : Bool :=
  cls x.op == .p || cls y.op == .p || (cls x.op != .x && cls y.op != .x &&
   (!y.pre.contains k && !x.pre.contains i && (!(cls x.op == .s || cls y.op == .s) || x.pre.all (fun p => !y.pre.contains p)) && !(cls x.op == .t && cls y.op == .t)))
def swapB (k i : Nat) (x y : AOper) : Bool :=
  dnot x.dst y.looks && dnot y.dst x.looks && ddif x.dst y.dst && clsOk k i x y

theorem put_not {d : Option Nat} {l : List Nat} (h : dnot d l = true) (e : Env) (v : AV) : ∀ t ∈ l, put e d v t = e t := by
  intro t ht
  cases d with
  | none => rfl
  | some d =>
    simp only [dnot, Bool.not_eq_true', List.contains_eq_mem, decide_eq_false_iff_not] at h
    have : t ≠ d := fun h' => h (h' ▸ ht)
    simp only [put, upd, if_neg this]
theorem put_comm {d d' : Option Nat} (h : ddif d d' = true) (e : Env) (v u : AV) : put (put e d v) d' u = put (put e d' u) d v := by
  cases d with
  | none => cases d' <;> rfl
  | some d =>
    cases d' with
    | none => rfl
    | some d' =>
      simp only [ddif, bne_iff_ne, ne_eq] at h
      funext t
      simp only [put, upd]
      by_cases h1 : t = d'
      · subst h1; rw [if_pos rfl, if_neg (fun h2 => h h2.symm), if_pos rfl]
      · rw [if_neg h1]
        by_cases h2 : t = d
        · rw [if_pos h2, if_pos h2]
        · rw [if_neg h2, if_neg h2, if_neg h1]
theorem wanted_congr {e e' : Env} {grd : Option (Nat × Bool)} (h : ∀ t ∈ gnames grd, e' t = e t) : wanted e' grd = wanted e grd := by
  cases grd with
  | none => rfl
  | some p => obtain ⟨t, w⟩ := p; simp only [wanted]; rw [h t (by simp [gnames])]

def stepV (call : CS) (base j : Nat) (o : AOper) (e : Env) (g : G) : Option (AV × G) :=
  if wanted e o.grd then opE call (allow true base o.pre) base (base + j) o.op e g else some (.undef, g)
theorem opStep_V (call : CS) (base j : Nat) (o : AOper) (e : Env) (g : G) : opStep call true base j o e g = (stepV call base j o e g).map fun r => (put e o.dst r.1, r.2) := by
  unfold opStep stepV
  by_cases h : wanted e o.grd = true
  · rw [if_pos h, if_pos h]
    cases opE call (allow true base o.pre) base (base + j) o.op e g with
    | none => rfl
    | some r => rfl
  · rw [if_neg h, if_neg h]; rfl
theorem stepV_congr {call : CS} {base j : Nat} {o : AOper} {e e' : Env} (h : ∀ t ∈ o.looks, e' t = e t) (g : G) : stepV call base j o e' g = stepV call base j o e g := by
  unfold stepV
  rw [wanted_congr fun t ht => h t (List.mem_append_left _ ht), opE_congr fun t ht => h t (List.mem_append_right _ ht)]

theorem allow_slot {base k : Nat} {pre : List Nat} (h : allow true base pre (base + k) = true) : pre.contains k = true := by
  simp only [allow, Bool.not_true, Bool.false_or, Bool.or_eq_true, decide_eq_true_eq] at h
  rcases h with h | h
  · omega
  · simpa using h
theorem allow_ge {base k : Nat} {pre : List Nat} (h : allow true base pre k = true) (hk : base ≤ k) : pre.contains (k - base) = true := by
  simp only [allow, Bool.not_true, Bool.false_or, Bool.or_eq_true, decide_eq_true_eq] at h
  rcases h with h | h
  · omega
  · exact h

theorem Foot.out {call : CS} {al : Nat → Bool} {lo id : Nat} {op : AOp} {e : Env} {g : G} {v : AV} {g1 : G} (F : Foot call al lo id op e g v g1) {i : Nat} (h : ¬ Wr (cls op) al lo id g i) : g1.hp i = g.hp i := by
  obtain ⟨_, _, W, h1, h2, _⟩ := F
  exact h2 i fun hw => h (h1 i hw)

open Classical in
theorem opE_swap {call : CS} {base k i : Nat} (hki : k ≠ i) {x y : AOper} (hc : clsOk k i x y = true) {e : Env} {g g1 g2 : G} {v u : AV}
    (h1 : opE call (allow true base x.pre) base (base + k) x.op e g = some (v, g1)) (h2 : opE call (allow true base y.pre) base (base + i) y.op e g1 = some (u, g2)) :
    ∃ g1', opE call (allow true base y.pre) base (base + i) y.op e g = some (u, g1') ∧ opE call (allow true base x.pre) base (base + k) x.op e g1' = some (v, g2) := by
  by_cases hx : cls x.op = .p
  · obtain ⟨rfl, hh⟩ := any_p hx _ _ _ h1
    exact ⟨g2, h2, hh g2⟩
  by_cases hy : cls y.op = .p
  · obtain ⟨rfl, hh⟩ := any_p hy _ _ _ h2
    exact ⟨g, hh g, h1⟩
  simp only [clsOk, Bool.or_eq_true, beq_iff_eq, hx, hy, false_or, Bool.and_eq_true, bne_iff_ne, ne_eq, Bool.not_eq_true'] at hc
  obtain ⟨⟨cx, cy⟩, ⟨⟨pk, pi⟩, ps⟩, ptt⟩ := hc
  have ak : allow true base y.pre (base + k) ≠ true := fun h => by rw [allow_slot h] at pk; cases pk
  have ai : allow true base x.pre (base + i) ≠ true := fun h => by rw [allow_slot h] at pi; cases pi
  have pp : (cls x.op = .s ∨ cls y.op = .s) → ∀ m, base ≤ m → allow true base x.pre m = true → allow true base y.pre m = true → False := by
    intro hs m hm h3 h4
    rcases ps with ps | ps
    · simp only [Bool.or_eq_false_iff, beq_eq_false_iff_ne, ne_eq] at ps
      rcases hs with hs | hs
      · exact ps.1 hs
      · exact ps.2 hs
    · have h3 := allow_ge h3 hm
      have h4 := allow_ge h4 hm
      have := List.all_eq_true.1 ps (m - base) (by simpa using h3)
      rw [h4] at this; cases this
  have tt : ¬ (cls x.op = .t ∧ cls y.op = .t) := by simpa [Bool.and_eq_false_iff] using ptt
  have F := foot_all cx h1
  have F' := foot_all cy h2
  have out1 : ∀ m, ¬ Wr (cls x.op) (allow true base x.pre) base (base + k) g m → g1.hp m = g.hp m := fun m hm => F.out hm
  -- what y looks at, x has not turned
  have A : ∀ m, Rd (cls y.op) (allow true base y.pre) base g1 m → ¬ Wr (cls x.op) (allow true base x.pre) base (base + k) g m := by
    intro m hr hw
    have hal : allow true base y.pre m = true := by
      cases hcy : cls y.op <;> rw [hcy] at hr <;> simp only [Rd] at hr
      · exact hr.1
      · exact hr.1
      · exact hr.1
      · exact hr.2.1
      · exact absurd hcy cy
    have hne : m ≠ base + k := fun h => ak (h ▸ hal)
    cases hcx : cls x.op with
    | p => exact hx hcx
    | r => rw [hcx] at hw; exact hw
    | a => rw [hcx] at hw; exact hne hw
    | t =>
      rw [hcx] at hw
      rcases hw with hw | hw
      · exact hne hw
      · have hcm : CM (g1.hp m) := by
          cases hcy : cls y.op <;> rw [hcy] at hr <;> simp only [Rd] at hr
          · exact hr.2
          · exact hr.2
          · exact absurd ⟨hcx, hcy⟩ tt
          · exact hr.2.2
          · exact absurd hcy cy
        have := F.kind m hne hcm
        have h3 := hw.2
        cases hh : g.hp m with
        | none => rw [hh] at h3; exact h3
        | some b => rw [hh] at h3 this; cases b <;> first | exact h3 | exact this
    | s =>
      rw [hcx] at hw
      exact pp (.inl hcx) m hw.1 hw.2.1 hal
    | x => exact cx hcx
  have B : ∀ m, Wr (cls y.op) (allow true base y.pre) base (base + i) g1 m → ¬ Wr (cls x.op) (allow true base x.pre) base (base + k) g m := by
    intro m hr hw
    have hor : m = base + i ∨ Rd (cls y.op) (allow true base y.pre) base g1 m := by
      cases hcy : cls y.op <;> rw [hcy] at hr <;> simp only [Wr] at hr
      · exact .inl hr
      · rcases hr with hr | hr
        · exact .inl hr
        · exact .inr ⟨hr.1, .inr hr.2⟩
      · exact .inr hr
      · exact absurd hcy cy
    rcases hor with rfl | hr
    · cases hcx : cls x.op with
      | p => exact hx hcx
      | r => rw [hcx] at hw; exact hw
      | a => rw [hcx] at hw; simp only [Wr] at hw; omega
      | t =>
        rw [hcx] at hw
        rcases hw with hw | hw
        · omega
        · exact ai hw.1
      | s => rw [hcx] at hw; exact ai hw.2.1
      | x => exact cx hcx
    · exact A m hr hw
  have C : ∀ m, Rd (cls x.op) (allow true base x.pre) base g m → ¬ Wr (cls y.op) (allow true base y.pre) base (base + i) g1 m := by
    intro m hr hw
    have hal : allow true base x.pre m = true := by
      cases hcx : cls x.op <;> rw [hcx] at hr <;> simp only [Rd] at hr
      · exact hr.1
      · exact hr.1
      · exact hr.1
      · exact hr.2.1
      · exact absurd hcx cx
    have hne : m ≠ base + i := fun h => ai (h ▸ hal)
    have hold : g1.hp m = g.hp m := out1 m (B m hw)
    cases hcy : cls y.op with
    | p => exact hy hcy
    | r => rw [hcy] at hw; exact hw
    | a => rw [hcy] at hw; exact hne hw
    | t =>
      rw [hcy] at hw
      rcases hw with hw | hw
      · exact hne hw
      · have h3 := hw.2
        rw [hold] at h3
        have hcm : CM (g.hp m) := by
          cases hcx : cls x.op <;> rw [hcx] at hr <;> simp only [Rd] at hr
          · exact hr.2
          · exact hr.2
          · exact absurd ⟨hcx, hcy⟩ tt
          · exact hr.2.2
          · exact absurd hcx cx
        cases hh : g.hp m with
        | none => rw [hh] at h3; exact h3
        | some b => rw [hh] at h3 hcm; cases b <;> first | exact h3 | exact hcm
    | s =>
      rw [hcy] at hw
      exact pp (.inr hcy) m hw.1 hal hw.2.1
    | x => exact cy hcy
  obtain ⟨n1, _, W, w1, w2, w3⟩ := F
  obtain ⟨n2, _, W', w1', w2', w3'⟩ := F'
  have hAg : ∀ m, Rd (cls y.op) (allow true base y.pre) base g1 m → g.hp m = g1.hp m := fun m hm => (out1 m (A m hm)).symm
  refine ⟨_, w3' g hAg, ?_⟩
  rw [w3 _ (fun m hm => ?_)]
  · congr 2
    have : g2 = ⟨g2.hp, g2.nx⟩ := rfl
    rw [this]
    congr 1
    · funext m
      show (if W m then g1.hp m else if W' m then g2.hp m else g.hp m) = g2.hp m
      by_cases hm : W m
      · rw [if_pos hm]
        exact (w2' m (fun h' => B m (w1' m h') (w1 m hm))).symm
      · rw [if_neg hm]
        by_cases hm' : W' m
        · rw [if_pos hm']
        · rw [if_neg hm', w2' m hm', w2 m hm]
    · show g.nx = g2.nx
      rw [n2, n1]
  · show (if W' m then g2.hp m else g.hp m) = g.hp m
    rw [if_neg (fun h' => C m hm (w1' m h'))]

theorem stepV_swap {call : CS} {base k i : Nat} (hki : k ≠ i) {x y : AOper} (hc : clsOk k i x y = true) {e : Env} {g g1 g2 : G} {v u : AV}
    (h1 : stepV call base k x e g = some (v, g1)) (h2 : stepV call base i y e g1 = some (u, g2)) : ∃ g1', stepV call base i y e g = some (u, g1') ∧ stepV call base k x e g1' = some (v, g2) := by
  unfold stepV at *
  by_cases hx : wanted e x.grd = true
  · rw [if_pos hx] at h1
    by_cases hy : wanted e y.grd = true
    · rw [if_pos hy] at h2
      obtain ⟨g1', h3, h4⟩ := opE_swap hki hc h1 h2
      exact ⟨g1', by rw [if_pos hy]; exact h3, by rw [if_pos hx]; exact h4⟩
    · rw [if_neg hy] at h2
      cases h2
      exact ⟨g, by rw [if_neg hy], by rw [if_pos hx]; exact h1⟩
  · rw [if_neg hx] at h1
    cases h1
    exact ⟨g2, h2, by rw [if_neg hx]⟩

theorem opStep_swap {call : CS} {base k i : Nat} (hki : k ≠ i) {x y : AOper} (hc : swapB k i x y = true) {e e1 e2 : Env} {g g1 g2 : G}
    (h1 : opStep call true base k x e g = some (e1, g1)) (h2 : opStep call true base i y e1 g1 = some (e2, g2)) :
    ∃ e1' g1', opStep call true base i y e g = some (e1', g1') ∧ opStep call true base k x e1' g1' = some (e2, g2) := by
  simp only [swapB, Bool.and_eq_true] at hc
  obtain ⟨⟨⟨d1, d2⟩, d3⟩, d4⟩ := hc
  rw [opStep_V] at h1 h2
  cases hv : stepV call base k x e g with
  | none => rw [hv] at h1; cases h1
  | some r =>
    obtain ⟨v, g1⟩ := r
    rw [hv] at h1
    cases h1
    rw [stepV_congr (put_not d1 e v)] at h2
    cases hu : stepV call base i y e g1 with
    | none => rw [hu] at h2; cases h2
    | some r =>
      obtain ⟨u, g2⟩ := r
      rw [hu] at h2
      cases h2
      obtain ⟨g1', h3, h4⟩ := stepV_swap hki d4 hv hu
      refine ⟨put e y.dst u, g1', by rw [opStep_V, h3]; rfl, ?_⟩
      rw [opStep_V, stepV_congr (put_not d2 e u), h4]
      show some _ = some _
      rw [put_comm d3]

/-! ### rows of operations in an order of their own -/
def runL (call : CS) (base : Nat) (aos : List AOper) : List Nat → Env → G → Option (Env × G)
  | [], e, g => some (e, g)
  | i :: is, e, g => match aos[i]? with
    | some o => match opStep call true base i o e g with
      | some (e', g') => runL call base aos is e' g'
      | none => none
    | none => none
theorem runL_text (call : CS) (base : Nat) (aos : List AOper) : ∀ (os : List AOper) (j : Nat) (e : Env) (g : G), (∀ i o, os[i]? = some o → aos[j + i]? = some o) → runL call base aos (List.range' j os.length) e g = regE call true base j os e g
  | [], j, e, g, _ => rfl
  | o :: os, j, e, g, h => by
    rw [regE_step, List.length_cons, List.range'_succ]
    have h0 : aos[j]? = some o := by simpa using h 0 o rfl
    simp only [runL, h0]
    cases opStep call true base j o e g with
    | none => rfl
    | some r =>
      obtain ⟨e', g'⟩ := r
      exact runL_text call base aos os (j + 1) e' g' (fun i o' hi => by have := h (i + 1) o' (by simpa using hi); rwa [show j + (i + 1) = j + 1 + i by omega] at this)

/-- One may be taken ahead of all those before it that it may change places with. -/
theorem runL_front {call : CS} {base : Nat} {aos : List AOper} {i : Nat} {y : AOper} (hy : aos[i]? = some y) : ∀ (pre post : List Nat) (e e' : Env) (g g' : G), (∀ k ∈ pre, k ≠ i ∧ ∀ x, aos[k]? = some x → swapB k i x y = true) →
    runL call base aos (pre ++ i :: post) e g = some (e', g') → runL call base aos (i :: (pre ++ post)) e g = some (e', g')
  | [], post, e, e', g, g', _, h => h
  | k :: pre, post, e, e', g, g', hp, h => by
    rw [List.cons_append] at h
    simp only [runL] at h
    split at h
    · rename_i x hx
      split at h
      · rename_i e1 g1 hst
        have := runL_front hy pre post e1 e' g1 g' (fun m hm => hp m (List.mem_cons_of_mem _ hm)) h
        simp only [runL, hy] at this
        split at this
        · rename_i e2 g2 hst2
          obtain ⟨hne, hsw⟩ := hp k (List.mem_cons_self ..)
          obtain ⟨e1', g1', h3, h4⟩ := opStep_swap hne (hsw x hx) hst hst2
          simp only [runL, hy, h3, List.cons_append, hx, h4]
          exact this
        · cases this
      · cases h
    · cases h

/-! ### what must stand before what -/
/-- 'clo' names for each operation those before it in every order, as bits. -/
def cloAt (es : Array Edge) (clo : List Nat) : Nat :=
  es.foldl (fun b e => if Region.binds .any e then b ||| (1 <<< e.on) ||| (clo.getD e.on 0) else b) 0
def clos : List Oper → List Nat → List Nat
  | [], clo => clo
  | o :: os, clo => clos os (clo ++ [cloAt o.after clo])
def edgesB : Nat → List Oper → Bool
  | _, [] => true
  | j, o :: os => o.after.all (fun e => !Region.binds .any e || decide (e.on < j)) && edgesB (j + 1) os
/-- Each pair may change places, or stands fast. -/
def pairsB (clo : Nat) (i : Nat) (y : AOper) : Nat → List AOper → Bool
  | _, [] => true
  | k, x :: xs => (clo.testBit k || swapB k i x y) && pairsB clo i y (k + 1) xs
def drawB (aos : List AOper) : Nat → List AOper → List Nat → Bool
  | _, [], _ => true
  | i, y :: ys, clo :: cs => pairsB clo i y 0 (aos.take i) && drawB aos (i + 1) ys cs
  | _, _ :: _, [] => false
end Go.Ab
