/- The abstract machine, its adequacy, what functions compute; lemmas, no claim of its own. -/
import Derived.LoopN
import Derived.Scope
import Derived.OpenShut
import Derived.ChangeArms
import Derived.Laws.Rows
import Derived.Test.YtkiecemdbkjccaaGreatGA
section
/- More fuel gives the same answer; the limit of the evaluator and its equations. -/
namespace Go.Ab

/-- Whatever the first answers the second answers. -/
def CLe (c d : CS) : Prop := ∀ f asx g r, c f asx g = some r → d f asx g = some r

theorem opE_mono {c d : CS} (h : CLe c d) {al : Nat → Bool} {lo id : Nat} {op : AOp} {e : Env} {g : G} {r : AV × G} (hr : opE c al lo id op e g = some r) : opE d al lo id op e g = some r := by
  cases op with
  | call m f args =>
    simp only [opE, vCall] at hr ⊢
    split at hr
    · cases m with
      | raw => exact h _ _ _ _ hr
      | pure =>
        simp only at hr ⊢
        split at hr
        · cases hr
        · split at hr
          · cases hr
          · rename_i hc
            rw [h _ _ _ _ hc]
            exact hr
      | lock =>
        simp only at hr ⊢
        split at hr
        · cases hr
        · split at hr
          · cases hr
          · rename_i hc
            rw [h _ _ _ _ hc]
            exact hr
      | thaw =>
        simp only at hr ⊢
        split at hr
        · cases hr
        · split at hr
          · rename_i hc
            rw [h _ _ _ _ hc]
            exact hr
          · cases hr
    · cases hr
  | _ => exact hr

theorem regE_mono {c d : CS} (h : CLe c d) {draw : Bool} {base : Nat} : ∀ {os : List AOper} {j : Nat} {e : Env} {g : G} {r}, regE c draw base j os e g = some r → regE d draw base j os e g = some r
  | [], _, _, _, _, hr => hr
  | o :: os, j, e, g, r, hr => by
    simp only [regE] at hr ⊢
    split
    · rename_i hw
      simp only [hw, if_true] at hr
      split at hr
      · rename_i ho
        rw [opE_mono h ho]
        exact regE_mono h hr
      · cases hr
    · rename_i hw
      simp only [hw, Bool.false_eq_true, if_false] at hr
      exact regE_mono h hr

theorem iter_mono {f f' : Env → G → Option (Out × Env × G)} (h : ∀ e g r, f e g = some r → f' e g = some r) : ∀ {k k' : Nat} {e g r}, k ≤ k' → iter f k e g = some r → iter f' k' e g = some r
  | 0, _, _, _, _, _, hr => by simp [iter] at hr
  | k + 1, k', e, g, r, hk, hr => by
    obtain ⟨k', rfl⟩ : ∃ j, k' = j + 1 := ⟨k' - 1, by omega⟩
    simp only [iter] at hr ⊢
    split at hr
    · rename_i hf
      rw [h _ _ _ hf]
      exact iter_mono h (by omega) hr
    · rename_i hn
      cases hf : f e g with
      | none => rw [hf] at hr; cases hr
      | some q =>
        rw [hf] at hr
        obtain rfl : q = r := Option.some.inj hr
        obtain ⟨o, e', g'⟩ := q
        cases o with
        | nrm => exact absurd hf (hn _ _)
        | ext n => rw [h _ _ _ hf]
        | ret => rw [h _ _ _ hf]

theorem codeE_mono {c d : CS} (h : CLe c d) {k k' : Nat} (hk : k ≤ k') : ∀ {x : ACode} {e : Env} {g : G} {r}, codeE c k x e g = some r → codeE d k' x e g = some r := by
  intro x
  induction x with
  | skip => intro e g r hr; exact hr
  | reg draw ops =>
    intro e g r hr
    simp only [codeE] at hr ⊢
    split at hr
    · rename_i ho
      rw [regE_mono h ho]
      exact hr
    · cases hr
  | seq a b iha ihb =>
    intro e g r hr
    simp only [codeE] at hr ⊢
    split at hr
    · rename_i ho
      rw [iha ho]
      exact ihb hr
    · rename_i hn
      cases hf : codeE c k a e g with
      | none => rw [hf] at hr; cases hr
      | some q =>
        rw [hf] at hr
        obtain rfl : q = r := Option.some.inj hr
        obtain ⟨o, e', g'⟩ := q
        cases o with
        | nrm => exact absurd hf (hn _ _)
        | ext n => rw [iha hf]
        | ret => rw [iha hf]
  | cond cc t f iht ihf =>
    intro e g r hr
    simp only [codeE] at hr ⊢
    split at hr
    · split
      · rename_i hx
        simp only [hx, if_true] at hr
        exact iht hr
      · rename_i hx
        simp only [hx, Bool.false_eq_true, if_false] at hr
        exact ihf hr
    · cases hr
  | lck t cc ih =>
    intro e g r hr
    simp only [codeE] at hr ⊢
    exact ih hr
  | imm t cc ih =>
    intro e g r hr
    simp only [codeE] at hr ⊢
    cases hf : frz g.hp depth (e t) with
    | none => rw [hf] at hr; cases hr
    | some v => rw [hf] at hr; exact ih hr
  | scp cc ih =>
    intro e g r hr
    simp only [codeE] at hr ⊢
    exact ih hr
  | lab =>
    intro e g r hr
    simp only [codeE] at hr ⊢
    exact hr
  | blk id cc ih =>
    intro e g r hr
    simp only [codeE] at hr ⊢
    split at hr
    · rename_i hf
      rw [ih hf]
      exact hr
    · rename_i hn
      cases hf : codeE c k cc e g with
      | none => rw [hf] at hr; cases hr
      | some q =>
        rw [hf] at hr
        obtain rfl : q = r := Option.some.inj hr
        obtain ⟨o, e', g'⟩ := q
        cases o with
        | nrm => rw [ih hf]
        | ext n => exact absurd hf (hn _ _ _)
        | ret => rw [ih hf]
  | loop cc ih =>
    intro e g r hr
    simp only [codeE] at hr ⊢
    exact iter_mono (fun _ _ _ => ih) hk hr
  | ext id => intro e g r hr; exact hr
  | ret => intro e g r hr; exact hr

theorem callE_mono (F : Funs) : ∀ {k k' : Nat}, k ≤ k' → CLe (callE F k) (callE F k')
  | 0, _, _, _, _, _, _, hr => by simp [callE] at hr
  | k + 1, k', hk, f, asx, g, r, hr => by
    obtain ⟨k', rfl⟩ : ∃ j, k' = j + 1 := ⟨k' - 1, by omega⟩
    simp only [callE] at hr ⊢
    split at hr
    · cases hr
    · rename_i fn hF
      have hm := fun {x} => codeE_mono (callE_mono F (show k ≤ k' by omega)) (show k ≤ k' by omega) (x := fn.body) (e := argEnv asx) (g := g) (r := x)
      split at hr
      · rename_i hc
        rw [hm hc]
        exact hr
      · rename_i hc
        rw [hm hc]
        exact hr
      · cases hr

/-! ### the limit -/
open Classical in
/-- The answer that comes with fuel enough. -/
noncomputable def lim {α : Type} (f : Nat → Option α) : Option α :=
  if h : ∃ r k, f k = some r then some (Classical.choose h) else none
theorem lim_some {α : Type} {f : Nat → Option α} (hm : ∀ k k' r, k ≤ k' → f k = some r → f k' = some r) {r : α} : lim f = some r ↔ ∃ k, f k = some r := by
  unfold lim
  constructor
  · intro h
    split at h
    · rename_i hx
      have := Classical.choose_spec hx
      rwa [Option.some.inj h] at this
    · cases h
  · rintro ⟨k, hk⟩
    rw [dif_pos ⟨r, k, hk⟩]
    obtain ⟨k', hk'⟩ := Classical.choose_spec (⟨r, k, hk⟩ : ∃ r k, f k = some r)
    have h1 := hm k (max k k') _ (by omega) hk
    have h2 := hm k' (max k k') _ (by omega) hk'
    rw [h1] at h2
    exact congrArg some (Option.some.inj h2).symm
theorem lim_ext {α : Type} {a b : Option α} (h : ∀ r, a = some r ↔ b = some r) : a = b := by
  cases a with
  | none =>
    cases b with
    | none => rfl
    | some r => exact (((h r).2 rfl).symm ▸ rfl : none = some r)
  | some r => exact ((h r).1 rfl).symm

variable (F : Funs)
noncomputable def callS : CS := fun f asx g => lim fun k => callE F k f asx g
noncomputable def regS (draw : Bool) (base j : Nat) (os : List AOper) (e : Env) (g : G) : Option (Env × G) := regE (callS F) draw base j os e g
noncomputable def codeS (x : ACode) (e : Env) (g : G) : Option (Out × Env × G) := lim fun k => codeE (callE F k) k x e g

theorem callS_some {f asx g r} : callS F f asx g = some r ↔ ∃ k, callE F k f asx g = some r :=
  lim_some fun _ _ _ hk h => callE_mono F hk _ _ _ _ h
theorem codeS_some {x e g r} : codeS F x e g = some r ↔ ∃ k, codeE (callE F k) k x e g = some r :=
  lim_some fun _ _ _ hk h => codeE_mono (callE_mono F hk) hk h
theorem callE_le (k : Nat) : CLe (callE F k) (callS F) := fun _ _ _ _ h => (callS_some F).2 ⟨k, h⟩

theorem opE_lim {al lo id op e g r} : opE (callS F) al lo id op e g = some r ↔ ∃ k, opE (callE F k) al lo id op e g = some r := by
  refine ⟨fun h => ?_, fun ⟨k, h⟩ => opE_mono (callE_le F k) h⟩
  cases op with
  | call m f args =>
    simp only [opE, vCall] at h ⊢
    split at h
    · cases m with
      | raw => exact (callS_some F).1 h
      | pure =>
        simp only at h ⊢
        split at h
        · cases h
        · split at h
          · cases h
          · rename_i hc
            obtain ⟨k, hk⟩ := (callS_some F).1 hc
            exact ⟨k, by rw [hk]; exact h⟩
      | lock =>
        simp only at h ⊢
        split at h
        · cases h
        · split at h
          · cases h
          · rename_i hc
            obtain ⟨k, hk⟩ := (callS_some F).1 hc
            exact ⟨k, by rw [hk]; exact h⟩
      | thaw =>
        simp only at h ⊢
        split at h
        · cases h
        · split at h
          · rename_i hc
            obtain ⟨k, hk⟩ := (callS_some F).1 hc
            exact ⟨k, by rw [hk]; exact h⟩
          · cases h
    · cases h
  | _ => exact ⟨0, h⟩

theorem regE_lim {draw base} : ∀ {os : List AOper} {j e g r}, regE (callS F) draw base j os e g = some r ↔ ∃ k, regE (callE F k) draw base j os e g = some r
  | [], _, _, _, _ => ⟨fun h => ⟨0, h⟩, fun ⟨_, h⟩ => h⟩
  | o :: os, j, e, g, r => by
    refine ⟨fun h => ?_, fun ⟨k, h⟩ => regE_mono (callE_le F k) h⟩
    simp only [regE] at h
    split at h
    · rename_i hw
      split at h
      · rename_i ho
        obtain ⟨k1, h1⟩ := (opE_lim F).1 ho
        obtain ⟨k2, h2⟩ := (regE_lim).1 h
        refine ⟨max k1 k2, ?_⟩
        simp only [regE]
        rw [if_pos hw, opE_mono (callE_mono F (Nat.le_max_left k1 k2)) h1]
        exact regE_mono (callE_mono F (Nat.le_max_right k1 k2)) h2
      · cases h
    · rename_i hw
      obtain ⟨k2, h2⟩ := (regE_lim).1 h
      refine ⟨k2, ?_⟩
      simp only [regE]
      rw [if_neg hw]
      exact h2

theorem codeS_skip (e g) : codeS F .skip e g = some (.nrm, e, g) := (codeS_some F).2 ⟨0, rfl⟩
theorem codeS_ext (id e g) : codeS F (.ext id) e g = some (.ext id, e, g) := (codeS_some F).2 ⟨0, rfl⟩
theorem codeS_ret (e g) : codeS F .ret e g = some (.ret, e, g) := (codeS_some F).2 ⟨0, rfl⟩
theorem codeS_reg (draw ops e g) : codeS F (.reg draw ops) e g = match regE (callS F) draw g.nx 0 ops e { g with nx := g.nx + ops.length } with
    | some (e, g) => some (.nrm, e, g)
    | none => none := by
  refine lim_ext fun r => ?_
  rw [codeS_some]
  constructor
  · rintro ⟨k, h⟩
    simp only [codeE] at h
    split at h
    · rename_i ho
      rw [(regE_lim F).2 ⟨k, ho⟩]
      exact h
    · cases h
  · intro h
    split at h
    · rename_i ho
      obtain ⟨k, hk⟩ := (regE_lim F).1 ho
      exact ⟨k, by simp only [codeE]; rw [hk]; exact h⟩
    · cases h
theorem codeS_seq (a b e g) : codeS F (.seq a b) e g = match codeS F a e g with
    | some (.nrm, e, g) => codeS F b e g
    | r => r := by
  refine lim_ext fun r => ?_
  rw [codeS_some]
  constructor
  · rintro ⟨k, h⟩
    simp only [codeE] at h
    split at h
    · rename_i ho
      rw [(codeS_some F).2 ⟨k, ho⟩]
      exact (codeS_some F).2 ⟨k, h⟩
    · rename_i hn
      rw [(codeS_some F).2 ⟨k, h⟩]
      obtain ⟨o, e', g'⟩ := r
      cases o with
      | nrm => exact absurd h (hn _ _)
      | ext n => rfl
      | ret => rfl
  · intro h
    split at h
    · rename_i ho
      obtain ⟨k1, h1⟩ := (codeS_some F).1 ho
      obtain ⟨k2, h2⟩ := (codeS_some F).1 h
      refine ⟨max k1 k2, ?_⟩
      simp only [codeE]
      rw [codeE_mono (callE_mono F (Nat.le_max_left k1 k2)) (Nat.le_max_left k1 k2) h1]
      exact codeE_mono (callE_mono F (Nat.le_max_right k1 k2)) (Nat.le_max_right k1 k2) h2
    · rename_i hn
      obtain ⟨k1, h1⟩ := (codeS_some F).1 h
      refine ⟨k1, ?_⟩
      simp only [codeE]
      rw [h1]
      obtain ⟨o, e', g'⟩ := r
      cases o with
      | nrm => exact absurd h (hn _ _)
      | ext n => rfl
      | ret => rfl
theorem codeS_cond (c t f e g) : codeS F (.cond c t f) e g = match c.ev e with
    | .b x => if x then codeS F t e g else codeS F f e g
    | _ => none := by
  refine lim_ext fun r => ?_
  rw [codeS_some]
  simp only [codeE]
  cases c.ev e with
  | b x =>
    cases x with
    | true => simp only [if_true]; exact (codeS_some F).symm
    | false => simp only [Bool.false_eq_true, if_false]; exact (codeS_some F).symm
  | _ => simp
theorem codeS_lck (t c e g) : codeS F (.lck t c) e g = codeS F c e ⟨lock g.hp (vis g.hp depth (e t)), g.nx⟩ := by
  refine lim_ext fun r => ?_
  rw [codeS_some]
  simp only [codeE]
  exact (codeS_some F).symm
theorem codeS_imm (t c e g) : codeS F (.imm t c) e g = match frz g.hp depth (e t) with
    | some v => codeS F c (upd e t v) ⟨lock g.hp (vis g.hp depth (e t)), g.nx⟩
    | none => none := by
  refine lim_ext fun r => ?_
  rw [codeS_some]
  simp only [codeE]
  cases frz g.hp depth (e t) with
  | none => simp
  | some v => exact (codeS_some F).symm
theorem codeS_scp (c e g) : codeS F (.scp c) e g = codeS F c e g := by
  refine lim_ext fun r => ?_
  rw [codeS_some]
  simp only [codeE]
  exact (codeS_some F).symm
theorem codeS_lab (e g) : codeS F .lab e g = some (.nrm, e, g) := by
  refine lim_ext fun r => ?_
  rw [codeS_some]
  simp only [codeE]
  exact ⟨fun ⟨_, h⟩ => h, fun h => ⟨0, h⟩⟩
theorem codeS_blk (id c e g) : codeS F (.blk id c) e g = match codeS F c e g with
    | some (.ext n, e, g) => some (if n = id then .nrm else .ext n, e, g)
    | r => r := by
  refine lim_ext fun r => ?_
  rw [codeS_some]
  constructor
  · rintro ⟨k, h⟩
    simp only [codeE] at h
    split at h
    · rename_i ho
      rw [(codeS_some F).2 ⟨k, ho⟩]
      exact h
    · rename_i hn
      rw [(codeS_some F).2 ⟨k, h⟩]
      obtain ⟨o, e', g'⟩ := r
      cases o with
      | nrm => rfl
      | ext n => exact absurd h (hn _ _ _)
      | ret => rfl
  · intro h
    split at h
    · rename_i ho
      obtain ⟨k1, h1⟩ := (codeS_some F).1 ho
      exact ⟨k1, by simp only [codeE]; rw [h1]; exact h⟩
    · rename_i hn
      obtain ⟨k1, h1⟩ := (codeS_some F).1 h
      refine ⟨k1, ?_⟩
      simp only [codeE]
      rw [h1]
      obtain ⟨o, e', g'⟩ := r
      cases o with
      | nrm => rfl
      | ext n => exact absurd h (hn _ _ _)
      | ret => rfl
theorem codeS_loop (c e g) : codeS F (.loop c) e g = match codeS F c e g with
    | some (.nrm, e, g) => codeS F (.loop c) e g
    | r => r := by
  refine lim_ext fun r => ?_
  rw [codeS_some]
  constructor
  · rintro ⟨k, h⟩
    simp only [codeE] at h
    cases k with
    | zero => simp [iter] at h
    | succ k =>
      simp only [iter] at h
      split at h
      · rename_i ho
        rw [(codeS_some F).2 ⟨k + 1, ho⟩]
        refine (codeS_some F).2 ⟨k + 1, ?_⟩
        simp only [codeE]
        exact iter_mono (fun _ _ _ h => h) (Nat.le_succ k) h
      · rename_i hn
        rw [(codeS_some F).2 ⟨k + 1, h⟩]
        obtain ⟨o, e', g'⟩ := r
        cases o with
        | nrm => exact absurd h (hn _ _)
        | ext n => rfl
        | ret => rfl
  · intro h
    split at h
    · rename_i ho
      obtain ⟨k1, h1⟩ := (codeS_some F).1 ho
      obtain ⟨k2, h2⟩ := (codeS_some F).1 h
      simp only [codeE] at h2
      refine ⟨max k1 k2 + 1, ?_⟩
      simp only [codeE, iter]
      rw [codeE_mono (callE_mono F (by omega : k1 ≤ max k1 k2 + 1)) (by omega : k1 ≤ max k1 k2 + 1) h1]
      exact iter_mono (fun _ _ _ h => codeE_mono (callE_mono F (by omega : k2 ≤ max k1 k2 + 1)) (by omega : k2 ≤ max k1 k2 + 1) h) (by omega) h2
    · rename_i hn
      obtain ⟨k1, h1⟩ := (codeS_some F).1 h
      refine ⟨k1 + 1, ?_⟩
      simp only [codeE, iter]
      rw [codeE_mono (callE_mono F (by omega : k1 ≤ k1 + 1)) (by omega : k1 ≤ k1 + 1) h1]
      obtain ⟨o, e', g'⟩ := r
      cases o with
      | nrm => exact absurd h (hn _ _)
      | ext n => rfl
      | ret => rfl
/-- A call is its body's run. -/
theorem callS_eq (f asx g) : callS F f asx g = match F f with
    | none => none
    | some fn => match codeS F fn.body (argEnv asx) g with
      | some (.nrm, e, g) | some (.ret, e, g) => (resE fn.res e g).map (·, g)
      | _ => none := by
  refine lim_ext fun r => ?_
  rw [callS_some]
  constructor
  · rintro ⟨k, h⟩
    cases k with
    | zero => simp [callE] at h
    | succ k =>
      simp only [callE] at h
      split at h
      · cases h
      · rename_i fn hF
        rw [hF]
        simp only
        split at h
        · rename_i hc
          rw [(codeS_some F).2 ⟨k, hc⟩]
          exact h
        · rename_i hc
          rw [(codeS_some F).2 ⟨k, hc⟩]
          exact h
        · cases h
  · intro h
    split at h
    · cases h
    · rename_i fn hF
      split at h
      · rename_i hc
        obtain ⟨k, hk⟩ := (codeS_some F).1 hc
        exact ⟨k + 1, by simp only [callE, hF]; rw [hk]; exact h⟩
      · rename_i hc
        obtain ⟨k, hk⟩ := (codeS_some F).1 hc
        exact ⟨k + 1, by simp only [callE, hF]; rw [hk]; exact h⟩
      · cases h
end Go.Ab
end
section
/- How the evaluator is run by simp: what is still to be done stands asx data, so that simp looks at one operation at a time. -/
namespace Go.Ab
theorem upd_apply {α : Type} (e : Nat → α) (d : Nat) (v : α) (k : Nat) : upd e d v k = if k = d then v else e k := rfl
theorem upd_same {α : Type} (e : Nat → α) (d : Nat) (v : α) : upd e d v d = v := if_pos rfl
theorem upd_ne {α : Type} (e : Nat → α) {d k : Nat} (v : α) (h : k ≠ d) : upd e d v k = e k := if_neg h
theorem put_some (e : Env) (d : Nat) (v : AV) : put e (some d) v = upd e d v := rfl
theorem put_none (e : Env) (v : AV) : put e none v = e := rfl
theorem allow_no (base : Nat) (pre : List Nat) (id : Nat) : allow false base pre id = true := rfl
theorem allow_lt {base id : Nat} (pre : List Nat) (h : id < base) : allow true base pre id = true := by simp [allow, h]
theorem allow_pre {base id : Nat} {pre : List Nat} (h : pre.contains (id - base) = true) : allow true base pre id = true := by simp [allow]; right; simpa using h
theorem rd_ok {g : G} {al : Nat → Bool} {id : Nat} (h : al id = true) : rd g al id = g.hp id := by simp [rd, h]

section
variable (c : CS) (d : Bool) (b j : Nat) (dst : Option Nat) (os : List AOper) (e : Env)
def bindR (r : Option (AV × G)) : Option (Env × G) :=
  match r with
  | some (v, g) => regE c d b j os (put e dst v) g
  | none => none
theorem bindR_some (v g) : bindR c d b j dst os e (some (v, g)) = regE c d b j os (put e dst v) g := rfl
theorem bindR_none : bindR c d b j dst os e none = none := rfl
def selR (w : Bool) (op : AOp) (pre : List Nat) (g : G) : Option (Env × G) :=
  if w then bindR c d b (j + 1) dst os e (opE c (allow d b pre) b (b + j) op e g) else regE c d b (j + 1) os (put e dst .undef) g
theorem selR_true (op pre g) : selR c d b j dst os e true op pre g = bindR c d b (j + 1) dst os e (opE c (allow d b pre) b (b + j) op e g) := rfl
theorem selR_false (op pre g) : selR c d b j dst os e false op pre g = regE c d b (j + 1) os (put e dst .undef) g := rfl
theorem regE_nil (g : G) : regE c d b j [] e g = some (e, g) := rfl
theorem regE_cons (op : AOp) (grd : Option (Nat × Bool)) (pre : List Nat) (g : G) :
    regE c d b j ({ dst, op, grd, pre } :: os) e g = selR c d b j dst os e (wanted e grd) op pre g := by
  simp only [regE, selR, bindR]
  rfl
end
section
variable (F : Funs)
noncomputable def thenS (x : ACode) (r : Option (Out × Env × G)) : Option (Out × Env × G) :=
  match r with
  | some (.nrm, e, g) => codeS F x e g
  | r => r
theorem thenS_nrm (x e g) : thenS F x (some (.nrm, e, g)) = codeS F x e g := rfl
theorem thenS_ext (x n e g) : thenS F x (some (.ext n, e, g)) = some (.ext n, e, g) := rfl
theorem thenS_ret (x e g) : thenS F x (some (.ret, e, g)) = some (.ret, e, g) := rfl
noncomputable def selS (t f : ACode) (e : Env) (g : G) (v : AV) : Option (Out × Env × G) :=
  match v with
  | .b c => if c then codeS F t e g else codeS F f e g
  | _ => none
theorem selS_true (t f e g) : selS F t f e g (.b true) = codeS F t e g := rfl
theorem selS_false (t f e g) : selS F t f e g (.b false) = codeS F f e g := rfl
def normS (r : Option (Env × G)) : Option (Out × Env × G) :=
  match r with
  | some (e, g) => some (.nrm, e, g)
  | none => none
theorem normS_some (e g) : normS (some (e, g)) = some (.nrm, e, g) := rfl
def blkS (id : Nat) (r : Option (Out × Env × G)) : Option (Out × Env × G) :=
  match r with
  | some (.ext n, e, g) => some (if n = id then .nrm else .ext n, e, g)
  | r => r
theorem blkS_nrm (id e g) : blkS id (some (.nrm, e, g)) = some (.nrm, e, g) := rfl
theorem blkS_ret (id e g) : blkS id (some (.ret, e, g)) = some (.ret, e, g) := rfl
theorem blkS_ext (id n e g) : blkS id (some (.ext n, e, g)) = some (if n = id then .nrm else .ext n, e, g) := rfl
theorem cS_reg (draw ops e g) : codeS F (.reg draw ops) e g = normS (regE (callS F) draw g.nx 0 ops e ⟨g.hp, g.nx + ops.length⟩) := codeS_reg F draw ops e g
theorem cS_seq (a b e g) : codeS F (.seq a b) e g = thenS F b (codeS F a e g) := codeS_seq F a b e g
theorem cS_cond (c t f e g) : codeS F (.cond c t f) e g = selS F t f e g (c.ev e) := codeS_cond F c t f e g
theorem cS_blk (id c e g) : codeS F (.blk id c) e g = blkS id (codeS F c e g) := codeS_blk F id c e g
theorem cS_loop (c e g) : codeS F (.loop c) e g = thenS F (.loop c) (codeS F c e g) := codeS_loop F c e g
end
def wantV (v : AV) (w : Bool) : Bool := match v with | .b x => x == w | _ => false
theorem wanted_none (e : Env) : wanted e none = true := rfl
theorem wanted_some (e : Env) (t : Nat) (w : Bool) : wanted e (some (t, w)) = wantV (e t) w := rfl
theorem wantV_b (x w : Bool) : wantV (.b x) w = (x == w) := rfl
theorem wantV_1 (x : Bool) : wantV (.b x) true = x := by cases x <;> rfl
theorem wantV_0 (x : Bool) : wantV (.b x) false = !x := by cases x <;> rfl
theorem wantV_undef (w : Bool) : wantV .undef w = false := rfl

/-! one operation at a time, on what its operands are -/
section
variable {c : CS} {al : Nat → Bool} {lo id : Nat} {e : Env} {g : G}
theorem ev_t (n : Nat) : Opd.ev e (.t n) = e n := rfl
theorem ev_c (v : AV) : Opd.ev e (.c v) = v := rfl
theorem o_mv (x : Opd) : opE c al lo id (.mv x) e g = some (x.ev e, g) := rfl
theorem o_pick (x y z : Opd) : opE c al lo id (.pick x y z) e g = vPick (x.ev e) (y.ev e) (z.ev e) g := rfl
theorem vPick_t (a b : AV) (g : G) : vPick (.b true) a b g = some (a, g) := rfl
theorem vPick_f (a b : AV) (g : G) : vPick (.b false) a b g = some (b, g) := rfl
theorem o_new (z : List AV) : opE c al lo id (.new z) e g = some (.mp id 0, ⟨upd g.hp id (some (.cells z false)), g.nx⟩) := rfl
theorem o_box (x : Opd) : opE c al lo id (.box x) e g = vBox id (x.ev e) g := rfl
theorem vBox_ok {id : Nat} {v : AV} {g : G} (h : (cellsOf v).all one = true) : vBox id v g = some (.mp id 0, ⟨upd g.hp id (some (.cells (cellsOf v) false)), g.nx⟩) := if_pos h
theorem vMap_some (v : AV) : vMap g (some v) = some (v, g) := rfl
theorem vMapL_some (f) (v : List AV) : vMapL f g (some v) = some (f v, g) := rfl
theorem o_build (z : List AV) (ps) : opE c al lo id (.build z ps) e g = vMapL .agg g (fill e z ps) := rfl
theorem o_ld (agg) (x : Opd) : opE c al lo id (.ld agg x) e g = vLd al agg (x.ev e) g := rfl
theorem vLd_ptr (agg cs) : vLd al agg (.ptr cs) g = vMap g (part cs 0 agg) := rfl
theorem vLd_mp {agg b off cs ro} (ha : al b = true) (h : g.hp b = some (.cells cs ro)) : vLd al agg (.mp b off) g = vMap g (part cs off agg) := by simp [vLd, rd, ha, h]
theorem o_st (n) (a x : Opd) : opE c al lo id (.st n a x) e g = vSt al n (a.ev e) (x.ev e) g := rfl
theorem vSt_ok {n b off x cs} (ha : al b = true) (h : g.hp b = some (.cells cs false)) (h1 : (cellsOf x).length = n) (h2 : off + n ≤ cs.length) (h3 : (cellsOf x).all one = true) :
    vSt al n (.mp b off) x g = some (.undef, ⟨upd g.hp b (some (.cells (splice cs off (cellsOf x)) false)), g.nx⟩) := by simp [vSt, rd, ha, h, h1, h2, h3]
theorem o_nilck (x : Opd) : opE c al lo id (.nilck x) e g = vNil (x.ev e) g := rfl
theorem vNil_ptr (cs) : vNil (.ptr cs) g = some (.ptr cs, g) := rfl
theorem vNil_mp (b o) : vNil (.mp b o) g = some (.mp b o, g) := rfl
theorem vNil_fn (f a b) : vNil (.fn f a b) g = some (.fn f a b, g) := rfl
theorem o_bin (op) (x y : Opd) : opE c al lo id (.bin op x y) e g = vMap g (abin op (x.ev e) (y.ev e)) := rfl
theorem o_un (op) (x : Opd) : opE c al lo id (.un op x) e g = vMap g (aun op (x.ev e)) := rfl
theorem o_mkfn (f a b) : opE c al lo id (.mkfn f a b) e g = some (.fn f (a.map (·.ev e)) (b.map (·.ev e)), g) := rfl
theorem o_fa (off) (x : Opd) : opE c al lo id (.fa off x) e g = vFa off (x.ev e) g := rfl
theorem vFa_ptr {off cs} (h : off < cs.length) : vFa off (.ptr cs) g = some (.ptr (cs.drop off), g) := if_pos h
theorem vFa_mp (off b o) : vFa off (.mp b o) g = some (.mp b (o + off), g) := rfl
theorem o_fld (off agg) (x : Opd) : opE c al lo id (.fld off agg x) e g = vFld off agg (x.ev e) g := rfl
theorem vFld_agg (off agg cs) : vFld off agg (.agg cs) g = vMap g (part cs off agg) := rfl
theorem o_ia (esz) (x i : Opd) : opE c al lo id (.ia esz x i) e g = vIa esz (x.ev e) (i.ev e) g := rfl
theorem vIa_sl {esz cs t k} {n : Nat} {z : Int} (h0 : 0 ≤ z) (h : z < n) : vIa esz (.sl cs n t) (.i k z) g = some (.ptr (cs.drop (z.toNat * esz)), g) := if_pos ⟨h0, h⟩
theorem vIa_ms {esz b off k} {n : Nat} {z : Int} (h0 : 0 ≤ z) (h : z < n) : vIa esz (.ms b off n) (.i k z) g = some (.mp b (off + z.toNat * esz), g) := if_pos ⟨h0, h⟩
theorem o_iaa (len esz) (x i : Opd) : opE c al lo id (.iaa len esz x i) e g = vIaa len esz (x.ev e) (i.ev e) g := rfl
theorem vIaa_ptr {esz cs k} {len : Nat} {z : Int} (h0 : 0 ≤ z) (h : z < len) : vIaa len esz (.ptr cs) (.i k z) g = some (.ptr (cs.drop (z.toNat * esz)), g) := if_pos ⟨h0, h⟩
theorem vIaa_mp {esz b off k} {len : Nat} {z : Int} (h0 : 0 ≤ z) (h : z < len) : vIaa len esz (.mp b off) (.i k z) g = some (.mp b (off + z.toNat * esz), g) := if_pos ⟨h0, h⟩
theorem o_len (x : Opd) : opE c al lo id (.len x) e g = vLen (x.ev e) g := rfl
theorem vLen_sl (cs n t) : vLen (.sl cs n t) g = some (.i .i64 n, g) := rfl
theorem vLen_ms (b o n) : vLen (.ms b o n) g = some (.i .i64 n, g) := rfl
theorem o_mx (x y : Opd) : opE c al lo id (.mx x y) e g = vMx (x.ev e) (y.ev e) g := rfl
theorem o_mn (x y : Opd) : opE c al lo id (.mn x y) e g = vMn (x.ev e) (y.ev e) g := rfl
theorem vMx_i (k l a b) : vMx (.i k a) (.i l b) g = some (.i k (if b > a then b else a), g) := rfl
theorem vMn_i (k l a b) : vMn (.i k a) (.i l b) g = some (.i k (if b < a then b else a), g) := rfl
theorem o_ext (i) (x : Opd) : opE c al lo id (.ext i x) e g = vExt i (x.ev e) g := rfl
theorem vExt_tup (i cs) : vExt i (.tup cs) g = vMap g (cs[i]?) := rfl
theorem abin_ii (op : BinOp) (k : IntKind) (x y : Int) (h1 : op ≠ .shl) (h2 : op ≠ .shr) : abin op (.i k x) (.i k y) = ibin op k x y := by
  cases op <;> simp [abin] <;> contradiction
theorem b_add (k x y) : abin .add (.i k x) (.i k y) = some (.i k (k.wrap (x + y))) := by simp [abin, ibin]
theorem b_sub (k x y) : abin .sub (.i k x) (.i k y) = some (.i k (k.wrap (x - y))) := by simp [abin, ibin]
theorem b_mul (k x y) : abin .mul (.i k x) (.i k y) = some (.i k (k.wrap (x * y))) := by simp [abin, ibin]
theorem b_quo {k x y} (h : y ≠ 0) : abin .quo (.i k x) (.i k y) = some (.i k (k.wrap (x.tdiv y))) := by simp [abin, ibin, h]
theorem b_rem {k x y} (h : y ≠ 0) : abin .rem (.i k x) (.i k y) = some (.i k (x.tmod y)) := by simp [abin, ibin, h]
theorem b_lss (k x y) : abin .lss (.i k x) (.i k y) = some (.b (decide (x < y))) := by simp [abin, ibin]
theorem b_leq (k x y) : abin .leq (.i k x) (.i k y) = some (.b (decide (x ≤ y))) := by simp [abin, ibin]
theorem b_gtr (k x y) : abin .gtr (.i k x) (.i k y) = some (.b (decide (x > y))) := by simp [abin, ibin]
theorem b_geq (k x y) : abin .geq (.i k x) (.i k y) = some (.b (decide (x ≥ y))) := by simp [abin, ibin]
theorem b_eql (k x y) : abin .eql (.i k x) (.i k y) = some (.b (x == y)) := by simp [abin, ibin]
theorem b_neq (k x y) : abin .neq (.i k x) (.i k y) = some (.b (x != y)) := by simp [abin, ibin]
end

/-! ### what is asked on the way stands asx data -/
def selB (x : Bool) (o : Option Blk) : Option Blk := if x then o else none
theorem selB_true (o) : selB true o = o := rfl
theorem rd_S (g : G) (al : Nat → Bool) (id : Nat) : rd g al id = selB (al id) (g.hp id) := rfl
section
variable {al : Nat → Bool} {g : G}
def ldS (agg : Option Nat) (off : Nat) (g : G) : Option Blk → Option (AV × G)
  | some (.cells cs _) => vMap g (part cs off agg)
  | _ => none
theorem ldS_ok (agg off g cs ro) : ldS agg off g (some (.cells cs ro)) = vMap g (part cs off agg) := rfl
theorem vLd_S (agg b off) : vLd al agg (.mp b off) g = ldS agg off g (selB (al b) (g.hp b)) := rfl
def stD (n b off len m : Nat) (ones : Bool) (cs vs : List AV) (g : G) : Option (AV × G) :=
  if len = n ∧ off + n ≤ m ∧ ones = true then some (.undef, ⟨upd g.hp b (some (.cells (splice cs off vs) false)), g.nx⟩) else none
theorem stD_ok {n b off len m : Nat} {cs vs g} (h : len = n ∧ off + n ≤ m) : stD n b off len m true cs vs g = some (.undef, ⟨upd g.hp b (some (.cells (splice cs off vs) false)), g.nx⟩) := if_pos ⟨h.1, h.2, rfl⟩
def stS (n b off : Nat) (vs : List AV) (g : G) : Option Blk → Option (AV × G)
  | some (.cells cs false) => stD n b off vs.length cs.length (vs.all one) cs vs g
  | _ => none
theorem stS_ok (n b off vs g cs) : stS n b off vs g (some (.cells cs false)) = stD n b off vs.length cs.length (vs.all one) cs vs g := rfl
theorem vSt_S (n b off x) : vSt al n (.mp b off) x g = stS n b off (cellsOf x) g (selB (al b) (g.hp b)) := by
  simp only [vSt]
  rw [rd_S]
  cases selB (al b) (g.hp b) with
  | none => rfl
  | some bl =>
    cases bl with
    | cells cs ro => cases ro <;> rfl
    | map es => rfl
    | tok l => rfl
def boxD (id : Nat) (cs : List AV) (g : G) (x : Bool) : Option (AV × G) := if x then some (.mp id 0, ⟨upd g.hp id (some (.cells cs false)), g.nx⟩) else none
theorem boxD_ok (id cs g) : boxD id cs g true = some (.mp id 0, ⟨upd g.hp id (some (.cells cs false)), g.nx⟩) := rfl
theorem vBox_S (id v) : vBox id v g = boxD id (cellsOf v) g ((cellsOf v).all one) := rfl
def faD (off len : Nat) (cs : List AV) (g : G) : Option (AV × G) := if off < len then some (.ptr (cs.drop off), g) else none
theorem faD_ok {off len : Nat} {cs g} (h : off < len) : faD off len cs g = some (.ptr (cs.drop off), g) := if_pos h
theorem vFa_S (off cs) : vFa off (.ptr cs) g = faD off cs.length cs g := rfl
def fillD (e : Env) (cs : List AV) (off n len m : Nat) (ones : Bool) (vs : List AV) (ps : List (Nat × Nat × Opd)) : Option (List AV) :=
  if len = n ∧ off + n ≤ m ∧ ones = true then fill e (splice cs off vs) ps else none
theorem fillD_ok {e cs off n len m vs ps} (h : len = n ∧ off + n ≤ m) : fillD e cs off n len m true vs ps = fill e (splice cs off vs) ps := if_pos ⟨h.1, h.2, rfl⟩
theorem fill_S (e : Env) (cs : List AV) (off n x ps) : fill e cs ((off, n, x) :: ps) = fillD e cs off n (cellsOf (x.ev e)).length cs.length ((cellsOf (x.ev e)).all one) (cellsOf (x.ev e)) ps := by
  simp only [fill, fillD]
theorem fill_nil (e cs) : fill e cs [] = some cs := rfl
theorem cellsOf_agg (cs) : cellsOf (.agg cs) = cs := rfl
theorem cellsOf_i (k n) : cellsOf (.i k n) = [.i k n] := rfl
theorem cellsOf_b (x) : cellsOf (.b x) = [.b x] := rfl
theorem cellsOf_s (x) : cellsOf (.s x) = [.s x] := rfl
theorem cellsOf_ptr (x) : cellsOf (.ptr x) = [.ptr x] := rfl
theorem cellsOf_nilp : cellsOf .nilp = [.nilp] := rfl
theorem cellsOf_sl (a b c) : cellsOf (.sl a b c) = [.sl a b c] := rfl
theorem cellsOf_mp (a b) : cellsOf (.mp a b) = [.mp a b] := rfl
theorem cellsOf_fn (a b c) : cellsOf (.fn a b c) = [.fn a b c] := rfl
theorem one_i (k n) : one (.i k n) = true := rfl
theorem one_b (x) : one (.b x) = true := rfl
theorem one_s (x) : one (.s x) = true := rfl
theorem one_ptr (x) : one (.ptr x) = true := rfl
theorem one_nilp : one .nilp = true := rfl
theorem one_sl (a b c) : one (.sl a b c) = true := rfl
theorem one_mp (a b) : one (.mp a b) = true := rfl
theorem one_fn (a b c) : one (.fn a b c) = true := rfl
theorem splice_1 (cs off v) : splice cs off [v] = cs.set off v := rfl
theorem splice_2 (a b x y) : splice [a, b] 0 [x, y] = [x, y] := rfl
theorem splice_3 (a b c x y z) : splice [a, b, c] 0 [x, y, z] = [x, y, z] := rfl
theorem part_0 (c cs) : part (c :: cs) 0 none = some c := rfl
theorem part_1 (c d cs) : part (c :: d :: cs) 1 none = some d := rfl
theorem part_2 (a c d cs) : part (a :: c :: d :: cs) 2 none = some d := rfl
def andLe (lo : Nat) (al : Nat → Bool) (i : Nat) : Bool := decide (lo ≤ i) && al i
theorem o_stL {c : CS} {al : Nat → Bool} {lo id : Nat} {e : Env} {g : G} (n a x) : opE c al lo id (.stL n a x) e g = vSt (andLe lo al) n (a.ev e) (x.ev e) g := rfl
theorem andLe_ok {lo : Nat} {al : Nat → Bool} {i : Nat} (h : lo ≤ i) : andLe lo al i = al i := by simp [andLe, h]
theorem allow_hd {base k id : Nat} (l : List Nat) (h : id = base + k) : allow true base (k :: l) id = true := by subst h; simp [allow]
theorem allow_h2 {base k k' id : Nat} (l : List Nat) (h : id = base + k) : allow true base (k' :: k :: l) id = true := by subst h; simp [allow]
theorem part_3 (a b c d : AV) (l : List AV) : part (a :: b :: c :: d :: l) 3 none = some d := rfl
theorem part_4 (a b c d e : AV) (l : List AV) : part (a :: b :: c :: d :: e :: l) 4 none = some e := rfl
theorem part_5 (a b c d e f : AV) (l : List AV) : part (a :: b :: c :: d :: e :: f :: l) 5 none = some f := rfl
theorem cellsOf_ms (a b c) : cellsOf (.ms a b c) = [.ms a b c] := rfl
theorem one_ms (a b c) : one (.ms a b c) = true := rfl
theorem drop_0 (l : List AV) : l.drop 0 = l := rfl
theorem g0_nx : g0.nx = 0 := rfl
theorem g0_hp : g0.hp = fun _ => none := rfl

theorem o_bsl {c : CS} {al : Nat → Bool} {lo id : Nat} {e : Env} {g : G} (imm n z ps) : opE c al lo id (.bsl imm n z ps) e g = vBsl id imm n (fill e z ps) g := rfl
theorem vBsl_t (id n cs) (g : G) : vBsl id true n (some cs) g = vMapL (fun cs => .sl cs n .rig) g (frzL (fun _ => none) depth cs) := rfl
theorem vBsl_f (id n cs) (g : G) : vBsl id false n (some cs) g = some (.ms id 0 n, ⟨upd g.hp id (some (.cells cs false)), g.nx⟩) := rfl
theorem o_app {c : CS} {al : Nat → Bool} {lo id : Nat} {e : Env} {g : G} (esz by' x y) : opE c al lo id (.app esz by' x y) e g = vApp al id esz by' (x.ev e) (y.ev e) g := rfl
def appD (n m esz bytes lc ld : Nat) (r : Option (AV × G)) : Option (AV × G) := if (n + m) * bytes ≤ 2 ^ 46 ∧ n + m ≤ 2 ^ 62 ∧ lc = n * esz ∧ ld = m * esz then r else none
theorem appD_ok {n m esz bytes lc ld r} (h : (n + m) * bytes ≤ 2 ^ 46 ∧ n + m ≤ 2 ^ 62 ∧ lc = n * esz ∧ ld = m * esz) : appD n m esz bytes lc ld r = r := if_pos h
theorem vApp_rig {id esz bytes cs n ds m t2} (h : m ≠ 0) : vApp al id esz bytes (.sl cs n .rig) (.sl ds m t2) g = appD n m esz bytes cs.length ds.length (some (.sl (cs ++ ds) (n + m) (.own id esz), ⟨upd g.hp id (some (.tok true)), g.nx⟩)) := by
  simp only [vApp, vSrc, if_neg h]; rfl
theorem vApp_rig0 {id esz bytes cs n ds t2} : vApp al id esz bytes (.sl cs n .rig) (.sl ds 0 t2) g = appD n 0 esz bytes cs.length ds.length (some (.sl cs n .rig, g)) := by
  simp only [vApp, vSrc, if_true]; rfl
def appK (id esz tk n : Nat) (cs : List AV) (g : G) : Option Blk → Option (AV × G)
  | some (.tok true) => some (.sl cs n (.own id esz), ⟨upd (upd g.hp tk (some (.tok false))) id (some (.tok true)), g.nx⟩)
  | _ => none
theorem appK_ok (id esz tk n cs g) : appK id esz tk n cs g (some (.tok true)) = some (.sl cs n (.own id esz), ⟨upd (upd g.hp tk (some (.tok false))) id (some (.tok true)), g.nx⟩) := rfl
theorem vApp_own {id esz bytes cs n tk ds m t2} : vApp al id esz bytes (.sl cs n (.own tk esz)) (.sl ds m t2) g = appD n m esz bytes cs.length ds.length (appK id esz tk (n + m) (cs ++ ds) g (selB (al tk) (g.hp tk))) := by
  simp only [vApp, vSrc, rd_S]
  unfold appD appK
  split
  · cases selB (al tk) (g.hp tk) with
    | none => rfl
    | some b =>
      cases b with
      | tok x => cases x <;> simp
      | cells _ _ => rfl
      | map _ => rfl
  · rfl
theorem o_eqn {c : CS} {al : Nat → Bool} {lo id : Nat} {e : Env} {g : G} (neg x y) : opE c al lo id (.eqn neg x y) e g = vMap g (negb neg (aeqn (x.ev e) (y.ev e))) := rfl
theorem o_eqb {c : CS} {al : Nat → Bool} {lo id : Nat} {e : Env} {g : G} (neg x y) : opE c al lo id (.eqb neg x y) e g = vMap g (negb neg (aeqb (x.ev e) (y.ev e))) := rfl
theorem o_eqa {c : CS} {al : Nat → Bool} {lo id : Nat} {e : Env} {g : G} (neg ks x y) : opE c al lo id (.eqa neg ks x y) e g = vMap g (negb neg (aeqa ks (x.ev e) (y.ev e))) := rfl
theorem aeqn_pn (cs) : aeqn (.ptr cs) .nilp = some false := rfl
theorem aeqn_np (cs) : aeqn .nilp (.ptr cs) = some false := rfl
theorem aeqn_mn (a b) : aeqn (.mp a b) .nilp = some false := rfl
theorem aeqn_nn : aeqn .nilp .nilp = some true := rfl
theorem aeqb_bb (x y) : aeqb (.b x) (.b y) = some (x == y) := rfl
theorem negb_t (x) : negb true (some x) = some (.b (!x)) := rfl
theorem negb_f (x) : negb false (some x) = some (.b x) := rfl
theorem aun_not (x) : aun .not (.b x) = some (.b !x) := rfl
end
end Go.Ab
end
section
/- Calls; each operation asx a wp. -/
set_option linter.unusedVariables false
set_option linter.unusedSimpArgs false
namespace Go.Ab
open Go.RowKit

/-- What a call of the abstract machine promises of the program. -/
def CallOk (P : Program) (num : Nat → Nat) (call : CS) : Prop :=
  ∀ f asx g v g', call f asx g = some (v, g') → (g.nx ≤ g'.nx ∧ ∀ i, i < g.nx → g.hp i = none → g'.hp i = none) ∧ ∀ (c : Cx) (vargs : List Value), c.num = num → c.hp = g.hp → Ok c g.nx → Reps c true asx vargs →
    Calls P (num f) vargs.toArray c.w (fun en w' => ∃ val c', en = .returned val ∧ c'.w = w' ∧ Evo c c' ∧ Ok c' g'.nx ∧ c'.hp = g'.hp ∧ Rep c' true v val) ∧ (∃ fn, P.funcs[num f]? = some fn ∧ fn.body.isSome ∧ (fn.name == "runtime.NumGoroutine") = false)

theorem Rep.move {c c' : Cx} (hn : c'.num = c.num) (hI : ∀ ad, c.I ad → c'.I ad ∧ ∀ v, c.w.cell? ad = some v → c'.w.cell? ad = some v) {m : Bool} {x : AV} {v : Value} (h : Rep c m x v) (hm : m = false) : Rep c' m x v := by
  induction h with
  | undef => exact .undef
  | b x => exact .b x
  | i k n => exact .i k n
  | s x => exact .s x
  | nilp => exact .nilp
  | nilf => exact .nilf
  | nili => exact .nili
  | agg vs hl _ ih => exact .agg vs hl fun j x v h1 h2 => ih j x v h1 h2 hm
  | tup vs hl _ ih => exact .tup vs hl fun j x v h1 h2 => ih j x v h1 h2 hm
  | sl ad vs hc hm' hr ho hz h1 hl ha hk _ ht ih => exact .sl ad vs hc hm' hr ho hz h1 hl ha (fun j v hv => ⟨(hI _ (hk j v hv).1).1, (hI _ (hk j v hv).1).2 v (hk j v hv).2⟩) (fun j x v h1 h2 => ih j x v h1 h2 rfl) (fun τ e h => absurd h (ho hm τ e))
  | ptr ad vs h1 hl hk _ ih => exact .ptr ad vs h1 hl (fun j v hv => ⟨(hI _ (hk j v hv).1).1, (hI _ (hk j v hv).1).2 v (hk j v hv).2⟩) (fun j x v h1 h2 => ih j x v h1 h2 rfl)
  | mp id off h => cases hm
  | ms id off n cap h hc hm' => cases hm
  | fn vs us hl hl' _ _ ih ih' => rw [← hn]; exact .fn vs us hl hl' (fun j x v h1 h2 => ih j x v h1 h2 hm) (fun j x v h1 h2 => ih' j x v h1 h2 hm)
  | mm id h => cases hm
theorem Reps.move {c c' : Cx} (hn : c'.num = c.num) (hI : ∀ ad, c.I ad → c'.I ad ∧ ∀ v, c.w.cell? ad = some v → c'.w.cell? ad = some v) {cs : List AV} {vs : List Value} (h : Reps c false cs vs) : Reps c' false cs vs :=
  ⟨h.1, fun j x v hx hv => (h.2 j x v hx hv).move hn hI rfl⟩
theorem rep_flat {c c' : Cx} {m m' : Bool} {x : AV} {v : Value} (hf : flat x = true) (h : Rep c m x v) : Rep c' m' x v := by
  cases h <;> first | (simp [flat] at hf; done) | constructor

mutual
theorem frz_one {hp : Nat → Option Blk} : ∀ (k : Nat) {x y : AV}, frz hp k x = some y → Ab.one x = true → Ab.one y = true
  | 0, _, _, h, _ => by simp [frz] at h
  | k + 1, x, y, h, h1 => by
    cases x with
    | agg cs => simp [Ab.one] at h1
    | tup cs => simp [Ab.one] at h1
    | undef => simp [Ab.one] at h1
    | b x => simp only [frz] at h; cases h; rfl
    | i k n => simp only [frz] at h; cases h; rfl
    | s x => simp only [frz] at h; cases h; rfl
    | nilp => simp only [frz] at h; cases h; rfl
    | nilf => simp only [frz] at h; cases h; rfl
    | nili => simp only [frz] at h; cases h; rfl
    | sl cs n t => simp only [frz] at h; cases h; rfl
    | ptr cs => simp only [frz] at h; cases h; rfl
    | mp id off =>
      simp only [frz] at h
      split at h
      · cases hf : frzL hp k (List.drop off _) with
        | none => rw [hf] at h; cases h
        | some z => rw [hf] at h; cases h; rfl
      · cases h
    | ms id off n =>
      simp only [frz] at h
      split at h
      · cases hf : frzL hp k (List.drop off _) with
        | none => rw [hf] at h; cases h
        | some z => rw [hf] at h; cases h; rfl
      · cases h
    | fn f a b =>
      simp only [frz] at h
      split at h
      · cases h; rfl
      · cases h
    | ifc t v =>
      simp only [frz] at h
      cases hf : frz hp k v with
      | none => rw [hf] at h; cases h
      | some z => rw [hf] at h; cases h; rfl
    | mm id => simp only [frz] at h; cases h
theorem frzL_ones {hp : Nat → Option Blk} : ∀ (k : Nat) {cs ds : List AV}, frzL hp k cs = some ds → cs.all Ab.one = true → ds.all Ab.one = true
  | k, [], ds, h, _ => by simp only [frzL] at h; cases h; rfl
  | k, x :: cs, ds, h, h1 => by
    simp only [frzL] at h
    simp only [List.all_cons, Bool.and_eq_true] at h1
    split at h
    · rename_i hx hs
      cases h
      simp only [List.all_cons, frz_one k hx h1.1, frzL_ones k hs h1.2, Bool.and_self]
    · cases h
end

/-- The state in which a callee begins that gets frozen arguments. -/
def Cx.callee (c : Cx) : Cx := { num := c.num, base := c.w.heap.size, J := c.I, w := c.w, loc := fun _ => (0, 0), hp := fun _ => none }
theorem Ok.callee (c : Cx) : Ok c.callee 0 := ⟨Nat.le_refl _, (fun _ _ _ h => by cases h), (fun _ _ h => by cases h), (fun _ h => by cases h), (fun _ _ _ h => by obtain ⟨_, h, _⟩ := h; cases h), (fun _ _ => rfl)⟩
theorem rd_hp {c : Cx} {g : G} {al : Nat → Bool} (hg : c.hp = g.hp) : ∀ i b, rd g al i = some b → c.hp i = some b := by
  intro i b hb
  unfold rd at hb
  split at hb
  · rw [hg]; exact hb
  · cases hb
theorem callee_I {c : Cx} {nx : Nat} (K : Ok c nx) (ad : Addr) (h : c.I ad) : c.callee.I ad ∧ ∀ v, c.w.cell? ad = some v → c.callee.w.cell? ad = some v :=
  ⟨.inl ⟨I_lt K.basele h, h⟩, fun _ h => h⟩

theorem callee_reps {c : Cx} {nx : Nat} (K : Ok c nx) {cs : List AV} {vs : List Value} (h : Reps c false cs vs) : Reps c.callee true cs vs :=
  (Reps.move (c := c) (c' := c.callee) rfl (callee_I K) h).up

/-- Back in the caller: what is never written in the callee's last state is never written in the caller's. -/
theorem back_I {c cc : Cx} {nx : Nat} (K : Ok c nx) (E : Evo c.callee cc) (ids : List Nat) (ad : Addr) (h : (cc.lock ids).I ad) : (c.grow cc.w).I ad ∧ ∀ v, cc.w.cell? ad = some v → (c.grow cc.w).w.cell? ad = some v := by
  refine ⟨?_, fun _ h => h⟩
  have hb : Below c.w.heap.size c.w cc.w := E.below
  rcases h with ⟨h1, h2⟩ | ⟨h1, h2, _⟩
  · have hJ : c.I ad := by
      have : (cc.lock ids).J = c.I := E.J
      rw [this] at h2; exact h2
    exact ((Evo.grow K hb).imm ad hJ).1
  · have hbase : (cc.lock ids).base = c.w.heap.size := E.base
    rw [hbase] at h1
    exact I_beside K h1 h2

section
variable {P : Program} {o : Oper} {a : Act} {c : Cx} {e : Env} {g : G} {al : Nat → Bool} {lo id : Nat} {r : AV × G} {call : CS}

/-- What an operation does, asx a wp. -/
def DoesWp (P : Program) (o : Oper) (a : Act) (c : Cx) (r : AV × G) : Prop :=
  ∀ (K : Act → World → Prop) (Q : Exit → Act → World → Prop), (∀ c' val, Evo c c' → Ok c' r.2.nx → c'.hp = r.2.hp → Rep c' true r.1 val → K (a.put o.dst val) c'.w) → o.wp P a c.w K Q
theorem Does.wp (h : Does P o a c r) : DoesWp P o a c r := by
  intro K Q hK
  obtain ⟨n, c', val, hrun, hn, E, Kk, hh, hr⟩ := h
  unfold Oper.wp
  rw [hrun]
  rcases hn with rfl | ⟨rfl, rfl⟩
  · exact hK c' val E Kk hh hr
  · exact hK c' _ E Kk hh hr

theorem calls_wp {f : FuncId} {args : Array Value} {R : Ending → World → Prop} {dst op ty pos after guard} (hrun : (execOp a.eval { dst := dst, op := op, type := ty, pos := pos, after := after, guard := guard }).run P c.w = .ok (.enter f args) c.w) (hc : Calls P f args c.w R)
    {K : Act → World → Prop} {Q : Exit → Act → World → Prop} (h : ∀ en w', R en w' → ∃ v, en = .returned v ∧ K (a.put dst v) w') : Oper.wp P { dst := dst, op := op, type := ty, pos := pos, after := after, guard := guard } a c.w K Q := by
  unfold Oper.wp
  rw [hrun]
  refine hc.mono fun en w' hR => ?_
  obtain ⟨v, rfl, hk⟩ := h en w' hR
  exact hk

theorem s_call (hcall : CallOk P c.num call) (he : EnvOk c e a) (K : Ok c g.nx) (hg : c.hp = g.hp) (hid : c.hp id = none) (hlt : id < g.nx) {m : Mode} {f : Opd} {args : List Opd} (ho : opB P c.num o.op (.call m f args) = true) (h : vCall call al id m (f.ev e) (args.map (·.ev e)) g = some r) : DoesWp P o a c r := by
  obtain ⟨dst, op, ty, pos, after, guard⟩ := o
  simp only [opB] at ho
  split at ho
  · rename_i cl
    obtain ⟨cal, asx, ts⟩ := cl
    simp only [Bool.and_eq_true] at ho
    obtain ⟨h1, h2⟩ := ho
    split at h1
    · rename_i fo
      have rf := opdB_rep he h1
      have ra := opdsB_rep he h2
      intro Kn Q hK
      unfold vCall at h
      split at h
      · rename_i fid fst caps hx
        rw [hx] at rf
        obtain ⟨vs, us, hv, hvs, hus⟩ := rep_fn rf
        have hargs : Reps c true (fst ++ args.map (·.ev e) ++ caps) (vs ++ asx.toList.map a.eval ++ us) := (hvs.append ra).append hus
        have hrun : ∀ fn, P.funcs[c.num fid]? = some fn → fn.body.isSome → (fn.name == "runtime.NumGoroutine") = false → (execOp a.eval { dst := dst, op := .call { callee := .value fo, args := asx, argTypes := ts }, type := ty, pos := pos, after := after, guard := guard }).run P c.w = .ok (.enter (c.num fid) (vs ++ asx.toList.map a.eval ++ us).toArray) c.w := by
          intro fn hf hb hn
          have hb' : fn.body.isNone = false := by cases hh : fn.body with | none => rw [hh] at hb; cases hb | some _ => rfl
          simp only [execOp, resolve, hv, Deferred.ofValue, Sem.run_bind, Sem.run_pure, Result.andThen_ok, invoke, callFunc, run_program, hf, hn, hb', Bool.false_eq_true, if_false]
          congr 2
          apply Array.ext'
          simp
        cases m with
        | raw =>
          obtain ⟨_, hc⟩ := hcall fid _ g r.1 r.2 h
          obtain ⟨hcl, fn, hf, hb, hn⟩ := hc c _ rfl hg K hargs
          refine calls_wp (hrun fn hf hb hn) hcl ?_
          rintro en w' ⟨val, c', rfl, rfl, E, Kk, hh, hr⟩
          exact ⟨val, rfl, hK c' val E Kk hh hr⟩
        | pure =>
          simp only at h
          split at h
          · cases h
          · rename_i bs hbs
            split at h
            · cases h
            · rename_i v g' hcr
              split at h
              · cases h
              · rename_i v2 hfz
                split at h
                · rename_i hcond
                  cases h
                  have hfr := frzL_rep K (hp := rd g al) (ids := (fst ++ args.map (·.ev e) ++ caps).flatMap (vis (rd g al) depth)) (rd_hp hg) depth hbs (fun _ h => h) hargs
                  have Kl := K.lock ((fst ++ args.map (·.ev e) ++ caps).flatMap (vis (rd g al) depth))
                  obtain ⟨_, hc⟩ := hcall fid _ _ v g' hcr
                  obtain ⟨hcl, fn, hf, hb, hn⟩ := hc (c.lock ((fst ++ args.map (·.ev e) ++ caps).flatMap (vis (rd g al) depth))).callee _ rfl rfl (Ok.callee _) (callee_reps Kl hfr)
                  refine calls_wp (hrun fn hf hb hn) hcl ?_
                  rintro en w' ⟨val, cc, rfl, rfl, E, Kk, hh, hr⟩
                  have hbel : Below c.w.heap.size c.w cc.w := E.below
                  refine ⟨val, rfl, ?_⟩
                  have hr2 := frz_rep Kk (hp := g'.hp) (ids := vis g'.hp depth v) (fun i b hb => by rw [hh]; exact hb) depth hfz (fun _ h => h) hr
                  simp only [Bool.or_eq_true] at hcond
                  rcases hcond with hfl | hem
                  · exact hK (c.grow cc.w) val (Evo.grow K hbel) (K.grow hbel) hg (rep_flat hfl hr2)
                  · have hnil : (fst ++ args.map (·.ev e) ++ caps).flatMap (vis (rd g al) depth) = [] := by simpa using hem
                    rw [hnil, lock_nil] at E
                    have hr3 := (hr2.move (c' := c.grow cc.w) (by show c.num = cc.num; exact E.num.symm) (back_I K E _) rfl).up
                    exact hK (c.grow cc.w) val (Evo.grow K hbel) (K.grow hbel) hg hr3
                · cases h
        | lock =>
          simp only at h
          split at h
          · cases h
          · rename_i bs hbs
            split at h
            · cases h
            · rename_i v g' hcr
              split at h
              · cases h
              · rename_i v2 hfz
                cases h
                have hfr := frzL_rep K (hp := rd g al) (ids := (fst ++ args.map (·.ev e) ++ caps).flatMap (vis (rd g al) depth)) (rd_hp hg) depth hbs (fun _ h => h) hargs
                have Kl := K.lock ((fst ++ args.map (·.ev e) ++ caps).flatMap (vis (rd g al) depth))
                have El := Evo.lock c ((fst ++ args.map (·.ev e) ++ caps).flatMap (vis (rd g al) depth))
                obtain ⟨_, hc⟩ := hcall fid _ _ v g' hcr
                obtain ⟨hcl, fn, hf, hb, hn⟩ := hc (c.lock ((fst ++ args.map (·.ev e) ++ caps).flatMap (vis (rd g al) depth))).callee _ rfl rfl (Ok.callee _) (callee_reps Kl hfr)
                refine calls_wp (hrun fn hf hb hn) hcl ?_
                rintro en w' ⟨val, cc, rfl, rfl, E, Kk, hh, hr⟩
                have hbel : Below c.w.heap.size c.w cc.w := E.below
                refine ⟨val, rfl, ?_⟩
                have hr2 := frz_rep Kk (hp := g'.hp) (ids := vis g'.hp depth v) (fun i b hb => by rw [hh]; exact hb) depth hfz (fun _ h => h) hr
                have hr3 := (hr2.move (c' := (c.lock ((fst ++ args.map (·.ev e) ++ caps).flatMap (vis (rd g al) depth))).grow cc.w) (by show c.num = cc.num; exact E.num.symm) (back_I Kl E _) rfl).up
                exact hK ((c.lock ((fst ++ args.map (·.ev e) ++ caps).flatMap (vis (rd g al) depth))).grow cc.w) val (El.trans (Evo.grow Kl hbel)) (Kl.grow hbel) (by show Ab.lock c.hp _ = _; rw [hg]) hr3
        | thaw =>
          simp only at h
          split at h
          · cases h
          · rename_i bs hbs
            split at h
            · rename_i b g' hcr
              split at h
              · rename_i cs hb
                split at h
                · rename_i cs' hfz
                  split at h
                  · rename_i hcond
                    cases h
                    simp only [Bool.and_eq_true, Bool.not_eq_true'] at hcond
                    obtain ⟨hem, hnb⟩ := hcond
                    have hnil : (fst ++ args.map (·.ev e) ++ caps).flatMap (vis (rd g al) depth) = [] := by simpa using hem
                    have hfr := frzL_rep K (hp := rd g al) (ids := (fst ++ args.map (·.ev e) ++ caps).flatMap (vis (rd g al) depth)) (rd_hp hg) depth hbs (fun _ h => h) hargs
                    rw [hnil, lock_nil] at hfr
                    obtain ⟨_, hc⟩ := hcall fid _ _ _ g' hcr
                    obtain ⟨hcl, fn, hf, hbd, hn⟩ := hc c.callee _ rfl rfl (Ok.callee _) (callee_reps K hfr)
                    refine calls_wp (hrun fn hf hbd hn) hcl ?_
                    rintro en w' ⟨val, cc, rfl, rfl, E, Kk, hh, hr⟩
                    have hbel : Below c.w.heap.size c.w cc.w := E.below
                    have hvp := rep_mp hr
                    have hcb : cc.hp b = some (.cells cs false) := by rw [hh]; exact hb
                    obtain ⟨g1, vs', ty', g2, g3, g4⟩ := Kk.cells b cs _ hcb
                    have hbase : cc.base = c.w.heap.size := E.base
                    rw [hbase] at g1
                    have hr2 := frzL_rep Kk (hp := g'.hp) (ids := cs.flatMap (vis g'.hp depth)) (fun i b hb => by rw [hh]; exact hb) depth hfz (fun _ h => h) g3
                    have hnbm : b ∉ cs.flatMap (vis g'.hp depth) := by simpa using hnb
                    -- the caller's state, the block its own
                    have hloc : ∀ i, i ≠ id → upd c.loc id ((cc.loc b).1, 0) i = c.loc i := fun i hi => by rw [upd, if_neg hi]
                    have hhp : ∀ i, i ≠ id → upd c.hp id (some (.cells cs' false)) i = c.hp i := fun i hi => by rw [upd, if_neg hi]
                    let c' : Cx := { (c.grow cc.w) with loc := upd c.loc id ((cc.loc b).1, 0), hp := upd c.hp id (some (.cells cs' false)) }
                    have hls : c'.loc id = ((cc.loc b).1, 0) := by show upd _ _ _ _ = _; rw [upd, if_pos rfl]
                    have hhs : c'.hp id = some (.cells cs' false) := by show upd _ _ _ _ = _; rw [upd, if_pos rfl]
                    have El : Evo c c' := by
                      refine ⟨rfl, rfl, rfl, hbel.mono K.basele, ?_, ?_, ?_⟩
                      · intro ad hI
                        have hlt' := I_lt K.basele hI
                        refine ⟨?_, fun v hv => by rw [← hv]; exact hbel.cell hlt'⟩
                        rcases hI with h1 | ⟨h1, h2, h3⟩
                        · exact .inl h1
                        · refine .inr ⟨h1, Nat.lt_of_lt_of_le h2 hbel.size, fun hw => h3 ?_⟩
                          rcases hw with ⟨i, ds, hi, hbk⟩ | ⟨i, hi, hbk, hlo⟩
                          · by_cases hie : i = id
                            · subst hie; rw [hls] at hbk; have : (cc.loc b).1 = ad.block := hbk; omega
                            · rw [show c'.hp i = c.hp i from hhp i hie] at hi; rw [show c'.loc i = c.loc i from hloc i hie] at hbk; exact .inl ⟨i, ds, hi, hbk⟩
                          · by_cases hie : i = id
                            · subst hie; rw [hhs] at hi; cases hi
                            · rw [show c'.hp i = c.hp i from hhp i hie] at hi; rw [show c'.loc i = c.loc i from hloc i hie] at hbk hlo; exact .inr ⟨i, hi, hbk, hlo⟩
                      · intro i hi
                        have hie : i ≠ id := fun hie => by rw [hie, hid] at hi; cases hi
                        exact ⟨by rw [show c'.hp i = c.hp i from hhp i hie]; exact hi, hloc i hie⟩
                      · intro i hi ht
                        have hie : i ≠ id := fun hie => by rw [hie, hid] at hi; cases hi
                        rw [show c'.hp i = c.hp i from hhp i hie] at ht
                        exact ⟨ht, fun vs ty hv => ⟨vs, by rw [← hv]; exact hbel.block _ (Array.getElem?_eq_some_iff.1 hv).1, rfl⟩⟩
                    have hback : ∀ ad, (cc.lock (cs.flatMap (vis g'.hp depth))).I ad → c'.I ad ∧ ∀ v, cc.w.cell? ad = some v → c'.w.cell? ad = some v := by
                      intro ad hI
                      refine ⟨?_, fun _ h => h⟩
                      have hne : ad.block ≠ (cc.loc b).1 := by
                        rcases hI with ⟨h1, _⟩ | ⟨_, _, h3⟩
                        · have h1' : ad.block < cc.base := h1
                          omega
                        · intro hEq
                          refine h3 (.inl ⟨b, cs, ?_, hEq.symm⟩)
                          rcases lock_cases cc.hp (cs.flatMap (vis g'.hp depth)) b with h | ⟨hm, _⟩
                          · show Ab.lock _ _ _ = _; rw [h]; exact hcb
                          · exact absurd hm hnbm
                      rcases (back_I K E _ ad hI).1 with h1 | ⟨h1, h2, h3⟩
                      · exact .inl h1
                      · refine .inr ⟨h1, h2, fun hw => h3 ?_⟩
                        rcases hw with ⟨i, ds, hi, hbk⟩ | ⟨i, hi, hbk, hlo⟩
                        · by_cases hie : i = id
                          · subst hie; rw [hls] at hbk; exact absurd hbk.symm hne
                          · rw [show c'.hp i = c.hp i from hhp i hie] at hi; rw [show c'.loc i = c.loc i from hloc i hie] at hbk; exact .inl ⟨i, ds, hi, hbk⟩
                        · by_cases hie : i = id
                          · subst hie; rw [hhs] at hi; cases hi
                          · rw [show c'.hp i = c.hp i from hhp i hie] at hi; rw [show c'.loc i = c.loc i from hloc i hie] at hbk hlo; exact .inr ⟨i, hi, hbk, hlo⟩
                    have hr3 := (hr2.move (c' := c') (by show c.num = cc.num; exact E.num.symm) hback).up
                    have hlive : ∀ i, i ≠ id → c'.live i → c.live i := fun i hi ⟨b', hb', hn'⟩ => ⟨b', by rw [← show c'.hp i = c.hp i from hhp i hi]; exact hb', hn'⟩
                    have Kl : Ok c' g.nx := by
                      refine ⟨Nat.le_trans K.basele hbel.size, ?_, ?_, ?_, ?_, ?_⟩
                      · intro i ds ro hi
                        by_cases hie : i = id
                        · subst hie
                          rw [hhs] at hi; cases hi
                          rw [hls]
                          exact ⟨Nat.le_trans K.basele g1, vs', ty', g2, hr3, frzL_ones depth hfz g4⟩
                        · rw [show c'.hp i = c.hp i from hhp i hie] at hi
                          obtain ⟨k1, ws, wt, k2, k3, k4⟩ := K.cells i ds ro hi
                          rw [show c'.loc i = c.loc i from hloc i hie]
                          exact ⟨k1, ws, wt, by rw [← k2]; exact hbel.block _ (Array.getElem?_eq_some_iff.1 k2).1, k3.evo El, k4⟩
                      · intro i es hi
                        have hie : i ≠ id := fun hie => by subst hie; rw [hhs] at hi; cases hi
                        rw [show c'.hp i = c.hp i from hhp i hie] at hi
                        obtain ⟨k1, ms, cl, k2, k3, k4⟩ := K.maps i es hi
                        rw [show c'.loc i = c.loc i from hloc i hie]
                        exact ⟨k1, ms, cl, by rw [← k2]; exact hbel.block _ (Array.getElem?_eq_some_iff.1 k2).1, k3, fun j k v en hx hv => ⟨(k4 j k v en hx hv).1, (k4 j k v en hx hv).2.evo El⟩⟩
                      · intro i hi
                        have hie : i ≠ id := fun hie => by subst hie; rw [hhs] at hi; cases hi
                        rw [show c'.hp i = c.hp i from hhp i hie] at hi
                        obtain ⟨k1, ws, wt, k2⟩ := K.toks i hi
                        rw [show c'.loc i = c.loc i from hloc i hie]
                        exact ⟨k1, ws, wt, by rw [← k2]; exact hbel.block _ (Array.getElem?_eq_some_iff.1 k2).1⟩
                      · intro i j hij hi hj
                        by_cases hie : i = id
                        · have hje : j ≠ id := fun h => hij (hie.trans h.symm)
                          subst hie
                          have := K.lt (hlive j hje hj)
                          rw [hls, show c'.loc j = c.loc j from hloc j hje]
                          show (cc.loc b).1 ≠ _
                          omega
                        · by_cases hje : j = id
                          · subst hje
                            have := K.lt (hlive i hie hi)
                            rw [hls, show c'.loc i = c.loc i from hloc i hie]
                            show _ ≠ (cc.loc b).1
                            omega
                          · rw [show c'.loc i = c.loc i from hloc i hie, show c'.loc j = c.loc j from hloc j hje]
                            exact K.inj i j hij (hlive i hie hi) (hlive j hje hj)
                      · intro i hi
                        have hie : i ≠ id := by have hi' : g.nx ≤ i := hi; omega
                        rw [show c'.hp i = c.hp i from hhp i hie]
                        exact K.fresh i hi
                    refine ⟨val, rfl, hK c' val El Kl (by show upd c.hp id _ = upd g.hp id _; rw [hg]) ?_⟩
                    rw [hvp]
                    have := Rep.mp (c := c') id 0 (by rw [hhs]; rfl)
                    rw [hls] at this
                    exact this
                  · cases h
                · cases h
              · cases h
            · cases h
      · cases h
    · cases h1
  · cases ho
end
end Go.Ab
end
section
/- Regions, code, calls: a run of the abstract machine is a run of the program. -/
set_option linter.unusedVariables false
set_option linter.unusedSimpArgs false
namespace Go.Ab
open Go.RowKit
section
variable {P : Program} {a : Act} {c : Cx} {e : Env} {g : G} {al : Nat → Bool} {lo id : Nat} {r : AV × G} {call : CS}

theorem op_sim {o : Oper} {ao : AOp} (hcall : CallOk P c.num call) (he : EnvOk c e a) (K : Ok c g.nx) (hg : c.hp = g.hp) (hid : c.hp id = none) (hlt : id < g.nx) (ho : opB P c.num o.op ao = true) (h : opE call al lo id ao e g = some r) : DoesWp P o a c r := by
  cases ao with
  | mv x => exact (s_mv he K hg ho h).wp
  | pick x y z => exact (s_pick he K hg ho h).wp
  | new z => exact (s_new he K hg hid hlt ho h).wp
  | box x => exact (s_box he K hg hid hlt ho h).wp
  | boxI x => exact (s_boxI he K hg ho h).wp
  | build z ps => exact (s_build he K hg ho h).wp
  | bsl imm n z ps => exact (s_bsl he K hg hid hlt ho h).wp
  | ld agg x => exact (s_ld he K hg ho h).wp
  | st n x y => exact (s_st he K hg ho h).wp
  | stL n x y => exact (s_stL he K hg ho h).wp
  | nilck x => exact (s_nilck he K hg ho h).wp
  | bin op x y => exact (s_bin he K hg ho h).wp
  | eqb neg x y => exact (s_eqb he K hg ho h).wp
  | eqn neg x y => exact (s_eqn he K hg ho h).wp
  | eqa neg ks x y => exact (s_eqa he K hg ho h).wp
  | un op x => exact (s_un he K hg ho h).wp
  | conv k x => exact (s_conv he K hg ho h).wp
  | mkfn f a b => exact (s_mkfn he K hg ho h).wp
  | mkmap => exact (s_mkmap K hg hid hlt ho h).wp
  | mput m k v => exact (s_mput he K hg ho h).wp
  | mget m k => exact (s_mget he K hg ho h).wp
  | mksl z esz b l cp => exact (s_mksl he K hg hid hlt ho h).wp
  | slice esz x l hh m => exact (s_slice he K hg ho h).wp
  | sslice x l hh => exact (s_sslice he K hg ho h).wp
  | fa off x => exact (s_fa he K hg ho h).wp
  | fld off agg x => exact (s_fld he K hg ho h).wp
  | ia esz x i => exact (s_ia he K hg ho h).wp
  | iaa len esz x i => exact (s_iaa he K hg ho h).wp
  | idx len esz agg x i => exact (s_idx he K hg ho h).wp
  | sidx x i => exact (s_sidx he K hg ho h).wp
  | ext i x => exact (s_ext he K hg ho h).wp
  | len x => exact (s_len he K hg ho h).wp
  | slen x => exact (s_slen he K hg ho h).wp
  | mx x y => exact (s_mx he K hg ho h).wp
  | mn x y => exact (s_mn he K hg ho h).wp
  | app esz b x y => exact (s_app he K hg hid hlt ho h).wp
  | call m f args => exact s_call hcall he K hg hid hlt ho h
end

/-! ### what an operation leaves unfilled -/
def Keep (g g' : G) (id : Nat) : Prop := g.nx ≤ g'.nx ∧ ∀ i, i < g.nx → i ≠ id → g.hp i = none → g'.hp i = none
theorem keep_refl (g : G) (id : Nat) : Keep g g id := ⟨Nat.le_refl _, fun _ _ _ h => h⟩
theorem keep_upd (g : G) (id : Nat) (b : Option Blk) : Keep g ⟨upd g.hp id b, g.nx⟩ id := ⟨Nat.le_refl _, fun i _ hi h => by show upd _ _ _ _ = _; rw [upd, if_neg hi]; exact h⟩
theorem keep_old {g : G} {id j : Nat} {b b' : Blk} (hj : g.hp j = some b) : Keep g ⟨upd g.hp j (some b'), g.nx⟩ id := ⟨Nat.le_refl _, fun i _ hi h => by
  show upd _ _ _ _ = _
  by_cases hij : i = j
  · subst hij; rw [hj] at h; cases h
  · rw [upd, if_neg hij]; exact h⟩
theorem rd_g {g : G} {al : Nat → Bool} {i : Nat} {b : Blk} (h : rd g al i = some b) : g.hp i = some b := by
  unfold rd at h; split at h
  · exact h
  · cases h
theorem keep_map {g : G} {id : Nat} {o : Option AV} {r : AV × G} (h : vMap g o = some r) : Keep g r.2 id := by
  cases o with
  | none => cases h
  | some v => cases h; exact keep_refl _ _
theorem keep_mapL {g : G} {id : Nat} {f} {o : Option (List AV)} {r : AV × G} (h : vMapL f g o = some r) : Keep g r.2 id := by
  cases o with
  | none => cases h
  | some v => cases h; exact keep_refl _ _
def CallKeep (call : CS) : Prop := ∀ f asx g v g', call f asx g = some (v, g') → g.nx ≤ g'.nx ∧ ∀ i, i < g.nx → g.hp i = none → g'.hp i = none
theorem lock_none {hp : Nat → Option Blk} {ids : List Nat} {i : Nat} (h : hp i = none) : lock hp ids i = none := by
  rcases lock_cases hp ids i with h' | ⟨_, cs, ro, h1, _⟩
  · rw [h']; exact h
  · rw [h] at h1; cases h1
theorem opE_keep {call : CS} (hk : CallKeep call) {al : Nat → Bool} {lo id : Nat} {ao : AOp} {e : Env} {g : G} {r : AV × G} (h : opE call al lo id ao e g = some r) : Keep g r.2 id := by
  have kst : ∀ {al' n x y}, vSt al' n x y g = some r → Keep g r.2 id := by
    intro al' n x y h
    unfold vSt at h
    split at h
    · split at h
      · rename_i hb
        split at h
        · cases h; exact keep_old (rd_g hb)
        · cases h
      · cases h
    · cases h
  cases ao <;> simp only [opE] at h
  case mv => cases h; exact keep_refl _ _
  case pick => unfold vPick at h; split at h <;> first | (cases h; exact keep_refl _ _) | cases h
  case new => cases h; exact keep_upd _ _ _
  case box => unfold vBox at h; split at h <;> first | (cases h; exact keep_upd _ _ _) | cases h
  case boxI => unfold vBoxI at h; split at h <;> first | exact keep_mapL h | cases h
  case build => exact keep_mapL h
  case bsl =>
    unfold vBsl at h
    split at h
    · cases h
    · split at h
      · exact keep_mapL h
      · cases h; exact keep_upd _ _ _
  case ld =>
    unfold vLd at h
    split at h
    · exact keep_map h
    · split at h
      · exact keep_map h
      · cases h
    · cases h
  case st => exact kst h
  case stL => exact kst h
  case nilck => unfold vNil at h; split at h <;> first | (cases h; exact keep_refl _ _) | cases h
  case bin => exact keep_map h
  case eqb => exact keep_map h
  case eqn => exact keep_map h
  case eqa => exact keep_map h
  case un => exact keep_map h
  case conv => unfold vConv at h; split at h <;> first | (cases h; exact keep_refl _ _) | cases h
  case mkfn => cases h; exact keep_refl _ _
  case mkmap => cases h; exact keep_upd _ _ _
  case mput =>
    unfold vMput at h
    split at h
    · split at h
      · rename_i hb
        split at h
        · split at h
          · cases h; exact keep_old (rd_g hb)
          · cases h
        · cases h
      · cases h
    · cases h
  case mget =>
    unfold vMget at h
    split at h
    · split at h
      · exact keep_map h
      · cases h
    · cases h
  case mksl =>
    unfold vMksl at h
    split at h
    · split at h
      · split at h
        · cases h; exact keep_upd _ _ _
        · split at h
          · cases h; exact keep_upd _ _ _
          · cases h
      · cases h
    · cases h
  case slice =>
    unfold vSlice at h
    split at h
    · split at h
      · split at h <;> first | (cases h; exact keep_refl _ _) | cases h
      · split at h <;> first | (cases h; exact keep_refl _ _) | cases h
      · cases h
    · cases h
  case sslice =>
    unfold vSslice at h
    split at h
    · split at h
      · split at h <;> first | (cases h; exact keep_refl _ _) | cases h
      · cases h
    · cases h
  case fa =>
    unfold vFa at h
    split at h
    · split at h <;> first | (cases h; exact keep_refl _ _) | cases h
    · cases h; exact keep_refl _ _
    · cases h
  case fld => unfold vFld at h; split at h <;> first | exact keep_map h | cases h
  case ia =>
    unfold vIa at h
    split at h
    · split at h <;> first | (cases h; exact keep_refl _ _) | cases h
    · split at h <;> first | (cases h; exact keep_refl _ _) | cases h
    · cases h
  case iaa =>
    unfold vIaa at h
    split at h
    · split at h <;> first | (cases h; exact keep_refl _ _) | cases h
    · split at h <;> first | (cases h; exact keep_refl _ _) | cases h
    · cases h
  case idx =>
    unfold vIdx at h
    split at h
    · split at h <;> first | exact keep_map h | cases h
    · cases h
  case sidx =>
    unfold vSidx at h
    split at h
    · split at h <;> first | (cases h; exact keep_refl _ _) | cases h
    · cases h
  case ext => unfold vExt at h; split at h <;> first | exact keep_map h | cases h
  case len => unfold vLen at h; split at h <;> first | (cases h; exact keep_refl _ _) | cases h
  case slen => unfold vSlen at h; split at h <;> first | (cases h; exact keep_refl _ _) | cases h
  case mx => unfold vMx at h; split at h <;> first | (cases h; exact keep_refl _ _) | cases h
  case mn => unfold vMn at h; split at h <;> first | (cases h; exact keep_refl _ _) | cases h
  case app =>
    unfold vApp at h
    split at h
    · split at h
      · cases h
      · split at h
        · split at h
          · cases h
          · split at h
            · cases h; exact keep_refl _ _
            · cases h; exact keep_upd _ _ _
          · split at h
            · rename_i htk
              split at h
              · cases h
                refine ⟨Nat.le_refl _, fun i _ hi hn => ?_⟩
                show upd _ _ _ _ = _
                rw [upd, if_neg hi, upd]
                split
                · rename_i hit; subst hit; rw [rd_g htk] at hn; cases hn
                · exact hn
              · cases h
            · cases h
        · cases h
    · cases h
  case call =>
    rename_i m f args
    unfold vCall at h
    split at h
    · cases m with
      | raw =>
        obtain ⟨h1, h2⟩ := hk _ _ _ r.1 r.2 h
        exact ⟨h1, fun i hi _ hn => h2 i hi hn⟩
      | pure =>
        simp only at h
        split at h
        · cases h
        · split at h
          · cases h
          · split at h
            · cases h
            · split at h <;> first | (cases h; exact keep_refl _ _) | cases h
      | lock =>
        simp only at h
        split at h
        · cases h
        · split at h
          · cases h
          · split at h
            · cases h
            · cases h
              exact ⟨Nat.le_refl _, fun i _ _ hn => lock_none hn⟩
      | thaw =>
        simp only at h
        split at h
        · cases h
        · split at h
          · split at h
            · split at h
              · split at h <;> first | (cases h; exact keep_upd _ _ _) | cases h
              · cases h
            · cases h
          · cases h
    · cases h
end Go.Ab
end
section
/- Regions in the order of their text. -/
set_option linter.unusedVariables false
set_option linter.unusedSimpArgs false
namespace Go.Ab
open Go.RowKit

def dstB (N : Nat) : Option Nat → Bool
  | none => true
  | some d => decide (d < N)
def grdB (N : Nat) (ops : Array Oper) : Option (Nat × Bool) → Option (Nat × Bool) → Bool
  | none, none => true
  | some (j, w), some (t, w') => ((ops[j]?).bind (·.dst) == some t) && (w == w') && decide (t < N)
  | _, _ => false
def operB (P : Program) (nm : Nat → Nat) (N : Nat) (ops : Array Oper) (o : Oper) (ao : AOper) : Bool :=
  opB P nm o.op ao.op && (ao.dst == o.dst) && dstB N o.dst && grdB N ops o.guard ao.grd
def opersB (P : Program) (nm : Nat → Nat) (N : Nat) (ops : Array Oper) : List Oper → List AOper → Bool
  | [], [] => true
  | o :: os, ao :: aos => operB P nm N ops o ao && opersB P nm N ops os aos
  | _, _ => false

structure St (N : Nat) (c : Cx) (e : Env) (g : G) (a : Act) : Prop where
  env : EnvOk c e a
  ok : Ok c g.nx
  hp : c.hp = g.hp
  size : N ≤ a.tmps.size
  defers : a.defers = []

theorem put_size (a : Act) (d : Option Nat) (v : Value) : (a.put d v).tmps.size = a.tmps.size := by cases d <;> simp [Act.put]
theorem put_defers' (a : Act) (d : Option Nat) (v : Value) : (a.put d v).defers = a.defers := by cases d <;> rfl
theorem EnvOk.put {c : Cx} {e : Env} {a : Act} (h : EnvOk c e a) {d : Option Nat} {x : AV} {v : Value} (hd : dstB a.tmps.size d = true) (hr : Rep c true x v) : EnvOk c (Ab.put e d x) (a.put d v) := by
  intro t
  cases d with
  | none => exact h t
  | some d =>
    simp only [dstB, decide_eq_true_eq] at hd
    simp only [Ab.put, upd, Act.put]
    by_cases ht : t = d
    · subst ht
      rw [if_pos rfl]
      simpa [Array.getD_eq_getD_getElem?, Array.getElem?_setIfInBounds_self_of_lt hd] using hr
    · rw [if_neg ht]
      have := h t
      simp only [Array.getD_eq_getD_getElem?] at this ⊢
      rwa [Array.getElem?_setIfInBounds_ne (fun h => ht h.symm)]
theorem dstB_le {N M : Nat} (h : N ≤ M) {d : Option Nat} (hd : dstB N d = true) : dstB M d = true := by
  cases d with
  | none => rfl
  | some d => simp only [dstB, decide_eq_true_eq] at hd ⊢; omega
theorem St.step {N : Nat} {c c' : Cx} {e : Env} {g g' : G} {a : Act} (S : St N c e g a) (E : Evo c c') (K : Ok c' g'.nx) (hh : c'.hp = g'.hp) {d : Option Nat} {x : AV} {v : Value} (hd : dstB N d = true) (hr : Rep c' true x v) : St N c' (Ab.put e d x) g' (a.put d v) :=
  ⟨(S.env.evo E).put (dstB_le S.size hd) hr, K, hh, by rw [put_size]; exact S.size, by rw [put_defers']; exact S.defers⟩
theorem wanted_eq {N : Nat} {c : Cx} {e : Env} {g : G} {a : Act} (S : St N c e g a) {ops : Array Oper} {o : Oper} {grd : Option (Nat × Bool)} (h : grdB N ops o.guard grd = true) : wanted e grd = Region.wanted o (yielded ops a.tmps) := by
  unfold grdB at h
  unfold Region.wanted
  split at h
  · rename_i h1
    rw [h1]
    rfl
  · rename_i j w t w' h1
    rw [h1]
    simp only [Bool.and_eq_true, beq_iff_eq, decide_eq_true_eq] at h
    obtain ⟨⟨h2, rfl⟩, h3⟩ := h
    simp only [yielded, h2, Option.bind_some]
    have hr := S.env t
    have hlt : t < a.tmps.size := Nat.lt_of_lt_of_le h3 S.size
    rw [Array.getD_eq_getD_getElem?, Array.getElem?_eq_getElem hlt] at hr
    simp only [Option.getD_some] at hr
    rw [Array.getElem?_eq_getElem hlt]
    generalize a.tmps[t] = v at hr
    cases he : e t with
    | b x =>
      rw [he] at hr
      cases hr
      simp [wanted, he]
    | _ =>
      simp only [wanted, he]
      rw [he] at hr
      cases hr <;> simp [Go.undef]
  · cases h

/-- One operation, or none if its guard says no. -/
def opStep (call : CS) (draw : Bool) (base j : Nat) (o : AOper) (e : Env) (g : G) : Option (Env × G) :=
  if wanted e o.grd then
    match opE call (allow draw base o.pre) base (base + j) o.op e g with
    | some (v, g') => some (put e o.dst v, g')
    | none => none
  else some (put e o.dst .undef, g)
theorem regE_step (call : CS) (draw : Bool) (base j : Nat) (o : AOper) (os : List AOper) (e : Env) (g : G) : regE call draw base j (o :: os) e g = (match opStep call draw base j o e g with | some (e', g') => regE call draw base (j + 1) os e' g' | none => none) := by
  simp only [regE, opStep]
  by_cases h : wanted e o.grd = true
  · rw [if_pos h, if_pos h]
    cases opE call (allow draw base o.pre) base (base + j) o.op e g with
    | none => rfl
    | some r => rfl
  · rw [if_neg h, if_neg h]

section
variable {P : Program} {call : CS} {N : Nat}
theorem opStep_wp {c : Cx} {e e' : Env} {g g' : G} {a : Act} (hcall : CallOk P c.num call) (S : St N c e g a) {ops : Array Oper} {j : Nat} {o : Oper} {ao : AOper} (hj : ops[j]? = some o) (ho : operB P c.num N ops o ao = true) {draw : Bool} {base : Nat}
    (hfree : g.hp (base + j) = none) (hlt : base + j < g.nx) (h : opStep call draw base j ao e g = some (e', g')) {K : Act → World → Prop} {Q : Exit → Act → World → Prop} (hK : ∀ c' a', Evo c c' → St N c' e' g' a' → K a' c'.w) : wpOp P ops Q j K a c.w := by
  simp only [operB, Bool.and_eq_true, beq_iff_eq] at ho
  obtain ⟨⟨⟨h1, h2⟩, h3⟩, h4⟩ := ho
  have hw := wanted_eq S h4
  unfold wpOp
  rw [hj]
  simp only
  unfold opStep at h
  by_cases hwt : wanted e ao.grd = true
  · rw [if_pos hwt] at h
    rw [← hw, if_pos hwt]
    split at h
    · rename_i v g1 hop
      cases h
      refine .inl (op_sim hcall S.env S.ok S.hp (by rw [S.hp]; exact hfree) hlt h1 hop K Q (fun c' val E Kk hh hr => ?_))
      have hd : dstB N ao.dst = true := by rw [h2]; exact h3
      have := hK c' _ E (S.step E Kk hh hd hr)
      rwa [h2] at this
    · cases h
  · rw [if_neg hwt] at h
    cases h
    have hwf : wanted e ao.grd = false := by simpa using hwt
    rw [← hw, hwf]
    simp only [Bool.false_eq_true, if_false]
    have hd : dstB N ao.dst = true := by rw [h2]; exact h3
    have := hK c _ (Evo.refl c) (S.step (Evo.refl c) S.ok S.hp hd .undef)
    rwa [h2] at this

theorem opStep_keep (hk : CallKeep call) {draw : Bool} {base j : Nat} {o : AOper} {e e' : Env} {g g' : G} (h : opStep call draw base j o e g = some (e', g')) : Keep g g' (base + j) := by
  unfold opStep at h
  split at h
  · split at h
    · rename_i hop
      cases h
      exact opE_keep hk hop
    · cases h
  · cases h
    exact keep_refl _ _

theorem reg_wp {num : Nat → Nat} (hcall : CallOk P num call) (hk : CallKeep call) {ops : Array Oper} {Q : Exit → Act → World → Prop} {draw : Bool} {base n : Nat} {e' : Env} {g' : G} : ∀ (os : List Oper) (aos : List AOper) (j : Nat) {c : Cx} {e : Env} {g : G} {a : Act}, c.num = num → (∀ i o, os[i]? = some o → ops[j + i]? = some o) → opersB P num N ops os aos = true → j + os.length = n →
    St N c e g a → base + n ≤ g.nx → (∀ i, j ≤ i → i < n → g.hp (base + i) = none) → regE call draw base j aos e g = some (e', g') → (∀ c' a', Evo c c' → St N c' e' g' a' → Q .normal a' c'.w) → wpOps P ops Q (List.range' j os.length) a c.w
  | [], [], j, c, e, g, a, _, _, _, _, S, _, _, h, hQ => by
    simp only [regE] at h
    cases h
    exact hQ c a (Evo.refl c) S
  | [], _ :: _, _, _, _, _, _, _, _, h, _, _, _, _, _, _ => by simp [opersB] at h
  | _ :: _, [], _, _, _, _, _, _, _, h, _, _, _, _, _, _ => by simp [opersB] at h
  | o :: os, ao :: aos, j, c, e, g, a, hnum, hops, hb, hn, S, hnx, hfree, h, hQ => by
    simp only [opersB, Bool.and_eq_true] at hb
    rw [regE_step] at h
    simp only [List.length_cons] at hn
    rw [List.length_cons, List.range'_succ, wpOps_cons]
    split at h
    · rename_i e1 g1 hst
      have hkp := opStep_keep hk hst
      refine opStep_wp (hnum ▸ hcall) S (by simpa using hops 0 o rfl) (hnum ▸ hb.1) (hfree j (Nat.le_refl _) (by omega)) (by omega) hst (fun c1 a1 E1 S1 => ?_)
      exact reg_wp hcall hk os aos (j + 1) (E1.num.trans hnum) (fun i o' hi => by have := hops (i + 1) o' (by simpa using hi); rwa [show j + (i + 1) = j + 1 + i by omega] at this) hb.2 (by omega) S1 (Nat.le_trans hnx hkp.1)
        (fun i h1 h2 => hkp.2 _ (by omega) (by omega) (hfree i (by omega) h2)) h (fun c' a' E' S' => hQ c' a' (E1.trans E') S')
    · cases h
end
end Go.Ab
end
section
/- What an operation looks at, and what it turns: two that do not meet change places. -/
set_option linter.unusedVariables false
set_option linter.unusedSimpArgs false
namespace Go.Ab

def Opd.names : Opd → List Nat
  | .t n => [n]
  | .c _ => []
def onames : Option Opd → List Nat
  | some x => x.names
  | none => []
def pnames (ps : List (Nat × Nat × Opd)) : List Nat := ps.flatMap fun p => p.2.2.names
def AOp.names : AOp → List Nat
  | .mv x | .box x | .boxI x | .ld _ x | .nilck x | .un _ x | .conv _ x | .fa _ x | .fld _ _ x | .ext _ x | .len x | .slen x => x.names
  | .pick x y z | .mput x y z => x.names ++ y.names ++ z.names
  | .new _ | .mkmap => []
  | .build _ ps | .bsl _ _ _ ps => pnames ps
  | .st _ x y | .stL _ x y | .bin _ x y | .eqb _ x y | .eqn _ x y | .eqa _ _ x y | .mget x y | .mksl _ _ _ x y | .ia _ x y | .iaa _ _ x y | .idx _ _ _ x y | .sidx x y | .mx x y | .mn x y | .app _ _ x y => x.names ++ y.names
  | .mkfn _ a b => a.flatMap (·.names) ++ b.flatMap (·.names)
  | .slice _ x l h m => x.names ++ onames l ++ onames h ++ onames m
  | .sslice x l h => x.names ++ onames l ++ onames h
  | .call _ f asx => f.names ++ asx.flatMap (·.names)

theorem ev_congr {e e' : Env} {x : Opd} (h : ∀ t ∈ x.names, e' t = e t) : x.ev e' = x.ev e := by
  cases x with
  | t n => exact h n (by simp [Opd.names])
  | c v => rfl
theorem evo_congr {e e' : Env} {x : Option Opd} (h : ∀ t ∈ onames x, e' t = e t) : evo e' x = evo e x := by
  cases x with
  | none => rfl
  | some x => exact congrArg some (ev_congr h)
theorem evl_congr {e e' : Env} : ∀ {xs : List Opd}, (∀ t ∈ xs.flatMap (·.names), e' t = e t) → xs.map (·.ev e') = xs.map (·.ev e)
  | [], _ => rfl
  | x :: xs, h => by
    rw [List.map_cons, List.map_cons, ev_congr (fun t ht => h t (by simp [ht])), evl_congr (xs := xs) (fun t ht => h t (by rw [List.flatMap_cons]; exact List.mem_append_right _ ht))]
theorem fill_congr {e e' : Env} : ∀ {ps : List (Nat × Nat × Opd)} {cs : List AV}, (∀ t ∈ pnames ps, e' t = e t) → fill e' cs ps = fill e cs ps
  | [], _, _ => rfl
  | (off, n, x) :: ps, cs, h => by
    have hx : x.ev e' = x.ev e := ev_congr (fun t ht => h t (by simp [pnames, ht]))
    simp only [fill, hx]
    split
    · exact fill_congr (ps := ps) (fun t ht => h t (by
        unfold pnames at ht ⊢
        rw [List.flatMap_cons]
        exact List.mem_append_right _ ht))
    · rfl
theorem opE_congr {call : CS} {al : Nat → Bool} {lo id : Nat} {op : AOp} {e e' : Env} (h : ∀ t ∈ op.names, e' t = e t) (g : G) : opE call al lo id op e' g = opE call al lo id op e g := by
  have l1 : ∀ {x : Opd} {ns : List Nat}, (∀ t ∈ x.names ++ ns, e' t = e t) → x.ev e' = x.ev e := fun h => ev_congr fun t ht => h t (List.mem_append_left _ ht)
  cases op <;> simp only [AOp.names] at h <;> simp only [opE]
  case mv => rw [ev_congr h]
  case pick => rw [ev_congr fun t ht => h t (by simp [ht]), ev_congr fun t ht => h t (by simp [ht]), ev_congr fun t ht => h t (by simp [ht])]
  case box => rw [ev_congr h]
  case boxI => rw [ev_congr h]
  case build => rw [fill_congr h]
  case bsl => rw [fill_congr h]
  case ld => rw [ev_congr h]
  case st => rw [ev_congr fun t ht => h t (by simp [ht]), ev_congr fun t ht => h t (by simp [ht])]
  case stL => rw [ev_congr fun t ht => h t (by simp [ht]), ev_congr fun t ht => h t (by simp [ht])]
  case nilck => rw [ev_congr h]
  case bin => rw [ev_congr fun t ht => h t (by simp [ht]), ev_congr fun t ht => h t (by simp [ht])]
  case eqb => rw [ev_congr fun t ht => h t (by simp [ht]), ev_congr fun t ht => h t (by simp [ht])]
  case eqn => rw [ev_congr fun t ht => h t (by simp [ht]), ev_congr fun t ht => h t (by simp [ht])]
  case eqa => rw [ev_congr fun t ht => h t (by simp [ht]), ev_congr fun t ht => h t (by simp [ht])]
  case un => rw [ev_congr h]
  case conv => rw [ev_congr h]
  case mkfn => rw [evl_congr fun t ht => h t (List.mem_append_left _ ht), evl_congr fun t ht => h t (List.mem_append_right _ ht)]
  case mput => rw [ev_congr fun t ht => h t (by simp [ht]), ev_congr fun t ht => h t (by simp [ht]), ev_congr fun t ht => h t (by simp [ht])]
  case mget => rw [ev_congr fun t ht => h t (by simp [ht]), ev_congr fun t ht => h t (by simp [ht])]
  case mksl => rw [ev_congr fun t ht => h t (by simp [ht]), ev_congr fun t ht => h t (by simp [ht])]
  case slice => rw [ev_congr fun t ht => h t (by simp [ht]), evo_congr fun t ht => h t (by simp [ht]), evo_congr fun t ht => h t (by simp [ht]), evo_congr fun t ht => h t (by simp [ht])]
  case sslice => rw [ev_congr fun t ht => h t (by simp [ht]), evo_congr fun t ht => h t (by simp [ht]), evo_congr fun t ht => h t (by simp [ht])]
  case fa => rw [ev_congr h]
  case fld => rw [ev_congr h]
  case ia => rw [ev_congr fun t ht => h t (by simp [ht]), ev_congr fun t ht => h t (by simp [ht])]
  case iaa => rw [ev_congr fun t ht => h t (by simp [ht]), ev_congr fun t ht => h t (by simp [ht])]
  case idx => rw [ev_congr fun t ht => h t (by simp [ht]), ev_congr fun t ht => h t (by simp [ht])]
  case sidx => rw [ev_congr fun t ht => h t (by simp [ht]), ev_congr fun t ht => h t (by simp [ht])]
  case ext => rw [ev_congr h]
  case len => rw [ev_congr h]
  case slen => rw [ev_congr h]
  case mx => rw [ev_congr fun t ht => h t (by simp [ht]), ev_congr fun t ht => h t (by simp [ht])]
  case mn => rw [ev_congr fun t ht => h t (by simp [ht]), ev_congr fun t ht => h t (by simp [ht])]
  case app => rw [ev_congr fun t ht => h t (by simp [ht]), ev_congr fun t ht => h t (by simp [ht])]
  case call => rw [l1 h, evl_congr fun t ht => h t (List.mem_append_right _ ht)]

/-! ### classes -/
inductive Cls where
  | p | r | a | t | s | x
  deriving DecidableEq
def cls : AOp → Cls
  | .ld _ _ | .mget _ _ | .call .pure _ _ => .r
  | .new _ | .box _ | .bsl false _ _ _ | .mkmap | .mksl _ _ _ _ _ | .call .thaw _ _ => .a
  | .app _ _ _ _ => .t
  | .stL _ _ _ => .s
  | .st _ _ _ | .mput _ _ _ | .call .raw _ _ | .call .lock _ _ => .x
  | _ => .p
/-- Cells, or a map. -/
def CM : Option Blk → Prop
  | some (.cells _ _) | some (.map _) => True
  | _ => False
def isT : Option Blk → Prop
  | some (.tok true) => True
  | _ => False
/-- What is looked at, by class. -/
def Rd (c : Cls) (al : Nat → Bool) (lo : Nat) (g : G) (i : Nat) : Prop := match c with
  | .p => False
  | .r | .a => al i = true ∧ CM (g.hp i)
  | .t => al i = true ∧ (CM (g.hp i) ∨ isT (g.hp i))
  | .s => lo ≤ i ∧ al i = true ∧ CM (g.hp i)
  | .x => True
def Wr (c : Cls) (al : Nat → Bool) (lo id : Nat) (g : G) (i : Nat) : Prop := match c with
  | .p | .r => False
  | .a => i = id
  | .t => i = id ∨ (al i = true ∧ isT (g.hp i))
  | .s => lo ≤ i ∧ al i = true ∧ CM (g.hp i)
  | .x => True

open Classical in
structure Foot (call : CS) (al : Nat → Bool) (lo id : Nat) (op : AOp) (e : Env) (g : G) (v : AV) (g1 : G) : Prop where
  nx : g1.nx = g.nx
  kind : ∀ i, i ≠ id → CM (g1.hp i) → CM (g.hp i)
  foot : ∃ W : Nat → Prop, (∀ i, W i → Wr (cls op) al lo id g i) ∧ (∀ i, ¬ W i → g1.hp i = g.hp i) ∧
    ∀ g' : G, (∀ i, Rd (cls op) al lo g i → g'.hp i = g.hp i) → opE call al lo id op e g' = some (v, ⟨fun i => if W i then g1.hp i else g'.hp i, g'.nx⟩)

theorem foot_none {call : CS} {al : Nat → Bool} {lo id : Nat} {op : AOp} {e : Env} {g : G} {v : AV} (h : ∀ g' : G, (∀ i, Rd (cls op) al lo g i → g'.hp i = g.hp i) → opE call al lo id op e g' = some (v, g')) : Foot call al lo id op e g v g :=
  ⟨rfl, fun _ _ h => h, fun _ => False, fun _ h => h.elim, fun _ _ => rfl, fun g' hg' => by
    rw [h g' hg']
    congr 2
    simp⟩
theorem foot_new {call : CS} {al : Nat → Bool} {lo id : Nat} {op : AOp} {e : Env} {g : G} {v : AV} {b : Blk} (hw : Wr (cls op) al lo id g id) (h : ∀ g' : G, (∀ i, Rd (cls op) al lo g i → g'.hp i = g.hp i) → opE call al lo id op e g' = some (v, ⟨upd g'.hp id (some b), g'.nx⟩)) : Foot call al lo id op e g v ⟨upd g.hp id (some b), g.nx⟩ :=
  ⟨rfl, fun i hi h => by
    have h : CM (upd g.hp id (some b) i) := h
    rwa [upd, if_neg hi] at h, fun i => i = id, fun i hi => by subst hi; exact hw, fun i hi => by show upd _ _ _ _ = _; rw [upd, if_neg hi], fun g' hg' => by
    rw [h g' hg']
    congr 3
    funext i
    by_cases hi : i = id
    · subst hi; simp [upd]
    · simp [upd, hi]⟩

mutual
theorem frz_agree {hp hp' : Nat → Option Blk} (h : ∀ i, CM (hp i) → hp' i = hp i) : ∀ (k : Nat) {x y : AV}, frz hp k x = some y → frz hp' k x = some y ∧ vis hp' k x = vis hp k x
  | 0, _, _, hf => by simp [frz] at hf
  | k + 1, x, y, hf => by
    cases x with
    | agg cs =>
      simp only [frz] at hf
      cases hc : frzL hp k cs with
      | none => rw [hc] at hf; cases hf
      | some ds => rw [hc] at hf; obtain ⟨h1, h2⟩ := frzL_agree h k hc; exact ⟨by simp only [frz, h1]; exact hf, by simp only [vis, h2]⟩
    | tup cs =>
      simp only [frz] at hf
      cases hc : frzL hp k cs with
      | none => rw [hc] at hf; cases hf
      | some ds => rw [hc] at hf; obtain ⟨h1, h2⟩ := frzL_agree h k hc; exact ⟨by simp only [frz, h1]; exact hf, by simp only [vis, h2]⟩
    | fn f asx bs =>
      simp only [frz] at hf
      cases hc : frzL hp k asx with
      | none => rw [hc] at hf; cases hf
      | some ds =>
        cases hd : frzL hp k bs with
        | none => rw [hc, hd] at hf; cases hf
        | some es =>
          rw [hc, hd] at hf
          obtain ⟨h1, h2⟩ := frzL_agree h k hc
          obtain ⟨h3, h4⟩ := frzL_agree h k hd
          exact ⟨by simp only [frz, h1, h3]; exact hf, by simp only [vis, h2, h4]⟩
    | ifc t v =>
      simp only [frz] at hf
      cases hc : frz hp k v with
      | none => rw [hc] at hf; cases hf
      | some ds => rw [hc] at hf; obtain ⟨h1, h2⟩ := frz_agree h k hc; exact ⟨by simp only [frz, h1]; exact hf, by simp only [vis, h2]⟩
    | mp id off =>
      simp only [frz] at hf
      split at hf
      · rename_i cs ro hb
        have hb' : hp' id = some (.cells cs ro) := by rw [h id (by rw [hb]; trivial), hb]
        cases hc : frzL hp k (cs.drop off) with
        | none => rw [hc] at hf; cases hf
        | some ds =>
          rw [hc] at hf
          obtain ⟨h1, h2⟩ := frzL_agree h k hc
          exact ⟨by simp only [frz, hb', h1]; exact hf, by simp only [vis, hb', hb, h2]⟩
      · cases hf
    | ms id off n =>
      simp only [frz] at hf
      split at hf
      · rename_i cs ro hb
        have hb' : hp' id = some (.cells cs ro) := by rw [h id (by rw [hb]; trivial), hb]
        cases hc : frzL hp k (cs.drop off) with
        | none => rw [hc] at hf; cases hf
        | some ds =>
          rw [hc] at hf
          obtain ⟨h1, h2⟩ := frzL_agree h k hc
          exact ⟨by simp only [frz, hb', h1]; exact hf, by simp only [vis, hb', hb, h2]⟩
      · cases hf
    | mm id => simp [frz] at hf
    | undef => exact ⟨by simpa only [frz] using hf, by simp only [vis]⟩
    | b x => exact ⟨by simpa only [frz] using hf, by simp only [vis]⟩
    | i k n => exact ⟨by simpa only [frz] using hf, by simp only [vis]⟩
    | s x => exact ⟨by simpa only [frz] using hf, by simp only [vis]⟩
    | nilp => exact ⟨by simpa only [frz] using hf, by simp only [vis]⟩
    | nilf => exact ⟨by simpa only [frz] using hf, by simp only [vis]⟩
    | nili => exact ⟨by simpa only [frz] using hf, by simp only [vis]⟩
    | sl cs n t => exact ⟨by simpa only [frz] using hf, by simp only [vis]⟩
    | ptr cs => exact ⟨by simpa only [frz] using hf, by simp only [vis]⟩
theorem frzL_agree {hp hp' : Nat → Option Blk} (h : ∀ i, CM (hp i) → hp' i = hp i) : ∀ (k : Nat) {cs ds : List AV}, frzL hp k cs = some ds → frzL hp' k cs = some ds ∧ cs.flatMap (vis hp' k) = cs.flatMap (vis hp k)
  | k, [], ds, hf => ⟨by simpa only [frzL] using hf, rfl⟩
  | k, x :: cs, ds, hf => by
    simp only [frzL] at hf
    split at hf
    · rename_i hx hs
      obtain ⟨h1, h2⟩ := frz_agree h k hx
      obtain ⟨h3, h4⟩ := frzL_agree h k hs
      refine ⟨by simp only [frzL, h1, h3]; exact hf, ?_⟩
      rw [List.flatMap_cons, List.flatMap_cons, h2, h4]
    · cases hf
end

theorem rd_agree {al : Nat → Bool} {g g' : G} (h : ∀ i, (al i = true ∧ CM (g.hp i)) → g'.hp i = g.hp i) : ∀ i, CM (rd g al i) → rd g' al i = rd g al i := by
  intro i hi
  unfold rd at hi ⊢
  split at hi
  · rename_i ha
    rw [if_pos ha, if_pos ha]
    exact h i ⟨ha, hi⟩
  · cases hi
theorem rd_cells {al : Nat → Bool} {g g' : G} (h : ∀ i, (al i = true ∧ CM (g.hp i)) → g'.hp i = g.hp i) {i : Nat} {b : Blk} (hb : rd g al i = some b) (hc : CM (some b)) : rd g' al i = some b := by
  rw [rd_agree h i (by rw [hb]; exact hc), hb]

theorem vMap_any {g g' : G} {o : Option AV} {v : AV} {g1 : G} (h : vMap g o = some (v, g1)) : g1 = g ∧ vMap g' o = some (v, g') := by
  cases o with
  | none => cases h
  | some x => cases h; exact ⟨rfl, rfl⟩
theorem vMapL_any {g g' : G} {f} {o : Option (List AV)} {v : AV} {g1 : G} (h : vMapL f g o = some (v, g1)) : g1 = g ∧ vMapL f g' o = some (v, g') := by
  cases o with
  | none => cases h
  | some x => cases h; exact ⟨rfl, rfl⟩


def Any (f : G → Option (AV × G)) : Prop := ∀ g v g1, f g = some (v, g1) → g1 = g ∧ ∀ g', f g' = some (v, g')
theorem any_pick (c a b : AV) : Any (vPick c a b) := by
  intro g v g1 h; cases c <;> simp only [vPick] at h <;> first | (cases h; done) | (cases h; exact ⟨rfl, fun _ => rfl⟩)
theorem any_map (o : Option AV) : Any fun g => vMap g o := by
  intro g v g1 h; cases o <;> simp only [vMap] at h <;> first | (cases h; done) | (cases h; exact ⟨rfl, fun _ => rfl⟩)
theorem any_mapL (f) (o : Option (List AV)) : Any fun g => vMapL f g o := by
  intro g v g1 h; cases o <;> simp only [vMapL] at h <;> first | (cases h; done) | (cases h; exact ⟨rfl, fun _ => rfl⟩)
theorem any_some (x : AV) : Any fun g => some (x, g) := by intro g v g1 h; cases h; exact ⟨rfl, fun _ => rfl⟩
theorem any_none : Any fun _ => none := by intro g v g1 h; cases h
theorem any_ite (c : Prop) [Decidable c] {f k : G → Option (AV × G)} (h1 : Any f) (h2 : Any k) : Any fun g => if c then f g else k g := by
  by_cases h : c
  · simpa only [if_pos h] using h1
  · simpa only [if_neg h] using h2
theorem any_boxI (x : AV) : Any (vBoxI x) := by unfold vBoxI; exact any_ite _ (any_mapL _ _) any_none
theorem any_bslI (id n : Nat) (o : Option (List AV)) : Any (vBsl id true n o) := by
  cases o with
  | none => exact any_none
  | some cs => exact any_mapL _ _
theorem any_nil (x : AV) : Any (vNil x) := by cases x <;> first | exact any_none | exact any_some _
theorem any_conv (k : IntKind) (x : AV) : Any (vConv k x) := by cases x <;> first | exact any_none | exact any_some _
theorem any_slice (esz : Nat) (x : AV) (l h m : Option AV) : Any (vSlice esz x l h m) := by
  cases x <;> first | exact any_none | skip
  rename_i cs n t
  show Any fun g => vSlice esz (.sl cs n t) l h m g
  simp only [vSlice]
  split <;> first | exact any_none | exact any_ite _ (any_some _) any_none
theorem any_sslice (x : AV) (l h : Option AV) : Any (vSslice x l h) := by
  cases x <;> first | exact any_none | skip
  rename_i s
  show Any fun g => vSslice (.s s) l h g
  simp only [vSslice]
  split <;> first | exact any_none | exact any_ite _ (any_some _) any_none
theorem any_fa (off : Nat) (x : AV) : Any (vFa off x) := by cases x <;> first | exact any_none | exact any_some _ | exact any_ite _ (any_some _) any_none
theorem any_fld (off : Nat) (agg) (x : AV) : Any (vFld off agg x) := by cases x <;> first | exact any_none | exact any_map _
theorem any_ia (esz : Nat) (x i : AV) : Any (vIa esz x i) := by
  cases x <;> cases i <;> first | exact any_none | exact any_ite _ (any_some _) any_none
theorem any_iaa (len esz : Nat) (x i : AV) : Any (vIaa len esz x i) := by
  cases x <;> cases i <;> first | exact any_none | exact any_ite _ (any_some _) any_none
theorem any_idx (len esz : Nat) (agg) (x i : AV) : Any (vIdx len esz agg x i) := by
  cases x <;> cases i <;> first | exact any_none | exact any_ite _ (any_map _) any_none
theorem any_sidx (x i : AV) : Any (vSidx x i) := by
  cases x <;> cases i <;> first | exact any_none | skip
  rename_i s k z
  show Any fun g => vSidx (.s s) (.i k z) g
  simp only [vSidx]
  split <;> first | exact any_none | exact any_some _
theorem any_ext (i : Nat) (x : AV) : Any (vExt i x) := by cases x <;> first | exact any_none | exact any_map _
theorem any_len (x : AV) : Any (vLen x) := by cases x <;> first | exact any_none | exact any_some _
theorem any_slen (x : AV) : Any (vSlen x) := by cases x <;> first | exact any_none | exact any_some _
theorem any_mx (x y : AV) : Any (vMx x y) := by cases x <;> cases y <;> first | exact any_none | exact any_some _
theorem any_mn (x y : AV) : Any (vMn x y) := by cases x <;> cases y <;> first | exact any_none | exact any_some _

section
variable {call : CS} {al : Nat → Bool} {lo id : Nat} {e : Env} {g : G} {v : AV} {g1 : G}

/-- What looks at no block at all. -/
theorem any_p {op : AOp} (hc : cls op = .p) : Any (opE call al lo id op e) := by
  cases op
  case mv => exact any_some _
  case pick => exact any_pick _ _ _
  case boxI => exact any_boxI _
  case build => exact any_mapL _ _
  case bsl imm n z ps =>
    cases imm with
    | false => cases hc
    | true => exact any_bslI _ _ _
  case nilck => exact any_nil _
  case bin => exact any_map _
  case eqb => exact any_map _
  case eqn => exact any_map _
  case eqa => exact any_map _
  case un => exact any_map _
  case conv => exact any_conv _ _
  case mkfn => exact any_some _
  case slice => exact any_slice _ _ _ _ _
  case sslice => exact any_sslice _ _ _
  case fa => exact any_fa _ _
  case fld => exact any_fld _ _ _
  case ia => exact any_ia _ _ _
  case iaa => exact any_iaa _ _ _ _
  case idx => exact any_idx _ _ _ _ _
  case sidx => exact any_sidx _ _
  case ext => exact any_ext _ _
  case len => exact any_len _
  case slen => exact any_slen _
  case mx => exact any_mx _ _
  case mn => exact any_mn _ _
  case call m f asx => cases m <;> cases hc
  all_goals cases hc
theorem foot_p {op : AOp} (hc : cls op = .p) (h : opE call al lo id op e g = some (v, g1)) : Foot call al lo id op e g v g1 := by
  obtain ⟨rfl, hk⟩ := any_p hc g v g1 h
  exact foot_none fun g' _ => hk g'

/-- What looks at blocks, and turns none. -/
theorem foot_r {op : AOp} (hc : cls op = .r) (h : opE call al lo id op e g = some (v, g1)) : Foot call al lo id op e g v g1 := by
  have key : g1 = g ∧ ∀ g' : G, (∀ i, Rd (cls op) al lo g i → g'.hp i = g.hp i) → opE call al lo id op e g' = some (v, g') := by
    rw [hc]
    cases op
    case ld agg x =>
      simp only [opE] at h ⊢
      unfold vLd at h ⊢
      split at h
      · rename_i cs hx
        obtain ⟨rfl, hk⟩ := any_map _ _ _ _ h
        exact ⟨rfl, fun g' _ => hk g'⟩
      · rename_i b off hx
        split at h
        · rename_i cs ro hb
          obtain ⟨rfl, hk⟩ := any_map _ _ _ _ h
          exact ⟨rfl, fun g' hg' => by simp only [rd_cells hg' hb trivial]; exact hk g'⟩
        · cases h
      · cases h
    case mget m k =>
      simp only [opE] at h ⊢
      unfold vMget at h ⊢
      split at h
      · rename_i b s hx hy
        split at h
        · rename_i es hb
          obtain ⟨rfl, hk⟩ := any_map _ _ _ _ h
          exact ⟨rfl, fun g' hg' => by simp only [rd_cells hg' hb trivial]; exact hk g'⟩
        · cases h
      · cases h
    case call m f asx =>
      cases m with
      | pure =>
        simp only [opE] at h ⊢
        unfold vCall at h ⊢
        split at h
        · rename_i fid fst caps hx
          simp only at h
          split at h
          · cases h
          · rename_i bs hbs
            split at h
            · cases h
            · rename_i v' g' hcr
              split at h
              · cases h
              · rename_i v2 hfz
                split at h
                · rename_i hcond
                  cases h
                  refine ⟨rfl, fun g'' hg' => ?_⟩
                  obtain ⟨h1, h2⟩ := frzL_agree (rd_agree hg') depth hbs
                  simp only [h1, hcr, hfz, h2, hcond, if_true]
                · cases h
        · cases h
      | lock => cases hc
      | thaw => cases hc
      | raw => cases hc
    case bsl imm n z ps => cases imm <;> cases hc
    all_goals cases hc
  obtain ⟨rfl, hk⟩ := key
  exact foot_none hk

/-- What fills its own slot. -/
theorem foot_a {op : AOp} (hc : cls op = .a) (h : opE call al lo id op e g = some (v, g1)) : Foot call al lo id op e g v g1 := by
  have hw : Wr (cls op) al lo id g id := by rw [hc]; rfl
  cases op
  case new z =>
    simp only [opE] at h; cases h
    exact foot_new hw fun g' _ => rfl
  case box x =>
    simp only [opE] at h
    unfold vBox at h
    split at h
    · rename_i hh
      cases h
      exact foot_new hw fun g' _ => by simp only [opE, vBox]; rw [if_pos hh]
    · cases h
  case bsl imm n z ps =>
    cases imm with
    | true => cases hc
    | false =>
      simp only [opE] at h
      unfold vBsl at h
      split at h
      · cases h
      · rename_i cs hf
        simp only [Bool.false_eq_true, if_false] at h
        cases h
        exact foot_new hw fun g' _ => by simp only [opE, vBsl, hf, Bool.false_eq_true, if_false]
  case mkmap =>
    simp only [opE] at h; cases h
    exact foot_new hw fun g' _ => rfl
  case mksl z esz b l cp =>
    simp only [opE] at h
    unfold vMksl at h
    split at h
    · rename_i n m hx hy
      split at h
      · rename_i h1
        split at h
        · rename_i h2
          cases h
          exact foot_new hw fun g' _ => by simp only [opE, vMksl, hx, hy]; rw [if_pos h1, if_pos h2]
        · rename_i h2
          split at h
          · rename_i h3
            cases h
            exact foot_new hw fun g' _ => by simp only [opE, vMksl, hx, hy]; rw [if_pos h1, if_neg h2, if_pos h3]
          · cases h
      · cases h
    · cases h
  case call m f asx =>
    cases m with
    | thaw =>
      simp only [opE] at h
      unfold vCall at h
      split at h
      · rename_i fid fst caps hx
        simp only at h
        split at h
        · cases h
        · rename_i bs hbs
          split at h
          · rename_i b g' hcr
            split at h
            · rename_i cs hb
              split at h
              · rename_i cs' hfz
                split at h
                · rename_i hcond
                  cases h
                  refine foot_new hw fun g'' hg' => ?_
                  rw [hc] at hg'
                  obtain ⟨h1, h2⟩ := frzL_agree (rd_agree hg') depth hbs
                  simp only [opE, vCall, hx, h1, hcr, hb, hfz, h2, hcond, if_true]
                · cases h
              · cases h
            · cases h
          · cases h
      · cases h
    | pure => cases hc
    | lock => cases hc
    | raw => cases hc
  all_goals cases hc

theorem vSrc_agree {esz : Nat} {y : AV} {g g' : G} {r : List AV × Nat} (h : ∀ i, (al i = true ∧ CM (g.hp i)) → g'.hp i = g.hp i) (hs : vSrc al esz y g = some r) : vSrc al esz y g' = some r := by
  unfold vSrc at hs ⊢
  cases y <;> simp only at hs ⊢ <;> first | exact hs | (cases hs; done) | skip
  split at hs
  · rename_i hb
    simp only [rd_cells h hb trivial]
    exact hs
  · cases hs
open Classical in
theorem foot_t {op : AOp} (hc : cls op = .t) (h : opE call al lo id op e g = some (v, g1)) : Foot call al lo id op e g v g1 := by
  cases op
  case app esz b x y =>
    simp only [opE] at h
    unfold vApp at h
    split at h
    · rename_i cs n tk hx
      split at h
      · cases h
      · rename_i ds m hsrc
        split at h
        · rename_i hcond
          have hsrc' : ∀ g' : G, (∀ i, Rd (cls (.app esz b x y)) al lo g i → g'.hp i = g.hp i) → vSrc al esz (y.ev e) g' = some (ds, m) := fun g' hg' => vSrc_agree (fun i hi => hg' i ⟨hi.1, .inl hi.2⟩) hsrc
          split at h
          · cases h
          · split at h
            · rename_i hm
              cases h
              exact foot_none fun g' hg' => by simp only [opE, vApp, hx, hsrc' g' hg', if_pos hcond, if_pos hm]
            · rename_i hm
              cases h
              exact foot_new (.inl rfl) fun g' hg' => by simp only [opE, vApp, hx, hsrc' g' hg', if_pos hcond, if_neg hm]
          · rename_i τ e'
            split at h
            · rename_i htk
              split at h
              · rename_i he'
                cases h
                have hal : al τ = true := by
                  unfold rd at htk; split at htk
                  · assumption
                  · cases htk
                have hhp := rd_g htk
                refine ⟨rfl, fun i hi h => ?_, fun i => i = id ∨ i = τ, fun i hi => ?_, fun i hi => ?_, fun g' hg' => ?_⟩
                · have h : CM (upd (upd g.hp τ (some (.tok false))) id (some (.tok true)) i) := h
                  rw [upd, if_neg hi] at h
                  by_cases h2 : i = τ
                  · subst h2; rw [upd, if_pos rfl] at h; exact h.elim
                  · rwa [upd, if_neg h2] at h
                · rcases hi with rfl | rfl
                  · exact .inl rfl
                  · exact .inr ⟨hal, by rw [hhp]; trivial⟩
                · show upd _ _ _ _ = _
                  rw [upd, if_neg (fun h => hi (.inl h)), upd, if_neg (fun h => hi (.inr h))]
                · have hrd : rd g' al τ = some (.tok true) := by
                    unfold rd; rw [if_pos hal, hg' τ ⟨hal, .inr (by rw [hhp]; trivial)⟩, hhp]
                  simp only [opE, vApp, hx, hsrc' g' hg', if_pos hcond, hrd, if_pos he']
                  congr 3
                  funext i
                  by_cases h1 : i = id
                  · subst h1; simp [upd]
                  · by_cases h2 : i = τ
                    · subst h2; simp [upd, h1]
                    · simp [upd, h1, h2]
              · cases h
            · cases h
        · cases h
    · cases h
  case bsl imm n z ps => cases imm <;> cases hc
  case call m f asx => cases m <;> cases hc
  all_goals cases hc
open Classical in
theorem foot_s {op : AOp} (hc : cls op = .s) (h : opE call al lo id op e g = some (v, g1)) : Foot call al lo id op e g v g1 := by
  cases op
  case stL n x y =>
    simp only [opE] at h
    unfold vSt at h
    split at h
    · rename_i b off hx
      split at h
      · rename_i cs hb
        split at h
        · rename_i hcond
          cases h
          have hal : lo ≤ b ∧ al b = true := by
            unfold rd at hb; split at hb
            · rename_i hh; simpa using hh
            · cases hb
          have hhp := rd_g hb
          refine ⟨rfl, fun i hi h => ?_, fun i => i = b, fun i hi => ?_, fun i hi => ?_, fun g' hg' => ?_⟩
          · by_cases h2 : i = b
            · subst h2; rw [hhp]; trivial
            · have h : CM (upd g.hp b _ i) := h
              rwa [upd, if_neg h2] at h
          · subst hi; exact ⟨hal.1, hal.2, by rw [hhp]; trivial⟩
          · show upd _ _ _ _ = _
            rw [upd, if_neg hi]
          · have hrd : rd g' (fun i => decide (lo ≤ i) && al i) b = some (.cells cs false) := by
              unfold rd; rw [if_pos (by simp [hal.1, hal.2]), hg' b ⟨hal.1, hal.2, by rw [hhp]; trivial⟩, hhp]
            simp only [opE, vSt, hx, hrd, if_pos hcond]
            congr 3
            funext i
            by_cases h1 : i = b
            · subst h1; simp [upd]
            · simp [upd, h1]
        · cases h
      · cases h
    · cases h
  case bsl imm n z ps => cases imm <;> cases hc
  case call m f asx => cases m <;> cases hc
  all_goals cases hc
theorem foot_all {op : AOp} (hc : cls op ≠ .x) (h : opE call al lo id op e g = some (v, g1)) : Foot call al lo id op e g v g1 := by
  cases hcl : cls op with
  | p => exact foot_p hcl h
  | r => exact foot_r hcl h
  | a => exact foot_a hcl h
  | t => exact foot_t hcl h
  | s => exact foot_s hcl h
  | x => exact absurd hcl hc
end
end Go.Ab
end
section
/- Regions in any order: two operations that do not meet change places, so each order answers asx the text's. -/
set_option linter.unusedVariables false
set_option linter.unusedSimpArgs false
namespace Go.Ab
open Go.RowKit

def gnames : Option (Nat × Bool) → List Nat
  | none => []
  | some (t, _) => [t]
def AOper.looks (o : AOper) : List Nat := gnames o.grd ++ o.op.names
def dnot (d : Option Nat) (l : List Nat) : Bool := match d with
  | none => true
  | some d => !l.contains d
def ddif (d d' : Option Nat) : Bool := match d, d' with
  | some a, some b => a != b
  | _, _ => true
def clsOk (k i : Nat) (x y : AOper) : Bool :=
  cls x.op == .p || cls y.op == .p || (cls x.op != .x && cls y.op != .x &&
   (!y.pre.contains k && !x.pre.contains i && (!(cls x.op == .s || cls y.op == .s) || x.pre.all (fun p => !y.pre.contains p)) && !(cls x.op == .t && cls y.op == .t)))
def swapB (k i : Nat) (x y : AOper) : Bool :=
  dnot x.dst y.looks && dnot y.dst x.looks && ddif x.dst y.dst && clsOk k i x y

theorem put_not {d : Option Nat} {l : List Nat} (h : dnot d l = true) (e : Env) (v : AV) : ∀ t ∈ l, put e d v t = e t := by
  intro t ht
  cases d with
  | none => rfl
  | some d =>
    simp only [dnot, Bool.not_eq_true', List.contains_eq_mem, decide_eq_false_iff_not] at h
    have : t ≠ d := fun h' => h (h' ▸ ht)
    simp only [put, upd, if_neg this]
theorem put_comm {d d' : Option Nat} (h : ddif d d' = true) (e : Env) (v u : AV) : put (put e d v) d' u = put (put e d' u) d v := by
  cases d with
  | none => cases d' <;> rfl
  | some d =>
    cases d' with
    | none => rfl
    | some d' =>
      simp only [ddif, bne_iff_ne, ne_eq] at h
      funext t
      simp only [put, upd]
      by_cases h1 : t = d'
      · subst h1; rw [if_pos rfl, if_neg (fun h2 => h h2.symm), if_pos rfl]
      · rw [if_neg h1]
        by_cases h2 : t = d
        · rw [if_pos h2, if_pos h2]
        · rw [if_neg h2, if_neg h2, if_neg h1]
theorem wanted_congr {e e' : Env} {grd : Option (Nat × Bool)} (h : ∀ t ∈ gnames grd, e' t = e t) : wanted e' grd = wanted e grd := by
  cases grd with
  | none => rfl
  | some p => obtain ⟨t, w⟩ := p; simp only [wanted]; rw [h t (by simp [gnames])]

def stepV (call : CS) (base j : Nat) (o : AOper) (e : Env) (g : G) : Option (AV × G) :=
  if wanted e o.grd then opE call (allow true base o.pre) base (base + j) o.op e g else some (.undef, g)
theorem opStep_V (call : CS) (base j : Nat) (o : AOper) (e : Env) (g : G) : opStep call true base j o e g = (stepV call base j o e g).map fun r => (put e o.dst r.1, r.2) := by
  unfold opStep stepV
  by_cases h : wanted e o.grd = true
  · rw [if_pos h, if_pos h]
    cases opE call (allow true base o.pre) base (base + j) o.op e g with
    | none => rfl
    | some r => rfl
  · rw [if_neg h, if_neg h]; rfl
theorem stepV_congr {call : CS} {base j : Nat} {o : AOper} {e e' : Env} (h : ∀ t ∈ o.looks, e' t = e t) (g : G) : stepV call base j o e' g = stepV call base j o e g := by
  unfold stepV
  rw [wanted_congr fun t ht => h t (List.mem_append_left _ ht), opE_congr fun t ht => h t (List.mem_append_right _ ht)]

theorem allow_slot {base k : Nat} {pre : List Nat} (h : allow true base pre (base + k) = true) : pre.contains k = true := by
  simp only [allow, Bool.not_true, Bool.false_or, Bool.or_eq_true, decide_eq_true_eq] at h
  rcases h with h | h
  · omega
  · simpa using h
theorem allow_ge {base k : Nat} {pre : List Nat} (h : allow true base pre k = true) (hk : base ≤ k) : pre.contains (k - base) = true := by
  simp only [allow, Bool.not_true, Bool.false_or, Bool.or_eq_true, decide_eq_true_eq] at h
  rcases h with h | h
  · omega
  · exact h

theorem Foot.out {call : CS} {al : Nat → Bool} {lo id : Nat} {op : AOp} {e : Env} {g : G} {v : AV} {g1 : G} (F : Foot call al lo id op e g v g1) {i : Nat} (h : ¬ Wr (cls op) al lo id g i) : g1.hp i = g.hp i := by
  obtain ⟨_, _, W, h1, h2, _⟩ := F
  exact h2 i fun hw => h (h1 i hw)

open Classical in
theorem opE_swap {call : CS} {base k i : Nat} (hki : k ≠ i) {x y : AOper} (hc : clsOk k i x y = true) {e : Env} {g g1 g2 : G} {v u : AV}
    (h1 : opE call (allow true base x.pre) base (base + k) x.op e g = some (v, g1)) (h2 : opE call (allow true base y.pre) base (base + i) y.op e g1 = some (u, g2)) :
    ∃ g1', opE call (allow true base y.pre) base (base + i) y.op e g = some (u, g1') ∧ opE call (allow true base x.pre) base (base + k) x.op e g1' = some (v, g2) := by
  by_cases hx : cls x.op = .p
  · obtain ⟨rfl, hh⟩ := any_p hx _ _ _ h1
    exact ⟨g2, h2, hh g2⟩
  by_cases hy : cls y.op = .p
  · obtain ⟨rfl, hh⟩ := any_p hy _ _ _ h2
    exact ⟨g, hh g, h1⟩
  simp only [clsOk, Bool.or_eq_true, beq_iff_eq, hx, hy, false_or, Bool.and_eq_true, bne_iff_ne, ne_eq, Bool.not_eq_true'] at hc
  obtain ⟨⟨cx, cy⟩, ⟨⟨pk, pi⟩, ps⟩, ptt⟩ := hc
  have ak : allow true base y.pre (base + k) ≠ true := fun h => by rw [allow_slot h] at pk; cases pk
  have ai : allow true base x.pre (base + i) ≠ true := fun h => by rw [allow_slot h] at pi; cases pi
  have pp : (cls x.op = .s ∨ cls y.op = .s) → ∀ m, base ≤ m → allow true base x.pre m = true → allow true base y.pre m = true → False := by
    intro hs m hm h3 h4
    rcases ps with ps | ps
    · simp only [Bool.or_eq_false_iff, beq_eq_false_iff_ne, ne_eq] at ps
      rcases hs with hs | hs
      · exact ps.1 hs
      · exact ps.2 hs
    · have h3 := allow_ge h3 hm
      have h4 := allow_ge h4 hm
      have := List.all_eq_true.1 ps (m - base) (by simpa using h3)
      rw [h4] at this; cases this
  have tt : ¬ (cls x.op = .t ∧ cls y.op = .t) := by simpa [Bool.and_eq_false_iff] using ptt
  have F := foot_all cx h1
  have F' := foot_all cy h2
  have out1 : ∀ m, ¬ Wr (cls x.op) (allow true base x.pre) base (base + k) g m → g1.hp m = g.hp m := fun m hm => F.out hm
  -- what y looks at, x has not turned
  have A : ∀ m, Rd (cls y.op) (allow true base y.pre) base g1 m → ¬ Wr (cls x.op) (allow true base x.pre) base (base + k) g m := by
    intro m hr hw
    have hal : allow true base y.pre m = true := by
      cases hcy : cls y.op <;> rw [hcy] at hr <;> simp only [Rd] at hr
      · exact hr.1
      · exact hr.1
      · exact hr.1
      · exact hr.2.1
      · exact absurd hcy cy
    have hne : m ≠ base + k := fun h => ak (h ▸ hal)
    cases hcx : cls x.op with
    | p => exact hx hcx
    | r => rw [hcx] at hw; exact hw
    | a => rw [hcx] at hw; exact hne hw
    | t =>
      rw [hcx] at hw
      rcases hw with hw | hw
      · exact hne hw
      · have hcm : CM (g1.hp m) := by
          cases hcy : cls y.op <;> rw [hcy] at hr <;> simp only [Rd] at hr
          · exact hr.2
          · exact hr.2
          · exact absurd ⟨hcx, hcy⟩ tt
          · exact hr.2.2
          · exact absurd hcy cy
        have := F.kind m hne hcm
        have h3 := hw.2
        cases hh : g.hp m with
        | none => rw [hh] at h3; exact h3
        | some b => rw [hh] at h3 this; cases b <;> first | exact h3 | exact this
    | s =>
      rw [hcx] at hw
      exact pp (.inl hcx) m hw.1 hw.2.1 hal
    | x => exact cx hcx
  have B : ∀ m, Wr (cls y.op) (allow true base y.pre) base (base + i) g1 m → ¬ Wr (cls x.op) (allow true base x.pre) base (base + k) g m := by
    intro m hr hw
    have hor : m = base + i ∨ Rd (cls y.op) (allow true base y.pre) base g1 m := by
      cases hcy : cls y.op <;> rw [hcy] at hr <;> simp only [Wr] at hr
      · exact .inl hr
      · rcases hr with hr | hr
        · exact .inl hr
        · exact .inr ⟨hr.1, .inr hr.2⟩
      · exact .inr hr
      · exact absurd hcy cy
    rcases hor with rfl | hr
    · cases hcx : cls x.op with
      | p => exact hx hcx
      | r => rw [hcx] at hw; exact hw
      | a => rw [hcx] at hw; simp only [Wr] at hw; omega
      | t =>
        rw [hcx] at hw
        rcases hw with hw | hw
        · omega
        · exact ai hw.1
      | s => rw [hcx] at hw; exact ai hw.2.1
      | x => exact cx hcx
    · exact A m hr hw
  have C : ∀ m, Rd (cls x.op) (allow true base x.pre) base g m → ¬ Wr (cls y.op) (allow true base y.pre) base (base + i) g1 m := by
    intro m hr hw
    have hal : allow true base x.pre m = true := by
      cases hcx : cls x.op <;> rw [hcx] at hr <;> simp only [Rd] at hr
      · exact hr.1
      · exact hr.1
      · exact hr.1
      · exact hr.2.1
      · exact absurd hcx cx
    have hne : m ≠ base + i := fun h => ai (h ▸ hal)
    have hold : g1.hp m = g.hp m := out1 m (B m hw)
    cases hcy : cls y.op with
    | p => exact hy hcy
    | r => rw [hcy] at hw; exact hw
    | a => rw [hcy] at hw; exact hne hw
    | t =>
      rw [hcy] at hw
      rcases hw with hw | hw
      · exact hne hw
      · have h3 := hw.2
        rw [hold] at h3
        have hcm : CM (g.hp m) := by
          cases hcx : cls x.op <;> rw [hcx] at hr <;> simp only [Rd] at hr
          · exact hr.2
          · exact hr.2
          · exact absurd ⟨hcx, hcy⟩ tt
          · exact hr.2.2
          · exact absurd hcx cx
        cases hh : g.hp m with
        | none => rw [hh] at h3; exact h3
        | some b => rw [hh] at h3 hcm; cases b <;> first | exact h3 | exact hcm
    | s =>
      rw [hcy] at hw
      exact pp (.inr hcy) m hw.1 hal hw.2.1
    | x => exact cy hcy
  obtain ⟨n1, _, W, w1, w2, w3⟩ := F
  obtain ⟨n2, _, W', w1', w2', w3'⟩ := F'
  have hAg : ∀ m, Rd (cls y.op) (allow true base y.pre) base g1 m → g.hp m = g1.hp m := fun m hm => (out1 m (A m hm)).symm
  refine ⟨_, w3' g hAg, ?_⟩
  rw [w3 _ (fun m hm => ?_)]
  · congr 2
    have : g2 = ⟨g2.hp, g2.nx⟩ := rfl
    rw [this]
    congr 1
    · funext m
      show (if W m then g1.hp m else if W' m then g2.hp m else g.hp m) = g2.hp m
      by_cases hm : W m
      · rw [if_pos hm]
        exact (w2' m (fun h' => B m (w1' m h') (w1 m hm))).symm
      · rw [if_neg hm]
        by_cases hm' : W' m
        · rw [if_pos hm']
        · rw [if_neg hm', w2' m hm', w2 m hm]
    · show g.nx = g2.nx
      rw [n2, n1]
  · show (if W' m then g2.hp m else g.hp m) = g.hp m
    rw [if_neg (fun h' => C m hm (w1' m h'))]

theorem stepV_swap {call : CS} {base k i : Nat} (hki : k ≠ i) {x y : AOper} (hc : clsOk k i x y = true) {e : Env} {g g1 g2 : G} {v u : AV}
    (h1 : stepV call base k x e g = some (v, g1)) (h2 : stepV call base i y e g1 = some (u, g2)) : ∃ g1', stepV call base i y e g = some (u, g1') ∧ stepV call base k x e g1' = some (v, g2) := by
  unfold stepV at *
  by_cases hx : wanted e x.grd = true
  · rw [if_pos hx] at h1
    by_cases hy : wanted e y.grd = true
    · rw [if_pos hy] at h2
      obtain ⟨g1', h3, h4⟩ := opE_swap hki hc h1 h2
      exact ⟨g1', by rw [if_pos hy]; exact h3, by rw [if_pos hx]; exact h4⟩
    · rw [if_neg hy] at h2
      cases h2
      exact ⟨g, by rw [if_neg hy], by rw [if_pos hx]; exact h1⟩
  · rw [if_neg hx] at h1
    cases h1
    exact ⟨g2, h2, by rw [if_neg hx]⟩

theorem opStep_swap {call : CS} {base k i : Nat} (hki : k ≠ i) {x y : AOper} (hc : swapB k i x y = true) {e e1 e2 : Env} {g g1 g2 : G}
    (h1 : opStep call true base k x e g = some (e1, g1)) (h2 : opStep call true base i y e1 g1 = some (e2, g2)) :
    ∃ e1' g1', opStep call true base i y e g = some (e1', g1') ∧ opStep call true base k x e1' g1' = some (e2, g2) := by
  simp only [swapB, Bool.and_eq_true] at hc
  obtain ⟨⟨⟨d1, d2⟩, d3⟩, d4⟩ := hc
  rw [opStep_V] at h1 h2
  cases hv : stepV call base k x e g with
  | none => rw [hv] at h1; cases h1
  | some r =>
    obtain ⟨v, g1⟩ := r
    rw [hv] at h1
    cases h1
    rw [stepV_congr (put_not d1 e v)] at h2
    cases hu : stepV call base i y e g1 with
    | none => rw [hu] at h2; cases h2
    | some r =>
      obtain ⟨u, g2⟩ := r
      rw [hu] at h2
      cases h2
      obtain ⟨g1', h3, h4⟩ := stepV_swap hki d4 hv hu
      refine ⟨put e y.dst u, g1', by rw [opStep_V, h3]; rfl, ?_⟩
      rw [opStep_V, stepV_congr (put_not d2 e u), h4]
      show some _ = some _
      rw [put_comm d3]

/-! ### rows of operations in an order of their own -/
def runL (call : CS) (base : Nat) (aos : List AOper) : List Nat → Env → G → Option (Env × G)
  | [], e, g => some (e, g)
  | i :: is, e, g => match aos[i]? with
    | some o => match opStep call true base i o e g with
      | some (e', g') => runL call base aos is e' g'
      | none => none
    | none => none
theorem runL_text (call : CS) (base : Nat) (aos : List AOper) : ∀ (os : List AOper) (j : Nat) (e : Env) (g : G), (∀ i o, os[i]? = some o → aos[j + i]? = some o) → runL call base aos (List.range' j os.length) e g = regE call true base j os e g
  | [], j, e, g, _ => rfl
  | o :: os, j, e, g, h => by
    rw [regE_step, List.length_cons, List.range'_succ]
    have h0 : aos[j]? = some o := by simpa using h 0 o rfl
    simp only [runL, h0]
    cases opStep call true base j o e g with
    | none => rfl
    | some r =>
      obtain ⟨e', g'⟩ := r
      exact runL_text call base aos os (j + 1) e' g' (fun i o' hi => by have := h (i + 1) o' (by simpa using hi); rwa [show j + (i + 1) = j + 1 + i by omega] at this)

/-- One may be taken ahead of all those before it that it may change places with. -/
theorem runL_front {call : CS} {base : Nat} {aos : List AOper} {i : Nat} {y : AOper} (hy : aos[i]? = some y) : ∀ (pre post : List Nat) (e e' : Env) (g g' : G), (∀ k ∈ pre, k ≠ i ∧ ∀ x, aos[k]? = some x → swapB k i x y = true) →
    runL call base aos (pre ++ i :: post) e g = some (e', g') → runL call base aos (i :: (pre ++ post)) e g = some (e', g')
  | [], post, e, e', g, g', _, h => h
  | k :: pre, post, e, e', g, g', hp, h => by
    rw [List.cons_append] at h
    simp only [runL] at h
    split at h
    · rename_i x hx
      split at h
      · rename_i e1 g1 hst
        have := runL_front hy pre post e1 e' g1 g' (fun m hm => hp m (List.mem_cons_of_mem _ hm)) h
        simp only [runL, hy] at this
        split at this
        · rename_i e2 g2 hst2
          obtain ⟨hne, hsw⟩ := hp k (List.mem_cons_self ..)
          obtain ⟨e1', g1', h3, h4⟩ := opStep_swap hne (hsw x hx) hst hst2
          simp only [runL, hy, h3, List.cons_append, hx, h4]
          exact this
        · cases this
      · cases h
    · cases h

/-! ### what must stand before what -/
/-- 'clo' names for each operation those before it in every order, asx bits. -/
def cloAt (es : Array Edge) (clo : List Nat) : Nat :=
  es.foldl (fun b e => if Region.binds .any e then b ||| (1 <<< e.on) ||| (clo.getD e.on 0) else b) 0
def clos : List Oper → List Nat → List Nat
  | [], clo => clo
  | o :: os, clo => clos os (clo ++ [cloAt o.after clo])
def edgesB : Nat → List Oper → Bool
  | _, [] => true
  | j, o :: os => o.after.all (fun e => !Region.binds .any e || decide (e.on < j)) && edgesB (j + 1) os
/-- Each pair may change places, or stands fast. -/
def pairsB (clo : Nat) (i : Nat) (y : AOper) : Nat → List AOper → Bool
  | _, [] => true
  | k, x :: xs => (clo.testBit k || swapB k i x y) && pairsB clo i y (k + 1) xs
def drawB (aos : List AOper) : Nat → List AOper → List Nat → Bool
  | _, [], _ => true
  | i, y :: ys, clo :: cs => pairsB clo i y 0 (aos.take i) && drawB aos (i + 1) ys cs
  | _, _ :: _, [] => false
end Go.Ab
end
section
/- Regions in any order: the rule. -/
set_option linter.unusedVariables false
set_option linter.unusedSimpArgs false
set_option linter.unnecessarySimpa false
namespace Go.Ab
open Go.RowKit

theorem testBit_fold (es : List Edge) (clo : List Nat) (k : Nat) : ∀ b : Nat, (es.foldl (fun b e => if Region.binds .any e then b ||| (1 <<< e.on) ||| (clo.getD e.on 0) else b) b).testBit k = true →
    b.testBit k = true ∨ ∃ e ∈ es, Region.binds .any e = true ∧ (k = e.on ∨ (clo.getD e.on 0).testBit k = true) := by
  induction es with
  | nil => intro b h; exact .inl h
  | cons e es ih =>
    intro b h
    rw [List.foldl_cons] at h
    rcases ih _ h with h1 | ⟨e', he', h2⟩
    · by_cases hb : Region.binds .any e = true
      · rw [if_pos hb] at h1
        simp only [Nat.testBit_or, Bool.or_eq_true] at h1
        rcases h1 with (h1 | h1) | h1
        · exact .inl h1
        · refine .inr ⟨e, List.mem_cons_self .., hb, .inl ?_⟩
          rw [Nat.testBit_shiftLeft] at h1
          simp only [Bool.and_eq_true, decide_eq_true_eq] at h1
          have h2 : Nat.testBit 1 (k - e.on) = true := h1.2
          have h3 : k - e.on = 0 := by
            cases hz : k - e.on with
            | zero => rfl
            | succ z => rw [hz] at h2; simp [Nat.testBit_succ] at h2
          omega
        · exact .inr ⟨e, List.mem_cons_self .., hb, .inr h1⟩
      · rw [if_neg hb] at h1
        exact .inl h1
    · exact .inr ⟨e', List.mem_cons_of_mem _ he', h2⟩

def cloB (clo : List Nat) : List Oper → List Nat → Bool
  | [], [] => true
  | o :: os, c :: cs => (cloAt o.after clo == c) && cloB clo os cs
  | _, _ => false
theorem cloB_get {clo : List Nat} : ∀ {os : List Oper} {cs : List Nat}, cloB clo os cs = true → os.length = cs.length ∧ ∀ (i : Nat) o, os[i]? = some o → cs[i]? = some (cloAt o.after clo)
  | [], [], _ => ⟨rfl, fun _ _ h => by simp at h⟩
  | [], _ :: _, h => by simp [cloB] at h
  | _ :: _, [], h => by simp [cloB] at h
  | o :: os, c :: cs, h => by
    simp only [cloB, Bool.and_eq_true, beq_iff_eq] at h
    obtain ⟨h1, h2⟩ := cloB_get h.2
    refine ⟨by simp [h1], fun i o' hi => ?_⟩
    cases i with
    | zero => simp at hi; subst hi; simp [h.1]
    | succ i => simp at hi ⊢; exact h2 i o' hi
theorem edgesB_get : ∀ {os : List Oper} {j : Nat}, edgesB j os = true → ∀ (i : Nat) o, os[i]? = some o → ∀ e ∈ o.after, Region.binds .any e = true → e.on < j + i
  | [], _, _, _, _, h => by simp at h
  | o :: os, j, h, i, o', hi => by
    simp only [edgesB, Bool.and_eq_true] at h
    cases i with
    | zero =>
      simp at hi; subst hi
      intro e he hb
      have := Array.all_eq_true_iff_forall_mem.1 h.1 e he
      rw [hb] at this
      simpa using this
    | succ i =>
      simp at hi
      intro e he hb
      have := edgesB_get h.2 i o' hi e he hb
      omega

def Closed (ops : List Oper) (L : Nat → Bool) : Prop := ∀ (i : Nat) o, ops[i]? = some o → L i = true → ∀ e ∈ o.after, Region.binds .any e = true → L e.on = true
theorem clo_sound {ops : List Oper} {clo : List Nat} (hc : cloB clo ops clo = true) (he : edgesB 0 ops = true) {L : Nat → Bool} (hL : Closed ops L) : ∀ (i : Nat) (o : Oper), ops[i]? = some o → (∀ e ∈ o.after, Region.binds .any e = true → L e.on = true) → ∀ k, (clo.getD i 0).testBit k = true → L k = true := by
  intro i
  induction i using Nat.strongRecOn with
  | _ i ih =>
    intro o ho hp k hk
    obtain ⟨hl, hg⟩ := cloB_get hc
    have h1 : clo.getD i 0 = cloAt o.after clo := by rw [List.getD_eq_getElem?_getD, hg i o ho]; rfl
    rw [h1] at hk
    unfold cloAt at hk
    rw [← Array.foldl_toList] at hk
    rcases testBit_fold _ _ _ _ hk with h2 | ⟨e, hm, hb, h2⟩
    · simp at h2
    · have hm' : e ∈ o.after := Array.mem_toList_iff.1 hm
      rcases h2 with rfl | h2
      · exact hp e hm' hb
      · have hlt := edgesB_get he i o ho e hm' hb
        cases ho' : ops[e.on]? with
        | none =>
          rw [List.getElem?_eq_none_iff] at ho'
          rw [List.getD_eq_getElem?_getD, List.getElem?_eq_none (by omega)] at h2
          simp at h2
        | some o' => exact ih e.on (by omega) o' ho' (fun e' he' hb' => hL e.on o' ho' (hp e hm' hb) e' he' hb') k h2

theorem pairsB_get {clo i : Nat} {y : AOper} : ∀ {xs : List AOper} {j : Nat}, pairsB clo i y j xs = true → ∀ (k : Nat) x, xs[k]? = some x → clo.testBit (j + k) = true ∨ swapB (j + k) i x y = true
  | [], _, _, _, _, h => by simp at h
  | x :: xs, j, h, k, x', hk => by
    simp only [pairsB, Bool.and_eq_true, Bool.or_eq_true] at h
    cases k with
    | zero => simp at hk; subst hk; exact h.1
    | succ k =>
      simp at hk
      have := pairsB_get h.2 k x' hk
      rwa [show j + 1 + k = j + (k + 1) by omega] at this
theorem drawB_get {aos : List AOper} : ∀ {ys : List AOper} {cs : List Nat} {j : Nat}, drawB aos j ys cs = true → ∀ (i : Nat) y, ys[i]? = some y → pairsB (cs.getD i 0) (j + i) y 0 (aos.take (j + i)) = true
  | [], _, _, _, _, _, h => by simp at h
  | y :: ys, [], _, h, _, _, _ => by simp [drawB] at h
  | y :: ys, c :: cs, j, h, i, y', hi => by
    simp only [drawB, Bool.and_eq_true] at h
    cases i with
    | zero => simp at hi; subst hi; simpa using h.1
    | succ i =>
      simp at hi
      have := drawB_get h.2 i y' hi
      rw [show j + 1 + i = j + (i + 1) by omega] at this
      simpa using this
theorem opersB_get {P : Program} {nm : Nat → Nat} {N : Nat} {ops : Array Oper} : ∀ {os : List Oper} {aos : List AOper}, opersB P nm N ops os aos = true → os.length = aos.length ∧ ∀ (i : Nat) o, os[i]? = some o → ∃ ao, aos[i]? = some ao ∧ operB P nm N ops o ao = true
  | [], [], _ => ⟨rfl, fun _ _ h => by simp at h⟩
  | [], _ :: _, h => by simp [opersB] at h
  | _ :: _, [], h => by simp [opersB] at h
  | o :: os, ao :: aos, h => by
    simp only [opersB, Bool.and_eq_true] at h
    obtain ⟨h1, h2⟩ := opersB_get h.2
    refine ⟨by simp [h1], fun i o' hi => ?_⟩
    cases i with
    | zero => simp at hi; subst hi; exact ⟨ao, rfl, h.1⟩
    | succ i => simp at hi ⊢; exact h2 i o' hi

/-- The whole look at a region. -/
def regB (P : Program) (nm : Nat → Nat) (N : Nat) (ops : Array Oper) (draw : Bool) (aos : List AOper) : Bool :=
  opersB P nm N ops ops.toList aos && (!draw || (edgesB 0 ops.toList && (let clo := clos ops.toList []; cloB clo ops.toList clo && drawB aos 0 aos clo)))

def pend (ops : Array Oper) (listed : Array Bool) : List Nat := (List.range ops.size).filter fun i => !listed.getD i true

theorem ready_some {ops : Array Oper} {listed : Array Bool} (he : edgesB 0 ops.toList = true) (hs : listed.size = ops.size) : ∀ i, i < ops.size → listed.getD i true = false → Region.ready .any ops listed ≠ [] := by
  intro i
  induction i using Nat.strongRecOn with
  | _ i ih =>
    intro hi hl hr
    have ho : ops[i]? = some ops[i] := Array.getElem?_eq_getElem hi
    by_cases hall : (ops[i].after.all fun e => !Region.binds .any e || listed.getD e.on false) = true
    · have : i ∈ Region.ready .any ops listed := by
        unfold Region.ready
        rw [List.mem_filter]
        exact ⟨List.mem_range.2 hi, by rw [hl, ho]; simpa using hall⟩
      rw [hr] at this
      cases this
    · rw [Array.all_eq_true_iff_forall_mem] at hall
      simp only [Bool.or_eq_true, Bool.not_eq_true'] at hall
      have : ∃ e ∈ ops[i].after, Region.binds .any e = true ∧ listed.getD e.on false ≠ true := by
        refine Classical.byContradiction fun hn => hall fun e hm => ?_
        by_cases hb : Region.binds .any e = true
        · by_cases hl : listed.getD e.on false = true
          · exact .inr hl
          · exact absurd ⟨e, hm, hb, hl⟩ hn
        · exact .inl (by simpa using hb)
      obtain ⟨e, hm, hb, hne⟩ := this
      have hlt := edgesB_get he i ops[i] (by simpa using ho) e hm hb
      have hlt' : e.on < ops.size := by omega
      refine ih e.on (by omega) hlt' ?_ hr
      have h1 : e.on < listed.size := by omega
      simp only [Array.getD_eq_getD_getElem?, Array.getElem?_eq_getElem h1, Option.getD_some] at hne ⊢
      simpa using hne

section
variable {P : Program} {call : CS} {N : Nat}
theorem any_wp {num : Nat → Nat} (hcall : CallOk P num call) (hk : CallKeep call) {ops : Array Oper} {aos : List AOper} (hb : regB P num N ops true aos = true) {Q : Exit → Act → World → Prop} {base : Nat} {e' : Env} {g' : G} :
    ∀ (fuel : Nat) (listed : Array Bool) {c : Cx} {e : Env} {g : G} {a : Act}, listed.size = ops.size → (pend ops listed).length = fuel → Closed ops.toList (fun i => listed.getD i false) → c.num = num → St N c e g a → base + ops.size ≤ g.nx →
    (∀ i ∈ pend ops listed, g.hp (base + i) = none) → runL call base aos (pend ops listed) e g = some (e', g') → (∀ c' a', Evo c c' → St N c' e' g' a' → Q .normal a' c'.w) → wpAny P .any ops Q fuel listed a c.w
  | 0, listed, c, e, g, a, hs, hl, hc, hn, S, hnx, hf, hr, hQ => by
    have hp : pend ops listed = [] := List.eq_nil_of_length_eq_zero hl
    refine ⟨?_, ?_⟩
    · refine List.eq_nil_iff_forall_not_mem.2 fun i hi => ?_
      have : i ∈ pend ops listed := by
        unfold Region.ready at hi
        rw [List.mem_filter] at hi
        unfold pend
        rw [List.mem_filter]
        exact ⟨hi.1, by have := hi.2; simp only [Bool.and_eq_true] at this; exact this.1⟩
      rw [hp] at this; cases this
    · rw [hp] at hr
      simp only [runL] at hr
      cases hr
      exact hQ c a (Evo.refl c) S
  | fuel + 1, listed, c, e, g, a, hs, hl, hc, hn, S, hnx, hf, hr, hQ => by
    simp only [regB, Bool.and_eq_true, Bool.not_true, Bool.false_or] at hb
    obtain ⟨hb1, hb2, hb3, hb4⟩ := hb
    refine ⟨fun h0 => ?_, fun i hi => ?_⟩
    · exfalso
      cases hp : pend ops listed with
      | nil => rw [hp] at hl; simp at hl
      | cons m ms =>
        have hm : m ∈ pend ops listed := by rw [hp]; exact List.mem_cons_self ..
        unfold pend at hm
        rw [List.mem_filter] at hm
        exact ready_some hb2 hs m (List.mem_range.1 hm.1) (by simpa using hm.2) h0
    · have hi' := hi
      unfold Region.ready at hi'
      rw [List.mem_filter] at hi'
      obtain ⟨hir, hiu⟩ := hi'
      have hilt : i < ops.size := List.mem_range.1 hir
      simp only [Bool.and_eq_true, Bool.not_eq_true'] at hiu
      obtain ⟨hul, hpre⟩ := hiu
      have ho : ops[i]? = some ops[i] := Array.getElem?_eq_getElem hilt
      rw [ho] at hpre
      simp only [Option.map_some, Option.getD_some] at hpre
      have hpre' : ∀ ed ∈ ops[i].after, Region.binds .any ed = true → listed.getD ed.on false = true := by
        intro ed hm hbd
        have := Array.all_eq_true_iff_forall_mem.1 hpre ed hm
        rw [hbd] at this
        simpa using this
      have him : i ∈ pend ops listed := by
        unfold pend; rw [List.mem_filter]; exact ⟨hir, by rw [hul]; rfl⟩
      obtain ⟨pre, post, hsplit⟩ := List.append_of_mem him
      have hsort : (pend ops listed).Pairwise (· < ·) := List.Pairwise.filter _ List.pairwise_lt_range
      rw [hsplit, List.pairwise_append] at hsort
      obtain ⟨s1, s2, s3⟩ := hsort
      rw [List.pairwise_cons] at s2
      obtain ⟨hlen, hget⟩ := opersB_get hb1
      obtain ⟨y, hy, hoy⟩ := hget i ops[i] (by simpa using ho)
      have hmem : ∀ k, k ∈ pre ∨ k ∈ post → k ∈ pend ops listed := by
        intro k hk; rw [hsplit]
        rcases hk with hk | hk
        · exact List.mem_append_left _ hk
        · exact List.mem_append_right _ (List.mem_cons_of_mem _ hk)
      have hfront := runL_front hy pre post e e' g g' (fun k hk => by
        have hki : k < i := s3 k hk i (List.mem_cons_self ..)
        refine ⟨by omega, fun x hx => ?_⟩
        have hpb := drawB_get hb4 i y hy
        rw [Nat.zero_add] at hpb
        have := pairsB_get hpb k x (by rw [List.getElem?_take_of_lt hki]; exact hx)
        rw [Nat.zero_add] at this
        rcases this with h1 | h1
        · exfalso
          have hL := clo_sound hb3 hb2 hc i ops[i] (by simpa using ho) hpre' k h1
          have hkm := hmem k (.inl hk)
          unfold pend at hkm
          rw [List.mem_filter] at hkm
          have hkl : k < listed.size := by rw [hs]; exact List.mem_range.1 hkm.1
          have h2 := hkm.2
          simp only [Array.getD_eq_getD_getElem?, Array.getElem?_eq_getElem hkl, Option.getD_some] at hL h2
          rw [hL] at h2; cases h2
        · exact h1) (by rw [hsplit] at hr; exact hr)
      simp only [runL, hy] at hfront
      have hpend' : pend ops (listed.setIfInBounds i true) = pre ++ post := by
        have h1 : pend ops (listed.setIfInBounds i true) = (pend ops listed).filter (fun k => k != i) := by
          unfold pend
          rw [List.filter_filter]
          refine List.filter_congr fun k hk => ?_
          have hkl : k < listed.size := by rw [hs]; exact List.mem_range.1 hk
          by_cases hki : k = i
          · subst hki
            rw [Array.getD_eq_getD_getElem?, Array.getElem?_setIfInBounds_self_of_lt hkl]
            simp
          · rw [Array.getD_eq_getD_getElem?, Array.getElem?_setIfInBounds_ne (fun h => hki h.symm), Array.getD_eq_getD_getElem?]
            simp [hki]
        rw [h1, hsplit, List.filter_append, List.filter_cons]
        have f1 : pre.filter (fun k => k != i) = pre := List.filter_eq_self.2 fun k hk => by
          have := s3 k hk i (List.mem_cons_self ..)
          simp; omega
        have f2 : post.filter (fun k => k != i) = post := List.filter_eq_self.2 fun k hk => by
          have := s2.1 k hk
          simp; omega
        rw [f1, f2]
        simp
      split at hfront
      · rename_i e1 g1 hst
        have hkp := opStep_keep hk hst
        refine opStep_wp (hn ▸ hcall) S ho (hn ▸ hoy) (hf i him) (by omega) hst (fun c1 a1 E1 S1 => ?_)
        have hb : regB P num N ops true aos = true := by
          simp only [regB, Bool.and_eq_true, Bool.not_true, Bool.false_or]
          exact ⟨hb1, hb2, hb3, hb4⟩
        refine any_wp hcall hk hb fuel (listed.setIfInBounds i true) (by simpa using hs) (by
            rw [hpend']
            rw [hsplit] at hl
            simp at hl ⊢
            omega) ?_ (E1.num.trans hn) S1 (Nat.le_trans hnx hkp.1) ?_ (by rw [hpend']; exact hfront) (fun c' a' E' S' => hQ c' a' (E1.trans E') S')
        · intro m o hm hlm ed hed hbd
          have hset : ∀ k, listed.getD k false = true → (listed.setIfInBounds i true).getD k false = true := by
            intro k hk
            by_cases hki : k = i
            · subst hki
              have hkl : k < listed.size := by omega
              rw [Array.getD_eq_getD_getElem?, Array.getElem?_setIfInBounds_self_of_lt hkl]; rfl
            · rw [Array.getD_eq_getD_getElem?, Array.getElem?_setIfInBounds_ne (fun h => hki h.symm), ← Array.getD_eq_getD_getElem?]; exact hk
          refine hset _ ?_
          by_cases hmi : m = i
          · subst hmi
            have : o = ops[m] := by
              have h2 : ops[m]? = some o := by simpa using hm
              rw [ho] at h2; cases h2; rfl
            subst this
            exact hpre' ed hed hbd
          · have hlm' : listed.getD m false = true := by
              have h3 : (listed.setIfInBounds i true).getD m false = true := hlm
              rw [Array.getD_eq_getD_getElem?, Array.getElem?_setIfInBounds_ne (fun h => hmi h.symm), ← Array.getD_eq_getD_getElem?] at h3
              exact h3
            exact hc m o hm hlm' ed hed hbd
        · intro k hk
          rw [hpend'] at hk
          have hkm := hmem k (List.mem_append.1 hk)
          have hki : k ≠ i := by
            rcases List.mem_append.1 hk with hk | hk
            · have := s3 k hk i (List.mem_cons_self ..); omega
            · have := s2.1 k hk; omega
          have hklt : k < ops.size := by
            unfold pend at hkm; rw [List.mem_filter] at hkm; exact List.mem_range.1 hkm.1
          exact hkp.2 _ (by omega) (by omega) (hf k hkm)
      · cases hfront

/-- A region, whichever way it is taken. -/
theorem region_wp {num : Nat → Nat} (hcall : CallOk P num call) (hk : CallKeep call) (hm : P.follows .mixedOrders = true) {ops : Array Oper} {draw : Bool} {aos : List AOper} (hb : regB P num N ops draw aos = true) {Q : Exit → Act → World → Prop} {id : Nat}
    {c : Cx} {e e' : Env} {g g' : G} {a : Act} (hn : c.num = num) (S : St N c e g a) (h : regE call draw g.nx 0 aos e { g with nx := g.nx + aos.length } = some (e', g')) (hQ : ∀ c' a', Evo c c' → St N c' e' g' a' → Q .normal a' c'.w) : (Code.region id ops draw).wp P Q a c.w := by
  have hb' := hb
  simp only [regB, Bool.and_eq_true] at hb'
  obtain ⟨hlen, _⟩ := opersB_get hb'.1
  have hlen' : ops.size = aos.length := by simpa using hlen
  have S' : St N c e { g with nx := g.nx + aos.length } a := ⟨S.env, ⟨S.ok.basele, S.ok.cells, S.ok.maps, S.ok.toks, S.ok.inj, fun id hid => S.ok.fresh id (by have : g.nx + aos.length ≤ id := hid; omega)⟩, S.hp, S.size, S.defers⟩
  have hfree : ∀ i, i < ops.size → g.hp (g.nx + i) = none := fun i _ => by rw [← S.hp]; exact S.ok.fresh _ (by omega)
  cases draw with
  | false =>
    refine wp_region ?_
    rw [List.range_eq_range']
    have := reg_wp (Q := Q) hcall hk (draw := false) (base := g.nx) (n := ops.size) ops.toList aos 0 hn (fun i o hi => by simpa using hi) hb'.1 (by simp) S' (by simp [hlen']) (fun i _ hi => hfree i hi) h hQ
    simpa using this
  | true =>
    refine wp_region_any hm ?_
    have hpend : pend ops (Array.replicate ops.size false) = List.range ops.size := by
      unfold pend
      refine List.filter_eq_self.2 fun i hi => ?_
      have hi := List.mem_range.1 hi
      rw [Array.getD_eq_getD_getElem?, Array.getElem?_replicate, if_pos hi]; rfl
    refine any_wp (c := c.drew) (base := g.nx) hcall hk hb ops.size (Array.replicate ops.size false) (by simp) (by rw [hpend]; simp) ?_ hn ⟨S'.env.evo (Evo.drew c), S'.ok.drew, S'.hp, S'.size, S'.defers⟩ (by show g.nx + ops.size ≤ g.nx + aos.length; omega) (fun i hi => ?_) ?_ (fun c' a' E Sc => hQ c' a' ((Evo.drew c).trans E) Sc)
    · intro i o _ hl
      have hl : (Array.replicate ops.size false).getD i false = true := hl
      rw [Array.getD_eq_getD_getElem?, Array.getElem?_replicate] at hl
      split at hl <;> cases hl
    · rw [hpend] at hi
      exact hfree i (List.mem_range.1 hi)
    · rw [hpend, List.range_eq_range', hlen']
      rw [runL_text call g.nx aos aos 0 e _ (fun i o hi => by simpa using hi)]
      exact h
end
end Go.Ab
end
section
/- Code and calls: a run of the abstract machine is a run of the program. -/
set_option linter.unusedVariables false
set_option linter.unusedSimpArgs false
set_option linter.unnecessarySimpa false
namespace Go.Ab
open Go.RowKit

def codeB (P : Program) (nm : Nat → Nat) (N : Nat) : Code → ACode → Bool
  | .skip, .skip => true
  | .region _ ops d, .reg d' aos => (d == d') && regB P nm N ops d aos
  | .seq a b, .seq a' b' => codeB P nm N a a' && codeB P nm N b b'
  | .cond c t f, .cond c' t' f' => opdB nm c c' && codeB P nm N t t' && codeB P nm N f f'
  | .block i c, .blk i' c' => (i == i') && codeB P nm N c c'
  | cd, .lck _ c' => codeB P nm N cd c'
  | cd, .imm _ c' => codeB P nm N cd c'
  | .scope c, .scp c' => codeB P nm N c c'
  | .label _, .lab => true
  | .loop c, .loop c' => codeB P nm N c c'
  | .exit i, .ext i' => i == i'
  | .ret, .ret => true
  | _, _ => false

def Keeps (g g' : G) : Prop := g.nx ≤ g'.nx ∧ ∀ i, i < g.nx → g.hp i = none → g'.hp i = none
theorem Keeps.refl (g : G) : Keeps g g := ⟨Nat.le_refl _, fun _ _ h => h⟩
theorem Keeps.trans {g g1 g2 : G} (h : Keeps g g1) (k : Keeps g1 g2) : Keeps g g2 := ⟨Nat.le_trans h.1 k.1, fun i hi hn => k.2 i (Nat.lt_of_lt_of_le hi h.1) (h.2 i hi hn)⟩

theorem regE_keep {call : CS} (hk : CallKeep call) {draw : Bool} {base : Nat} {e' : Env} {g' : G} : ∀ (aos : List AOper) (j : Nat) {e : Env} {g : G}, regE call draw base j aos e g = some (e', g') → g.nx ≤ g'.nx ∧ ∀ i, i < base → i < g.nx → g.hp i = none → g'.hp i = none
  | [], j, e, g, h => by simp only [regE] at h; cases h; exact ⟨Nat.le_refl _, fun _ _ _ h => h⟩
  | o :: os, j, e, g, h => by
    rw [regE_step] at h
    split at h
    · rename_i e1 g1 hst
      have h1 := opStep_keep hk hst
      have h2 := regE_keep hk os (j + 1) h
      exact ⟨Nat.le_trans h1.1 h2.1, fun i hb hi hn => h2.2 i hb (Nat.lt_of_lt_of_le hi h1.1) (h1.2 i hi (by omega) hn)⟩
    · cases h

theorem iter_keep {f : Env → G → Option (Out × Env × G)} (hf : ∀ e g o e' g', f e g = some (o, e', g') → Keeps g g') : ∀ (k : Nat) {e : Env} {g : G} {o : Out} {e' : Env} {g' : G}, iter f k e g = some (o, e', g') → Keeps g g'
  | 0, _, _, _, _, _, h => by simp [iter] at h
  | k + 1, e, g, o, e', g', h => by
    simp only [iter] at h
    split at h
    · rename_i e1 g1 h1
      exact (hf _ _ _ _ _ h1).trans (iter_keep hf k h)
    · exact hf _ _ _ _ _ h
theorem codeE_keep {call : CS} (hk : CallKeep call) (k : Nat) : ∀ (c : ACode) {e : Env} {g : G} {o : Out} {e' : Env} {g' : G}, codeE call k c e g = some (o, e', g') → Keeps g g'
  | .skip, _, _, _, _, _, h => by simp only [codeE] at h; cases h; exact Keeps.refl _
  | .reg draw ops, e, g, _, _, _, h => by
    simp only [codeE] at h
    split at h
    · rename_i e1 g1 h1
      cases h
      have := regE_keep hk ops 0 h1
      exact ⟨Nat.le_trans (Nat.le_add_right _ _) this.1, fun i hi hn => this.2 i hi (Nat.lt_of_lt_of_le hi (Nat.le_add_right _ _)) hn⟩
    · cases h
  | .seq a b, _, _, _, _, _, h => by
    simp only [codeE] at h
    split at h
    · rename_i e1 g1 h1
      exact (codeE_keep hk k a h1).trans (codeE_keep hk k b h)
    · exact codeE_keep hk k a h
  | .cond c t f, e, g, _, _, _, h => by
    simp only [codeE] at h
    split at h
    · split at h
      · exact codeE_keep hk k t h
      · exact codeE_keep hk k f h
    · cases h
  | .blk id c, _, _, _, _, _, h => by
    simp only [codeE] at h
    split at h
    · rename_i n e1 g1 h1
      cases h
      exact codeE_keep hk k c h1
    · exact codeE_keep hk k c h
  | .scp c, _, _, _, _, _, h => by
    simp only [codeE] at h
    exact codeE_keep hk k c h
  | .lab, _, _, _, _, _, h => by simp only [codeE] at h; cases h; exact Keeps.refl _
  | .imm t c, e0, gg, _, _, _, h => by
    simp only [codeE] at h
    split at h
    · rename_i v hv
      have h2 := codeE_keep hk k c h
      refine Keeps.trans (g1 := ⟨Ab.lock gg.hp (vis gg.hp depth (e0 t)), gg.nx⟩) ⟨Nat.le_refl _, fun i hi hn => ?_⟩ h2
      show Ab.lock _ _ _ = none
      rcases lock_cases _ _ i with h' | ⟨_, cs, ro, h1, _⟩
      · rw [h']; exact hn
      · rw [hn] at h1; cases h1
    · cases h
  | .lck t c, e0, gg, _, _, _, h => by
    simp only [codeE] at h
    have h2 := codeE_keep hk k c h
    refine Keeps.trans (g1 := ⟨Ab.lock gg.hp (vis gg.hp depth (e0 t)), gg.nx⟩) ⟨Nat.le_refl _, fun i hi hn => ?_⟩ h2
    show Ab.lock _ _ _ = none
    rcases lock_cases _ _ i with h' | ⟨_, cs, ro, h1, _⟩
    · rw [h']; exact hn
    · rw [hn] at h1; cases h1
  | .loop c, _, _, _, _, _, h => by
    simp only [codeE] at h
    exact iter_keep (fun e g o e' g' h => codeE_keep hk k c h) k h
  | .ext _, _, _, _, _, _, h => by simp only [codeE] at h; cases h; exact Keeps.refl _
  | .ret, _, _, _, _, _, h => by simp only [codeE] at h; cases h; exact Keeps.refl _

theorem St.lock {N : Nat} {c : Cx} {e : Env} {g : G} {a : Act} (S : St N c e g a) (ids : List Nat) : St N (c.lock ids) e ⟨Ab.lock g.hp ids, g.nx⟩ a :=
  ⟨S.env.evo (Evo.lock c ids), S.ok.lock ids, by show Ab.lock c.hp ids = _; rw [S.hp], S.size, S.defers⟩
def exOf : Out → Exit
  | .nrm => .normal
  | .ext n => .exit n
  | .ret => .ret

section
variable {P : Program} {call : CS} {N : Nat}
theorem rounds_wp {num : Nat → Nat} {cd : Code} {f : Env → G → Option (Out × Env × G)} {Q : Exit → Act → World → Prop}
    (hf : ∀ {Q : Exit → Act → World → Prop} {c : Cx} {e e' : Env} {g g' : G} {a : Act} {o : Out}, c.num = num → St N c e g a → f e g = some (o, e', g') → (∀ c' a', Evo c c' → St N c' e' g' a' → Q (exOf o) a' c'.w) → cd.wp P Q a c.w) :
    ∀ (k : Nat) {c : Cx} {e e' : Env} {g g' : G} {a : Act} {o : Out}, c.num = num → St N c e g a → iter f k e g = some (o, e', g') → (∀ c' a', Evo c c' → St N c' e' g' a' → Q (exOf o) a' c'.w) → (o = .nrm → False) → Code.rounds P cd Q k a c.w
  | 0, _, _, _, _, _, _, _, _, _, h, _, _ => by simp [iter] at h
  | k + 1, c, e, e', g, g', a, o, hn, S, h, hQ, hno => by
    simp only [iter] at h
    rw [rounds_succ]
    split at h
    · rename_i e1 g1 h1
      exact hf hn S h1 fun c1 a1 E1 S1 => rounds_wp hf k (E1.num.trans hn) S1 h (fun c' a' E' S' => hQ c' a' (E1.trans E') S') hno
    · refine hf hn S h fun c1 a1 E1 S1 => ?_
      have := hQ c1 a1 E1 S1
      cases o with
      | nrm => exact (hno rfl).elim
      | ext n => exact this
      | ret => exact this
theorem iter_out {f : Env → G → Option (Out × Env × G)} : ∀ (k : Nat) {e e' : Env} {g g' : G} {o : Out}, iter f k e g = some (o, e', g') → o = .nrm → False
  | 0, _, _, _, _, _, h, _ => by simp [iter] at h
  | k + 1, e, e', g, g', o, h, ho => by
    simp only [iter] at h
    split at h
    · exact iter_out k h ho
    · rename_i hne
      subst ho
      exact hne _ _ h

theorem code_wp {num : Nat → Nat} (hcall : CallOk P num call) (hk : CallKeep call) (hm : P.follows .mixedOrders = true) (k : Nat) : ∀ (ac : ACode) {cd : Code} {Q : Exit → Act → World → Prop} {c : Cx} {e e' : Env} {g g' : G} {a : Act} {o : Out},
    codeB P num N cd ac = true → c.num = num → St N c e g a → codeE call k ac e g = some (o, e', g') → (∀ c' a', Evo c c' → St N c' e' g' a' → Q (exOf o) a' c'.w) → cd.wp P Q a c.w
  | .skip, cd, Q, c, e, e', g, g', a, o, hb, hn, S, h, hQ => by
    cases cd <;> simp only [codeB, Bool.false_eq_true] at hb
    simp only [codeE] at h; cases h
    exact wp_skip (hQ c a (Evo.refl c) S)
  | .reg d aos, cd, Q, c, e, e', g, g', a, o, hb, hn, S, h, hQ => by
    cases cd <;> simp only [codeB, Bool.false_eq_true] at hb
    simp only [Bool.and_eq_true, beq_iff_eq] at hb
    obtain ⟨rfl, hb⟩ := hb
    simp only [codeE] at h
    split at h
    · rename_i e1 g1 h1
      cases h
      exact region_wp hcall hk hm hb hn S h1 hQ
    · cases h
  | .seq x y, cd, Q, c, e, e', g, g', a, o, hb, hn, S, h, hQ => by
    cases cd <;> simp only [codeB, Bool.false_eq_true] at hb
    simp only [Bool.and_eq_true] at hb
    simp only [codeE] at h
    refine wp_seq ?_
    split at h
    · rename_i e1 g1 h1
      exact code_wp hcall hk hm k x hb.1 hn S h1 fun c1 a1 E1 S1 => code_wp hcall hk hm k y hb.2 (E1.num.trans hn) S1 h fun c' a' E' S' => hQ c' a' (E1.trans E') S'
    · rename_i hne
      refine code_wp hcall hk hm k x hb.1 hn S h fun c1 a1 E1 S1 => ?_
      have := hQ c1 a1 E1 S1
      cases o with
      | nrm => exact (hne _ _ h).elim
      | ext n => exact this
      | ret => exact this
  | .cond x t f, cd, Q, c, e, e', g, g', a, o, hb, hn, S, h, hQ => by
    cases cd <;> simp only [codeB, Bool.false_eq_true] at hb
    simp only [Bool.and_eq_true] at hb
    obtain ⟨⟨h1, h2⟩, h3⟩ := hb
    have hr := opdB_rep S.env (hn ▸ h1)
    simp only [codeE] at h
    split at h
    · rename_i b hx
      rw [hx] at hr
      refine wp_cond (t := b) (by
        generalize a.eval _ = u at hr
        cases hr; rfl) ?_
      cases b with
      | true =>
        simp only [if_true] at h ⊢
        exact code_wp hcall hk hm k t h2 hn S h hQ
      | false =>
        simp only [Bool.false_eq_true, if_false] at h ⊢
        exact code_wp hcall hk hm k f h3 hn S h hQ
    · cases h
  | .blk i x, cd, Q, c, e, e', g, g', a, o, hb, hn, S, h, hQ => by
    cases cd <;> simp only [codeB, Bool.false_eq_true] at hb
    simp only [Bool.and_eq_true, beq_iff_eq] at hb
    obtain ⟨rfl, hb⟩ := hb
    simp only [codeE] at h
    refine wp_block ?_
    split at h
    · rename_i n e1 g1 h1
      cases h
      refine code_wp hcall hk hm k x hb hn S h1 fun c1 a1 E1 S1 => ?_
      have := hQ c1 a1 E1 S1
      show if _ then _ else _
      split
      · rename_i hni; rw [if_pos hni] at this; exact this
      · rename_i hni; rw [if_neg hni] at this; exact this
    · rename_i hne
      refine code_wp hcall hk hm k x hb hn S h fun c1 a1 E1 S1 => ?_
      have := hQ c1 a1 E1 S1
      cases o with
      | nrm => exact this
      | ext n => exact (hne _ _ _ h).elim
      | ret => exact this
  | .scp x, cd, Q, c, e, e', g, g', a, o, hb, hn, S, h, hQ => by
    cases cd <;> simp only [codeB, Bool.false_eq_true] at hb
    simp only [codeE] at h
    refine wp_scope_straight (code_wp hcall hk hm k x hb hn S h fun c1 a1 E1 S1 => ?_)
    have := hQ c1 a1 E1 S1
    cases o <;> exact this
  | .lab, cd, Q, c, e, e', g, g', a, o, hb, hn, S, h, hQ => by
    cases cd <;> simp only [codeB, Bool.false_eq_true] at hb
    simp only [codeE] at h; cases h
    exact wp_label (hQ c a (Evo.refl c) S)
  | .imm t x, cd, Q, c, e, e', g, g', a, o, hb, hn, S, h, hQ => by
    have hb : codeB P num N cd x = true := by cases cd <;> simpa only [codeB] using hb
    simp only [codeE] at h
    split at h
    · rename_i v hv
      have E := Evo.lock c (vis g.hp depth (e t))
      have S1 := S.lock (vis g.hp depth (e t))
      have hr := frz_rep S.ok (hp := g.hp) (ids := vis g.hp depth (e t)) (fun i b hib => by rw [S.hp]; exact hib) depth hv (fun _ h => h) (S.env t)
      have S2 : St N (c.lock (vis g.hp depth (e t))) (upd e t v) ⟨Ab.lock g.hp (vis g.hp depth (e t)), g.nx⟩ a := by
        refine ⟨fun t' => ?_, S1.ok, S1.hp, S1.size, S1.defers⟩
        unfold upd
        split
        · rename_i ht; subst ht; exact hr.up
        · exact S1.env t'
      exact code_wp hcall hk hm k x (c := c.lock (vis g.hp depth (e t))) hb (E.num.trans hn) S2 h fun c1 a1 E1 S1 => hQ c1 a1 (E.trans E1) S1
    · cases h
  | .lck t x, cd, Q, c, e, e', g, g', a, o, hb, hn, S, h, hQ => by
    have hb : codeB P num N cd x = true := by cases cd <;> simpa only [codeB] using hb
    simp only [codeE] at h
    have E := Evo.lock c (vis g.hp depth (e t))
    exact code_wp hcall hk hm k x (c := c.lock (vis g.hp depth (e t))) hb (E.num.trans hn) (S.lock _) h fun c1 a1 E1 S1 => hQ c1 a1 (E.trans E1) S1
  | .loop x, cd, Q, c, e, e', g, g', a, o, hb, hn, S, h, hQ => by
    cases cd <;> simp only [codeB, Bool.false_eq_true] at hb
    simp only [codeE] at h
    exact wp_loop_rounds k (rounds_wp (fun hn S h hQ => code_wp hcall hk hm k x hb hn S h hQ) k hn S h hQ (iter_out k h))
  | .ext i, cd, Q, c, e, e', g, g', a, o, hb, hn, S, h, hQ => by
    cases cd <;> simp only [codeB, Bool.false_eq_true] at hb
    simp only [beq_iff_eq] at hb
    subst hb
    simp only [codeE] at h; cases h
    exact wp_exit (hQ c a (Evo.refl c) S)
  | .ret, cd, Q, c, e, e', g, g', a, o, hb, hn, S, h, hQ => by
    cases cd <;> simp only [codeB, Bool.false_eq_true] at hb
    simp only [codeE] at h; cases h
    exact wp_ret (hQ c a (Evo.refl c) S)
end

def resB (P : Program) : List ResultVar → List ARes → Bool
  | [], [] => true
  | .tmp t :: rs, .t t' :: rs' => (t == t') && resB P rs rs'
  | .cell a t :: rs, .cell a' agg :: rs' => (a == a') && aggB P t agg && resB P rs rs'
  | _, _ => false
/-- The whole look at a function. -/
def funB (P : Program) (nm : Nat → Nat) (fn : Func) (A : AFun) : Bool :=
  (match fn.body with
   | some cd => codeB P nm fn.ntmps cd A.body
   | none => false) && resB P fn.results.toList A.res && !(fn.name == "runtime.NumGoroutine")

def resVar (tmps : Array Value) : ResultVar → Sem Value
  | .tmp t => pure (tmps.getD t undef)
  | .cell a t => do loadVar t (← asAddr (tmps.getD a undef))
theorem results_eq (fn : Func) (tmps : Array Value) : results fn tmps = (fn.results.mapM (resVar tmps) >>= fun vs => pure (if h : vs.size = 1 then vs[0] else .tuple vs)) := by
  unfold results
  congr 1
theorem resB_ok {P : Program} {c : Cx} {e : Env} {a : Act} {g : G} (he : EnvOk c e a) (K : Ok c g.nx) (hg : c.hp = g.hp) : ∀ {rs : List ResultVar} {asx : List ARes} {vs : List AV}, resB P rs asx = true → resAll e g asx = some vs → ∃ us : List Value, (rs.mapM (resVar a.tmps)).run P c.w = .ok us c.w ∧ Reps c true vs us
  | [], [], vs, _, h => by
    simp only [resAll] at h; cases h
    exact ⟨[], rfl, Reps.nil⟩
  | .tmp t :: rs, .t t' :: asx, vs, hb, h => by
    simp only [resB, Bool.and_eq_true, beq_iff_eq] at hb
    obtain ⟨rfl, hb⟩ := hb
    simp only [resAll, resOne] at h
    split at h
    · rename_i v vs' h1 h2
      cases h1; cases h
      obtain ⟨us, hu, hr⟩ := resB_ok he K hg hb h2
      refine ⟨a.tmps.getD t undef :: us, ?_, Reps.cons (he t) hr⟩
      rw [List.mapM_cons, Sem.run_bind]
      show Result.andThen (.ok (a.tmps.getD t undef) c.w) _ = _
      rw [Result.andThen_ok, Sem.run_bind, hu]
      rfl
    · cases h
  | .cell q t :: rs, .cell q' agg :: asx, vs, hb, h => by
    simp only [resB, Bool.and_eq_true, beq_iff_eq] at hb
    obtain ⟨⟨rfl, hagg⟩, hb⟩ := hb
    simp only [resAll] at h
    split at h
    · rename_i v vs' h1 h2
      cases h
      obtain ⟨us, hu, hr⟩ := resB_ok he K hg hb h2
      simp only [resOne] at h1
      split at h1
      · rename_i b off hq
        split at h1
        · rename_i cs ro hbk
          have hrq := he q
          rw [hq] at hrq
          have hv := rep_mp hrq
          have hbk' : c.hp b = some (.cells cs ro) := by rw [hg]; exact hbk
          obtain ⟨_, ws, ty, g2, g3, _⟩ := K.cells b cs ro hbk'
          obtain ⟨val, hrun, hval⟩ := run_loadVar_ab (P := P) (w := c.w) hagg g3 h1 (ad := ⟨(c.loc b).1, off, none⟩) (fun j u hu => by rw [add_mk, cell_of_heap g2]; simpa using hu)
          refine ⟨val :: us, ?_, Reps.cons hval hr⟩
          have hone : (resVar a.tmps (.cell q t)).run P c.w = .ok val c.w := by
            simp only [resVar, hv]
            exact hrun
          rw [List.mapM_cons, Sem.run_bind, hone, Result.andThen_ok, Sem.run_bind, hu]
          rfl
        · cases h1
      · cases h1
    · cases h
  | [], _ :: _, _, h, _ => by simp [resB] at h
  | .tmp _ :: _, [], _, h, _ => by simp [resB] at h
  | .tmp _ :: _, .cell _ _ :: _, _, h, _ => by simp [resB] at h
  | .cell _ _ :: _, [], _, h, _ => by simp [resB] at h
  | .cell _ _ :: _, .t _ :: _, _, h, _ => by simp [resB] at h

theorem res_ok {P : Program} {c : Cx} {e : Env} {a : Act} {g : G} (he : EnvOk c e a) (K : Ok c g.nx) (hg : c.hp = g.hp) {fn : Func} {asx : List ARes} {v : AV} (hb : resB P fn.results.toList asx = true) (h : resE asx e g = some v) : ∃ u, (results fn a.tmps).run P c.w = .ok u c.w ∧ Rep c true v u := by
  unfold resE at h
  have key : ∀ vs, resAll e g asx = some vs → ∃ us : List Value, (results fn a.tmps).run P c.w = .ok (if h : us.toArray.size = 1 then us.toArray[0] else .tuple us.toArray) c.w ∧ Reps c true vs us := by
    intro vs hv
    obtain ⟨us, hu, hr⟩ := resB_ok (P := P) he K hg hb hv
    refine ⟨us, ?_, hr⟩
    rw [results_eq, Array.mapM_eq_mapM_toList, Sem.run_bind, Sem.run_map, hu]
    rfl
  split at h
  · rename_i v' hv
    cases h
    obtain ⟨us, hu, hr⟩ := key _ hv
    obtain ⟨u, us', rfl, h1, h2⟩ := Reps.cons_inv hr
    have := Reps.nil_inv h2
    subst this
    exact ⟨u, by simpa using hu, h1⟩
  · rename_i vs hne hv
    cases h
    obtain ⟨us, hu, hr⟩ := key _ hv
    refine ⟨_, hu, ?_⟩
    rw [dif_neg]
    · exact .tup us hr.1 hr.2
    · intro hs
      have hl : vs.length = 1 := by rw [hr.1]; simpa using hs
      match vs, hl, hne with
      | [v], _, hne => exact hne v rfl
  · cases h

theorem argEnv_ok {c : Cx} {asx : List AV} {vs : List Value} (h : Reps c true asx vs) (n : Nat) : EnvOk c (argEnv asx) { tmps := vs.toArray ++ Array.replicate n undef, defers := [] } := by
  intro t
  unfold argEnv
  rw [List.getD_eq_getElem?_getD]
  show Rep c true _ ((vs.toArray ++ Array.replicate n undef).getD t undef)
  rw [Array.getD_eq_getD_getElem?, Array.getElem?_append]
  by_cases ht : t < vs.length
  · rw [if_pos (by simpa using ht)]
    have ht' : t < asx.length := by rw [h.1]; exact ht
    rw [List.getElem?_eq_getElem ht', List.getElem?_toArray, List.getElem?_eq_getElem ht]
    exact h.2 t _ _ (List.getElem?_eq_getElem ht') (List.getElem?_eq_getElem ht)
  · rw [if_neg (by simpa using ht), List.getElem?_eq_none (by have := h.1; omega)]
    rw [Array.getElem?_replicate]
    split <;> exact .undef

/-- The functions of 'F' are the program's. -/
def Table (P : Program) (num : Nat → Nat) (F : Funs) : Prop := ∀ f A, F f = some A → ∃ fn, P.funcs[num f]? = some fn ∧ funB P num fn A = true

theorem callE_ok {P : Program} {num : Nat → Nat} {F : Funs} (hT : Table P num F) (hm : P.follows .mixedOrders = true) : ∀ k, CallKeep (callE F k) ∧ CallOk P num (callE F k)
  | 0 => ⟨fun f asx g v g' h => by simp [callE] at h, fun f asx g v g' h => by simp [callE] at h⟩
  | k + 1 => by
    obtain ⟨hk, hcall⟩ := callE_ok hT hm k
    have keep : CallKeep (callE F (k + 1)) := by
      intro f asx g v g' h
      simp only [callE] at h
      split at h
      · cases h
      · rename_i fn hF
        split at h
        · rename_i e1 g1 h1
          have := codeE_keep hk k _ h1
          cases hr : resE fn.res e1 g1 with
          | none => rw [hr] at h; cases h
          | some x => rw [hr] at h; cases h; exact this
        · rename_i e1 g1 h1
          have := codeE_keep hk k _ h1
          cases hr : resE fn.res e1 g1 with
          | none => rw [hr] at h; cases h
          | some x => rw [hr] at h; cases h; exact this
        · cases h
    refine ⟨keep, fun f asx g v g' h => ⟨keep f asx g v g' h, fun c vargs hn hg K hr => ?_⟩⟩
    simp only [callE] at h
    split at h
    · cases h
    · rename_i A hF
      obtain ⟨fn, hfn, hb⟩ := hT f A hF
      simp only [funB, Bool.and_eq_true, Bool.not_eq_true'] at hb
      obtain ⟨⟨hb1, hb2⟩, hb3⟩ := hb
      split at hb1
      · rename_i cd hbody
        refine ⟨?_, fn, hfn, by rw [hbody]; rfl, hb3⟩
        have S : St fn.ntmps c (argEnv asx) g { tmps := vargs.toArray ++ Array.replicate (fn.ntmps - vargs.toArray.size) undef, defers := [] } :=
          ⟨argEnv_ok hr _, K, hg, by simp; omega, rfl⟩
        have fin : ∀ o e1 g1, (o = .nrm ∨ o = .ret) → codeE (callE F k) k A.body (argEnv asx) g = some (o, e1, g1) → (resE A.res e1 g1).map (·, g1) = some (v, g') → Calls P (num f) vargs.toArray c.w (fun en w' => ∃ val c', en = .returned val ∧ c'.w = w' ∧ Evo c c' ∧ Ok c' g'.nx ∧ c'.hp = g'.hp ∧ Rep c' true v val) := by
          intro o e1 g1 ho h1 h2
          cases hre : resE A.res e1 g1 with
          | none => rw [hre] at h2; cases h2
          | some x =>
            rw [hre] at h2; cases h2
            refine calls_of_wp hfn hbody (code_wp hcall hk hm k A.body hb1 hn S h1 fun c' a' E S' => ?_)
            obtain ⟨u, hu, hru⟩ := res_ok (P := P) S'.env S'.ok S'.hp hb2 hre
            have : a'.defers = [] ∧ ∃ v', (results fn a'.tmps).run P c'.w = .ok v' c'.w ∧ (fun (en : Ending) (w' : World) => ∃ val c'', en = .returned val ∧ c''.w = w' ∧ Evo c c'' ∧ Ok c'' g'.nx ∧ c''.hp = g'.hp ∧ Rep c'' true v val) (.returned v') c'.w :=
              ⟨S'.defers, u, hu, u, c', rfl, rfl, E, S'.ok, S'.hp, hru⟩
            rcases ho with rfl | rfl
            · exact this
            · exact this
        split at h
        · rename_i e1 g1 h1; exact fin .nrm e1 g1 (.inl rfl) h1 h
        · rename_i e1 g1 h1; exact fin .ret e1 g1 (.inr rfl) h1 h
        · cases h
      · cases hb1

/-- What the abstract machine answers, the program answers. -/
theorem calls_bool {P : Program} {num : Nat → Nat} {F : Funs} (hT : Table P num F) (hm : P.follows .mixedOrders = true) {k f : Nat} {asx : List AV} {b : Bool} {g' : G} (h : callE F k f asx g0 = some (.b b, g')) {w : World} {vargs : List Value} {J : Addr → Prop}
    (hr : ∀ c : Cx, c.num = num → c.base = w.heap.size → c.J = J → c.w = w → Reps c true asx vargs) : Calls P (num f) vargs.toArray w (fun e w' => e = .returned (.bool b) ∧ Below w.heap.size w w') := by
  let c : Cx := ⟨num, w.heap.size, J, w, fun _ => (0, 0), fun _ => none⟩
  have K : Ok c 0 := {
    basele := Nat.le_refl _
    cells := fun _ _ _ h => by cases h
    maps := fun _ _ h => by cases h
    toks := fun _ h => by cases h
    inj := fun _ _ _ h => by obtain ⟨_, h, _⟩ := h; cases h
    fresh := fun _ _ => rfl }
  have := ((callE_ok hT hm k).2 f asx g0 _ _ h).2 c vargs rfl rfl K (hr c rfl rfl rfl rfl)
  refine Calls.mono this.1 fun e w' ⟨val, c', h1, h2, E, _, _, hrep⟩ => ?_
  cases hrep
  exact ⟨h1, h2 ▸ E.below⟩
end Go.Ab
end
section
/- Runs of the abstract machine, with what is asked at their end. -/
set_option linter.unusedVariables false
namespace Go.Ab

/-- What a value leads to is locked: never written again. -/
def lckG (g : G) (v : AV) : G := ⟨lock g.hp (vis g.hp depth v), g.nx⟩
theorem lck_nx (g v) : (lckG g v).nx = g.nx := rfl
theorem lck_hit {g : G} {v : AV} {i : Nat} {cs : List AV} {ro : Bool} (h : g.hp i = some (.cells cs ro)) (hv : ro = false → i ∈ vis g.hp depth v) : (lckG g v).hp i = some (.cells cs true) := by
  show lock _ _ _ = _
  unfold lock
  rw [h]
  cases ro with
  | true => split <;> rfl
  | false => rw [if_pos (by simpa using hv rfl)]
section
variable (F : Funs)
def W (c : ACode) (e : Env) (g : G) (Q : Out → Env → G → Prop) : Prop := ∃ o e' g', codeS F c e g = some (o, e', g') ∧ Q o e' g'
def WR (d : Bool) (b j : Nat) (ops : List AOper) (e : Env) (g : G) (K : Env → G → Prop) : Prop := ∃ e' g', regE (callS F) d b j ops e g = some (e', g') ∧ K e' g'
def thenQ (b : ACode) (Q : Out → Env → G → Prop) : Out → Env → G → Prop
  | .nrm, e, g => W F b e g Q
  | o, e, g => Q o e g
def selW (t f : ACode) (e : Env) (g : G) (Q : Out → Env → G → Prop) : AV → Prop
  | .b true => W F t e g Q
  | .b false => W F f e g Q
  | _ => False
def blkQ (id : Nat) (Q : Out → Env → G → Prop) : Out → Env → G → Prop
  | .ext n, e, g => if n = id then Q .nrm e g else Q (.ext n) e g
  | o, e, g => Q o e g
def nrmQ (Q : Out → Env → G → Prop) (e : Env) (g : G) : Prop := Q .nrm e g
def bindO (d : Bool) (b j : Nat) (dst : Option Nat) (os : List AOper) (e : Env) (K : Env → G → Prop) : Option (AV × G) → Prop
  | some (v, g) => WR F d b j os (put e dst v) g K
  | none => False
def selO (d : Bool) (b j : Nat) (dst : Option Nat) (os : List AOper) (e : Env) (op : AOp) (pre : List Nat) (g : G) (K : Env → G → Prop) (w : Bool) : Prop :=
  if w then bindO F d b (j + 1) dst os e K (opE (callS F) (allow d b pre) b (b + j) op e g) else WR F d b (j + 1) os (put e dst .undef) g K
end

section
variable {F : Funs}
theorem W_skip {e g Q} : W F .skip e g Q = Q .nrm e g := by
  unfold W; rw [codeS_skip]; apply propext
  exact ⟨fun ⟨o, e', g', h, q⟩ => by cases h; exact q, fun q => ⟨_, _, _, rfl, q⟩⟩
theorem W_ext {id e g Q} : W F (.ext id) e g Q = Q (.ext id) e g := by
  unfold W; rw [codeS_ext]; apply propext
  exact ⟨fun ⟨o, e', g', h, q⟩ => by cases h; exact q, fun q => ⟨_, _, _, rfl, q⟩⟩
theorem W_ret {e g Q} : W F .ret e g Q = Q .ret e g := by
  unfold W; rw [codeS_ret]; apply propext
  exact ⟨fun ⟨o, e', g', h, q⟩ => by cases h; exact q, fun q => ⟨_, _, _, rfl, q⟩⟩
theorem W_seq {a b e g Q} : W F (.seq a b) e g Q = W F a e g (thenQ F b Q) := by
  unfold W; rw [cS_seq]; apply propext
  constructor
  · intro ⟨o, e', g', h, q⟩
    cases hc : codeS F a e g with
    | none => rw [hc] at h; cases h
    | some r =>
      obtain ⟨o1, e1, g1⟩ := r
      rw [hc] at h
      refine ⟨o1, e1, g1, rfl, ?_⟩
      cases o1 with
      | nrm => exact ⟨o, e', g', h, q⟩
      | ext n => cases h; exact q
      | ret => cases h; exact q
  · intro ⟨o, e', g', h, q⟩
    rw [h]
    cases o with
    | nrm => exact q
    | ext n => exact ⟨_, _, _, rfl, q⟩
    | ret => exact ⟨_, _, _, rfl, q⟩
theorem thenQ_nrm {b Q e g} : thenQ F b Q .nrm e g = W F b e g Q := rfl
theorem thenQ_ext {b Q n e g} : thenQ F b Q (.ext n) e g = Q (.ext n) e g := rfl
theorem thenQ_ret {b Q e g} : thenQ F b Q .ret e g = Q .ret e g := rfl
theorem W_cond {c t f e g Q} : W F (.cond c t f) e g Q = selW F t f e g Q (c.ev e) := by
  unfold W; rw [cS_cond]; apply propext
  generalize c.ev e = v
  cases v <;> simp only [selS, selW] <;> try (constructor <;> (intro h; first | exact h.elim | (obtain ⟨_, _, _, h, _⟩ := h; cases h)))
  rename_i x
  cases x <;> simp [W]
theorem selW_true {t f e g Q} : selW F t f e g Q (.b true) = W F t e g Q := rfl
theorem selW_false {t f e g Q} : selW F t f e g Q (.b false) = W F f e g Q := rfl
theorem selW_if {t f e g Q} (c : Bool) : selW F t f e g Q (.b c) = ((c = true → W F t e g Q) ∧ (c = false → W F f e g Q)) := by cases c <;> simp [selW]
theorem W_imm {t c e g Q v} (h : frz g.hp depth (e t) = some v) : W F (.imm t c) e g Q = W F c (upd e t v) (lckG g (e t)) Q := by
  unfold W; rw [codeS_imm, h]; rfl
theorem W_immM {t : Nat} {c : ACode} {e : Env} {g : G} {Q : Out → Env → G → Prop} (M : Env → G → Prop) (h0 : M e g) (h : ∀ e g, M e g → W F (.imm t c) e g Q) : W F (.imm t c) e g Q := h e g h0
theorem W_scp {c e g Q} : W F (.scp c) e g Q = W F c e g Q := by unfold W; rw [codeS_scp]
theorem W_lab {e g Q} : W F .lab e g Q = Q .nrm e g := by
  unfold W; rw [codeS_lab]; apply propext
  exact ⟨fun ⟨o, e', g', h, q⟩ => by cases h; exact q, fun q => ⟨_, _, _, rfl, q⟩⟩
theorem W_lck {t c e g Q} : W F (.lck t c) e g Q = W F c e (lckG g (e t)) Q := by unfold W; rw [codeS_lck]; rfl
theorem W_blk {id c e g Q} : W F (.blk id c) e g Q = W F c e g (blkQ id Q) := by
  unfold W; rw [cS_blk]; apply propext
  constructor
  · intro ⟨o, e', g', h, q⟩
    cases hc : codeS F c e g with
    | none => rw [hc] at h; cases h
    | some r =>
      obtain ⟨o1, e1, g1⟩ := r
      rw [hc] at h
      refine ⟨o1, e1, g1, rfl, ?_⟩
      cases o1 with
      | nrm => cases h; exact q
      | ext n =>
        cases h
        show if n = id then _ else _
        split
        · rename_i hn; rw [if_pos hn] at q; exact q
        · rename_i hn; rw [if_neg hn] at q; exact q
      | ret => cases h; exact q
  · intro ⟨o, e', g', h, q⟩
    rw [h]
    cases o with
    | nrm => exact ⟨_, _, _, rfl, q⟩
    | ext n =>
      refine ⟨_, _, _, rfl, ?_⟩
      have q : if n = id then Q .nrm e' g' else Q (.ext n) e' g' := q
      split
      · rename_i hn; rw [if_pos hn] at q; exact q
      · rename_i hn; rw [if_neg hn] at q; exact q
    | ret => exact ⟨_, _, _, rfl, q⟩
theorem blkQ_nrm {id Q e g} : blkQ id Q .nrm e g = Q .nrm e g := rfl
theorem blkQ_ret {id Q e g} : blkQ id Q .ret e g = Q .ret e g := rfl
theorem blkQ_same {id Q e g} : blkQ id Q (.ext id) e g = Q .nrm e g := if_pos rfl
theorem blkQ_ne {id n Q e g} (h : n ≠ id) : blkQ id Q (.ext n) e g = Q (.ext n) e g := if_neg h
theorem W_reg {d ops e g Q} : W F (.reg d ops) e g Q = WR F d g.nx 0 ops e ⟨g.hp, g.nx + ops.length⟩ (nrmQ Q) := by
  unfold W WR; rw [cS_reg]; apply propext
  constructor
  · intro ⟨o, e', g', h, q⟩
    cases hc : regE (callS F) d g.nx 0 ops e ⟨g.hp, g.nx + ops.length⟩ with
    | none => rw [hc] at h; cases h
    | some r =>
      rw [hc] at h
      cases h
      exact ⟨_, _, rfl, q⟩
  · intro ⟨e', g', h, q⟩
    rw [h]
    exact ⟨.nrm, e', g', rfl, q⟩
theorem nrmQ_is {Q e g} : nrmQ Q e g = Q .nrm e g := rfl
theorem WR_nil {d b j e g K} : WR F d b j [] e g K = K e g := by
  unfold WR; apply propext
  simp only [regE_nil]
  exact ⟨fun ⟨e', g', h, q⟩ => by cases h; exact q, fun q => ⟨_, _, rfl, q⟩⟩
theorem WR_cons {d b j dst op grd pre os e g K} : WR F d b j ({ dst, op, grd, pre } :: os) e g K = selO F d b j dst os e op pre g K (wanted e grd) := by
  unfold WR; rw [regE_cons]
  generalize wanted e grd = w
  cases w
  · rfl
  · rw [selR_true]
    show _ = bindO _ _ _ _ _ _ _ _ _
    cases opE (callS F) (allow d b pre) b (b + j) op e g with
    | none =>
      apply propext
      constructor
      · intro ⟨_, _, h, _⟩; cases h
      · intro h; exact False.elim h
    | some r => rfl
theorem selO_true {d b j dst os e op pre g K} : selO F d b j dst os e op pre g K true = bindO F d b (j + 1) dst os e K (opE (callS F) (allow d b pre) b (b + j) op e g) := rfl
theorem selO_false {d b j dst os e op pre g K} : selO F d b j dst os e op pre g K false = WR F d b (j + 1) os (put e dst .undef) g K := rfl
theorem selO_if {d b j dst os e op pre g K} (w : Bool) : selO F d b j dst os e op pre g K w = ((w = true → bindO F d b (j + 1) dst os e K (opE (callS F) (allow d b pre) b (b + j) op e g)) ∧ (w = false → WR F d b (j + 1) os (put e dst .undef) g K)) := by cases w <;> simp [selO]
theorem bindO_some {d b j dst os e K v g} : bindO F d b j dst os e K (some (v, g)) = WR F d b j os (put e dst v) g K := rfl

theorem W_mono {c e g} {Q Q' : Out → Env → G → Prop} (h : W F c e g Q) (hq : ∀ o e g, Q o e g → Q' o e g) : W F c e g Q' := by
  obtain ⟨o, e', g', h1, h2⟩ := h; exact ⟨o, e', g', h1, hq _ _ _ h2⟩

def loopQ (I : Nat → Env → G → Prop) (m : Nat) (Q : Out → Env → G → Prop) : Out → Env → G → Prop
  | .nrm, e, g => ∃ m', m' < m ∧ I m' e g
  | o, e, g => Q o e g
theorem loopQ_nrm {I m Q e g} : loopQ I m Q .nrm e g = ∃ m', m' < m ∧ I m' e g := rfl
theorem loopQ_ext {I m Q n e g} : loopQ I m Q (.ext n) e g = Q (.ext n) e g := rfl
theorem loopQ_ret {I m Q e g} : loopQ I m Q .ret e g = Q .ret e g := rfl
theorem W_loop {c e g Q} (I : Nat → Env → G → Prop) (n : Nat) (h0 : I n e g) (h : ∀ m e g, I m e g → W F c e g (loopQ I m Q)) : W F (.loop c) e g Q := by
  have key : ∀ m e g, I m e g → W F (.loop c) e g Q := by
    intro m
    induction m using Nat.strongRecOn with
    | _ m ih =>
      intro e g hI
      obtain ⟨o, e1, g1, h1, h2⟩ := h m e g hI
      unfold W
      rw [cS_loop, h1]
      cases o with
      | nrm =>
        obtain ⟨m', hm, hI'⟩ := h2
        exact ih m' hm e1 g1 hI'
      | ext n => exact ⟨_, _, _, rfl, h2⟩
      | ret => exact ⟨_, _, _, rfl, h2⟩
  exact key n e g h0

/-! ### calls on frozen arguments -/
noncomputable def pureS (F : Funs) (f : Nat) (asx : List AV) : Option AV := match callS F f asx g0 with
  | some (v, g) => frz g.hp depth v
  | none => none
noncomputable def vPure (F : Funs) (al : Nat → Bool) (f : AV) (args : List AV) (g : G) : Option (AV × G) := vCall (callS F) al 0 .pure f args g
theorem o_pure {al lo id e g} (f : Opd) (asx : List Opd) : opE (callS F) al lo id (.call .pure f asx) e g = vPure F al (f.ev e) (asx.map (·.ev e)) g := rfl
theorem vPure_ok {al : Nat → Bool} {fid : Nat} {fst caps args bs : List AV} {g : G} {v : AV} (h1 : frzL (rd g al) depth (fst ++ args ++ caps) = some bs) (h2 : pureS F fid bs = some v) (h3 : (flat v || ((fst ++ args ++ caps).flatMap (vis (rd g al) depth)).isEmpty) = true) :
    vPure F al (.fn fid fst caps) args g = some (v, g) := by
  unfold pureS at h2
  split at h2
  · rename_i v0 g' hc
    have hc' : callS F fid bs ⟨fun _ => none, 0⟩ = some (v0, g') := hc
    unfold vPure vCall
    simp only [h1, hc', h2, h3, if_true]
  · cases h2
def retQ (rs : List ARes) (v : AV) : Out → Env → G → Prop
  | .ext _, _, _ => False
  | _, e, g => (match resE rs e g with | some v0 => frz g.hp depth v0 | none => none) = some v
theorem retQ_nrm {rs v e g} : retQ rs v .nrm e g = ((match resE rs e g with | some v0 => frz g.hp depth v0 | none => none) = some v) := rfl
theorem retQ_ret {rs v e g} : retQ rs v .ret e g = ((match resE rs e g with | some v0 => frz g.hp depth v0 | none => none) = some v) := rfl
theorem pure_of {f : Nat} {fn : AFun} {asx : List AV} {v : AV} (hF : F f = some fn) (h : W F fn.body (argEnv asx) g0 (retQ fn.res v)) : pureS F f asx = some v := by
  obtain ⟨o, e, g, h1, h2⟩ := h
  unfold pureS
  rw [callS_eq, hF]
  simp only [h1]
  cases o with
  | ext n => exact h2.elim
  | nrm =>
    have h2 : (match resE fn.res e g with | some v0 => frz g.hp depth v0 | none => none) = some v := h2
    cases hr : resE fn.res e g with
    | none => rw [hr] at h2; cases h2
    | some v0 => rw [hr] at h2; simp only [hr, Option.map_some]; exact h2
  | ret =>
    have h2 : (match resE fn.res e g with | some v0 => frz g.hp depth v0 | none => none) = some v := h2
    cases hr : resE fn.res e g with
    | none => rw [hr] at h2; cases h2
    | some v0 => rw [hr] at h2; simp only [hr, Option.map_some]; exact h2
end
theorem argEnv_0 (a l) : argEnv (a :: l) 0 = a := rfl
theorem argEnv_1 (a b l) : argEnv (a :: b :: l) 1 = b := rfl
theorem argEnv_2 (a b c l) : argEnv (a :: b :: c :: l) 2 = c := rfl
theorem argEnv_3 (a b c d l) : argEnv (a :: b :: c :: d :: l) 3 = d := rfl
theorem argEnv_4 (a b c d e l) : argEnv (a :: b :: c :: d :: e :: l) 4 = e := rfl
theorem argEnv_5 (a b c d e f l) : argEnv (a :: b :: c :: d :: e :: f :: l) 5 = f := rfl
theorem res_1 (n e g) : resE [.t n] e g = some (e n) := rfl
theorem res_2 (n m e g) : resE [.t n, .t m] e g = some (.tup [e n, e m]) := rfl

/-! ### what is laid out -/
theorem frz_i (hp) (d : Nat) (k n) : frz hp (d + 1) (.i k n) = some (.i k n) := by simp only [frz]
theorem frz_flat {hp} {d : Nat} {v : AV} (h : flat v = true) : frz hp (d + 1) v = some v := by cases v <;> first | (cases h; done) | simp only [frz]
theorem frzL_flat {hp} {d : Nat} : ∀ {cs : List AV}, cs.all flat = true → frzL hp (d + 1) cs = some cs
  | [], _ => by simp only [frzL]
  | c :: cs, h => by
    simp only [List.all_cons, Bool.and_eq_true] at h
    simp only [frzL, frz_flat h.1, frzL_flat h.2]
theorem frzL_nil (hp d) : frzL hp d [] = some [] := by simp only [frzL]
def consO (c : Option AV) (cs : Option (List AV)) : Option (List AV) := match c, cs with
  | some c, some cs => some (c :: cs)
  | _, _ => none
theorem consO_ok (c cs) : consO (some c) (some cs) = some (c :: cs) := rfl
theorem frzL_cons (hp d c cs) : frzL hp d (c :: cs) = consO (frz hp d c) (frzL hp d cs) := by
  simp only [frzL]
  cases frz hp d c <;> cases frzL hp d cs <;> rfl
theorem frz_d_i (hp k n) : frz hp depth (.i k n) = some (.i k n) := by show frz hp (8 + 1) _ = _; simp only [frz]
theorem frz_d_b (hp x) : frz hp depth (.b x) = some (.b x) := by show frz hp (8 + 1) _ = _; simp only [frz]
theorem frz_d_s (hp x) : frz hp depth (.s x) = some (.s x) := by show frz hp (8 + 1) _ = _; simp only [frz]
theorem frz_d_nilp (hp) : frz hp depth .nilp = some .nilp := by show frz hp (8 + 1) _ = _; simp only [frz]
theorem frz_d_ptr (hp cs) : frz hp depth (.ptr cs) = some (.ptr cs) := by show frz hp (8 + 1) _ = _; simp only [frz]
theorem frz_d_sl (hp cs n t) : frz hp depth (.sl cs n t) = some (.sl cs n .non) := by show frz hp (8 + 1) _ = _; simp only [frz]
theorem frz_d_mp {hp : Nat → Option Blk} {id off cs ro ds} (h : hp id = some (.cells cs ro)) (hf : frzL hp 8 (cs.drop off) = some ds) : frz hp depth (.mp id off) = some (.ptr ds) := by
  show frz hp (8 + 1) _ = _
  simp only [frz, h, hf, Option.map_some]
theorem frz_d_fn0 (hp f) : frz hp depth (.fn f [] []) = some (.fn f [] []) := by show frz hp (8 + 1) _ = _; simp only [frz, frzL]
theorem rd_is {g : G} {al : Nat → Bool} {id : Nat} (h : al id = true) : rd g al id = g.hp id := if_pos h

theorem frz_mp_flat {hp : Nat → Option Blk} {id off : Nat} {cs : List AV} {ro : Bool} (h : hp id = some (.cells cs ro)) (hf : cs.all flat = true) : frz hp depth (.mp id off) = some (.ptr (cs.drop off)) := by
  refine frz_d_mp h (frzL_flat ?_)
  rw [List.all_eq_true] at hf ⊢
  exact fun x hx => hf x (List.mem_of_mem_drop hx)
theorem frz_ms_flat {hp : Nat → Option Blk} {id off n : Nat} {cs : List AV} {ro : Bool} (h : hp id = some (.cells cs ro)) (hf : cs.all flat = true) : frz hp depth (.ms id off n) = some (.sl (cs.drop off) n .non) := by
  have : frzL hp 8 (cs.drop off) = some (cs.drop off) := by
    refine frzL_flat ?_
    rw [List.all_eq_true] at hf ⊢
    exact fun x hx => hf x (List.mem_of_mem_drop hx)
  show frz hp (8 + 1) _ = _
  simp only [frz, h, this, Option.map_some]
/-- As a rule for simp: the block, and whether it is plain, stand asx data. -/
noncomputable def frzB (hp : Nat → Option Blk) (off : Nat) (cs : List AV) (x : Bool) : Option (List AV) := if x then some (cs.drop off) else frzL hp 8 (cs.drop off)
noncomputable def frzP (hp : Nat → Option Blk) (off : Nat) (f : List AV → AV) : Option Blk → Option AV
  | some (.cells cs _) => (frzB hp off cs (cs.all flat)).map f
  | _ => none
theorem frzB_eq (hp : Nat → Option Blk) (off : Nat) (cs : List AV) : frzB hp off cs (cs.all flat) = frzL hp 8 (cs.drop off) := by
  unfold frzB
  split
  · rename_i hf
    refine (frzL_flat ?_).symm
    rw [List.all_eq_true] at hf ⊢
    exact fun x hx => hf x (List.mem_of_mem_drop hx)
  · rfl
theorem frz_P (hp : Nat → Option Blk) (id off : Nat) : frz hp depth (.mp id off) = frzP hp off .ptr (hp id) := by
  show frz hp (8 + 1) _ = _
  simp only [frz]
  unfold frzP
  simp only [frzB_eq]
  cases hp id with
  | none => rfl
  | some b => cases b <;> rfl
theorem frz_Q (hp : Nat → Option Blk) (id off n : Nat) : frz hp depth (.ms id off n) = frzP hp off (fun cs => .sl cs n .non) (hp id) := by
  show frz hp (8 + 1) _ = _
  simp only [frz]
  unfold frzP
  simp only [frzB_eq]
  cases hp id with
  | none => rfl
  | some b => cases b <;> rfl
theorem frzP_cells (hp off f cs ro) : frzP hp off f (some (.cells cs ro)) = (frzB hp off cs (cs.all flat)).map f := rfl
theorem frzB_true (hp off cs) : frzB hp off cs true = some (cs.drop off) := rfl
theorem map_some' (f : List AV → AV) (cs : List AV) : (some cs).map f = some (f cs) := rfl

noncomputable def purD (g : G) (vs : List Nat) : Option AV → Option (AV × G)
  | some v => if flat v || vs.isEmpty then some (v, g) else none
  | none => none
def purE (g : G) (v : AV) (x : Bool) : Option (AV × G) := if x then some (v, g) else none
theorem purD_some (g vs v) : purD g vs (some v) = purE g v (flat v || vs.isEmpty) := rfl
theorem purE_true (g v) : purE g v true = some (v, g) := rfl
noncomputable def purS (F : Funs) (f : Nat) (g : G) (vs : List Nat) : Option (List AV) → Option (AV × G)
  | some bs => purD g vs (pureS F f bs)
  | none => none
theorem purS_some (F f g vs bs) : purS F f g vs (some bs) = purD g vs (pureS F f bs) := rfl
theorem vPure_S (F : Funs) (al : Nat → Bool) (fid : Nat) (fst args caps : List AV) (g : G) :
    vPure F al (.fn fid fst caps) args g = purS F fid g ((fst ++ args ++ caps).flatMap (vis (rd g al) depth)) (frzL (rd g al) depth (fst ++ args ++ caps)) := by
  unfold vPure vCall
  simp only
  cases frzL (rd g al) depth (fst ++ args ++ caps) with
  | none => rfl
  | some bs =>
    rw [purS_some]
    unfold pureS g0
    simp only
    cases callS F fid bs ⟨fun _ => none, 0⟩ with
    | none => rfl
    | some r =>
      obtain ⟨v, g'⟩ := r
      simp only
      cases frz g'.hp depth v with
      | none => rfl
      | some v' => rfl
theorem flat_i (k n) : flat (.i k n) = true := rfl
theorem flat_b (x) : flat (.b x) = true := rfl
theorem flat_s (x) : flat (.s x) = true := rfl
theorem flat_nilp : flat .nilp = true := rfl
theorem flat_ptr (x) : flat (.ptr x) = false := rfl
theorem flat_sl (a b c) : flat (.sl a b c) = false := rfl
theorem flat_agg (a) : flat (.agg a) = false := rfl
theorem flat_tup (a) : flat (.tup a) = false := rfl
theorem vis_i (hp k n) : vis hp depth (.i k n) = [] := by show vis hp (8 + 1) _ = _; simp only [vis]
theorem vis_b (hp x) : vis hp depth (.b x) = [] := by show vis hp (8 + 1) _ = _; simp only [vis]
theorem vis_s (hp x) : vis hp depth (.s x) = [] := by show vis hp (8 + 1) _ = _; simp only [vis]
theorem vis_nilp (hp) : vis hp depth .nilp = [] := by show vis hp (8 + 1) _ = _; simp only [vis]
theorem vis_ptr (hp x) : vis hp depth (.ptr x) = [] := by show vis hp (8 + 1) _ = _; simp only [vis]
theorem vis_sl (hp a b c) : vis hp depth (.sl a b c) = [] := by show vis hp (8 + 1) _ = _; simp only [vis]
theorem vis_fn0 (hp f) : vis hp depth (.fn f [] []) = [] := by show vis hp (8 + 1) _ = _; simp only [vis, List.flatMap_nil, List.append_nil]
theorem isEmpty_nil : ([] : List Nat).isEmpty = true := rfl

/-! ### a place where roads join -/
def midQ (M : Env → G → Prop) : Out → Env → G → Prop
  | .nrm, e, g => M e g
  | _, _, _ => False
theorem midQ_nrm {M e g} : midQ M .nrm e g = M e g := rfl
theorem midQ_then {F : Funs} {rest Q} {M : Env → G → Prop} (h2 : ∀ e g, M e g → W F rest e g Q) (o e g) (h : midQ M o e g) : thenQ F rest Q o e g := by
  cases o with
  | nrm => exact h2 e g h
  | ext n => exact h.elim
  | ret => exact h.elim
theorem W_cut {F : Funs} {c rest e g Q} (M : Env → G → Prop) (h1 : W F c e g (midQ M)) (h2 : ∀ e g, M e g → W F rest e g Q) : W F c e g (thenQ F rest Q) := W_mono h1 (midQ_then h2)
theorem sel_cut {F : Funs} {t f rest e g Q v} (M : Env → G → Prop) (h1 : selW F t f e g (midQ M) v) (h2 : ∀ e g, M e g → W F rest e g Q) : selW F t f e g (thenQ F rest Q) v := by
  cases v <;> simp only [selW] at h1 ⊢
  rename_i x
  cases x <;> exact W_mono h1 (midQ_then h2)
theorem frz_b_inv {hp : Nat → Option Blk} {k : Nat} {v : AV} {b : Bool} (h : frz hp (k + 1) v = some (.b b)) : v = .b b := by
  cases v with
  | b x => simp only [frz] at h; cases h; rfl
  | agg cs => simp only [frz] at h; cases hf : frzL hp k cs <;> rw [hf] at h <;> cases h
  | tup cs => simp only [frz] at h; cases hf : frzL hp k cs <;> rw [hf] at h <;> cases h
  | mp id off =>
    simp only [frz] at h
    split at h
    · cases hf : frzL hp k (List.drop off _) <;> rw [hf] at h <;> cases h
    · cases h
  | ms id off n =>
    simp only [frz] at h
    split at h
    · cases hf : frzL hp k (List.drop off _) <;> rw [hf] at h <;> cases h
    · cases h
  | fn f asx bs => simp only [frz] at h; split at h <;> cases h
  | ifc t w => simp only [frz] at h; cases hf : frz hp k w <;> rw [hf] at h <;> cases h
  | _ => simp only [frz] at h; cases h
theorem pureS_bool {F : Funs} {f : Nat} {asx : List AV} {b : Bool} (h : pureS F f asx = some (.b b)) : ∃ k g', callE F k f asx g0 = some (.b b, g') := by
  unfold pureS at h
  split at h
  · rename_i v g hc
    have := frz_b_inv (k := 8) h
    subst this
    obtain ⟨k, hk⟩ := (callS_some F).1 hc
    exact ⟨k, g, hk⟩
  · cases h
def retB (rs : List ARes) (P : Bool → Prop) : Out → Env → G → Prop
  | .ext _, _, _ => False
  | _, e, g => ∃ b, resE rs e g = some (.b b) ∧ P b
theorem retB_nrm {rs P e g} : retB rs P .nrm e g = (∃ b, resE rs e g = some (.b b) ∧ P b) := rfl
theorem retB_ret {rs P e g} : retB rs P .ret e g = (∃ b, resE rs e g = some (.b b) ∧ P b) := rfl
theorem pureB_of {F : Funs} {f : Nat} {fn : AFun} {asx : List AV} {P : Bool → Prop} (hF : F f = some fn) (h : W F fn.body (argEnv asx) g0 (retB fn.res P)) : ∃ b, pureS F f asx = some (.b b) ∧ P b := by
  obtain ⟨o, e, g, h1, h2⟩ := h
  have key : ∀ (b : Bool), resE fn.res e g = some (.b b) → pureS F f asx = some (.b b) ∨ ∃ n, o = .ext n := by
    intro b hb
    cases o with
    | ext n => exact .inr ⟨n, rfl⟩
    | nrm =>
      left
      unfold pureS
      rw [callS_eq, hF]
      simp only [h1, hb, Option.map_some, frz_d_b]
    | ret =>
      left
      unfold pureS
      rw [callS_eq, hF]
      simp only [h1, hb, Option.map_some, frz_d_b]
  cases o with
  | ext n => exact h2.elim
  | nrm =>
    obtain ⟨b, hb, hP⟩ := h2
    rcases key b hb with h | ⟨n, h⟩
    · exact ⟨b, h, hP⟩
    · cases h
  | ret =>
    obtain ⟨b, hb, hP⟩ := h2
    rcases key b hb with h | ⟨n, h⟩
    · exact ⟨b, h, hP⟩
    · cases h
theorem blk_cut {F : Funs} {c rest : ACode} {id : Nat} {e : Env} {g : G} {Q : Out → Env → G → Prop} (M : Env → G → Prop) (h1 : W F c e g (blkQ id (midQ M))) (h2 : ∀ e g, M e g → W F rest e g Q) : W F c e g (blkQ id (thenQ F rest Q)) := by
  refine W_mono h1 fun o e g h => ?_
  cases o with
  | nrm => exact h2 e g h
  | ret => exact h.elim
  | ext n =>
    have h : if n = id then midQ M .nrm e g else midQ M (.ext n) e g := h
    show if n = id then thenQ F rest Q .nrm e g else thenQ F rest Q (.ext n) e g
    by_cases hn : n = id
    · rw [if_pos hn] at h ⊢; exact h2 e g h
    · rw [if_neg hn] at h; exact h.elim
/-- A place behind a block that may also answer. -/
def midR (Q : Out → Env → G → Prop) (M : Env → G → Prop) : Out → Env → G → Prop
  | .nrm, e, g => M e g
  | .ret, e, g => Q .ret e g
  | .ext _, _, _ => False
theorem midR_nrm {Q M e g} : midR Q M .nrm e g = M e g := rfl
theorem midR_ret {Q M e g} : midR Q M .ret e g = Q .ret e g := rfl
theorem midR_then {F : Funs} {rest Q} {M : Env → G → Prop} (h2 : ∀ e g, M e g → W F rest e g Q) (o e g) (h : midR Q M o e g) : thenQ F rest Q o e g := by
  cases o with
  | nrm => exact h2 e g h
  | ext n => exact h.elim
  | ret => exact h
theorem W_cutR {F : Funs} {c rest e g Q} (M : Env → G → Prop) (h1 : W F c e g (midR Q M)) (h2 : ∀ e g, M e g → W F rest e g Q) : W F c e g (thenQ F rest Q) := W_mono h1 (midR_then h2)
theorem sel_cutR {F : Funs} {t f rest e g Q v} (M : Env → G → Prop) (h1 : selW F t f e g (midR Q M) v) (h2 : ∀ e g, M e g → W F rest e g Q) : selW F t f e g (thenQ F rest Q) v := by
  cases v <;> simp only [selW] at h1 ⊢
  rename_i x
  cases x <;> exact W_mono h1 (midR_then h2)
theorem blk_cutR {F : Funs} {c rest : ACode} {id : Nat} {e : Env} {g : G} {Q : Out → Env → G → Prop} (M : Env → G → Prop) (h1 : W F c e g (blkQ id (midR Q M))) (h2 : ∀ e g, M e g → W F rest e g Q) : W F c e g (blkQ id (thenQ F rest Q)) := by
  refine W_mono h1 fun o e g h => ?_
  cases o with
  | nrm => exact h2 e g h
  | ret => exact h
  | ext n =>
    have h : if n = id then midR Q M .nrm e g else midR Q M (.ext n) e g := h
    show if n = id then thenQ F rest Q .nrm e g else thenQ F rest Q (.ext n) e g
    by_cases hn : n = id
    · rw [if_pos hn] at h ⊢; exact h2 e g h
    · rw [if_neg hn] at h; exact h.elim
/-! bundle -/
set_option maxRecDepth 10000 in
theorem wp : type_of% (And.intro (And.intro (And.intro (And.intro (And.intro (And.intro (And.intro @W_skip (And.intro @W_ext @W_ret)) (And.intro (And.intro @W_seq @thenQ_nrm) (And.intro @thenQ_ext @thenQ_ret))) (And.intro (And.intro (And.intro @W_cond @selW_true) (And.intro @selW_false @W_blk)) (And.intro (And.intro @blkQ_nrm @blkQ_ret) (And.intro @blkQ_same @blkQ_ne)))) (And.intro (And.intro (And.intro @W_reg (And.intro @nrmQ_is @WR_nil)) (And.intro (And.intro @WR_cons @selO_true) (And.intro @selO_false @bindO_some))) (And.intro (And.intro (And.intro @loopQ_nrm @loopQ_ext) (And.intro @loopQ_ret @wanted_none)) (And.intro (And.intro @wanted_some @wantV_1) (And.intro @wantV_0 @wantV_undef))))) (And.intro (And.intro (And.intro (And.intro @ev_t (And.intro @ev_c @put_some)) (And.intro (And.intro @put_none @upd_same) (And.intro @upd_ne @List.length_cons.{0}))) (And.intro (And.intro (And.intro @List.length_nil.{0} @List.map_cons.{0, 0}) (And.intro @List.map_nil.{0, 0} @allow_no)) (And.intro (And.intro @allow_lt @argEnv_0) (And.intro @argEnv_1 @argEnv_2)))) (And.intro (And.intro (And.intro (And.intro @argEnv_3 @argEnv_4) (And.intro @argEnv_5 @res_1)) (And.intro (And.intro @res_2 @retQ_nrm) (And.intro @retQ_ret @o_mv))) (And.intro (And.intro (And.intro @o_pick @vPick_t) (And.intro @vPick_f @o_new)) (And.intro (And.intro @o_box @vBox_S) (And.intro @boxD_ok @vMap_some)))))) (And.intro (And.intro (And.intro (And.intro (And.intro @vMapL_some (And.intro @o_build @o_ld)) (And.intro (And.intro @vLd_ptr @vLd_S) (And.intro @ldS_ok @selB_true))) (And.intro (And.intro (And.intro @o_st @vSt_S) (And.intro @stS_ok @stD_ok)) (And.intro (And.intro @o_nilck @vNil_ptr) (And.intro @vNil_mp @vNil_fn)))) (And.intro (And.intro (And.intro (And.intro @o_bin @o_un) (And.intro @o_mkfn @o_fa)) (And.intro (And.intro @vFa_mp @vFa_S) (And.intro @faD_ok @o_fld))) (And.intro (And.intro (And.intro @vFld_agg @o_ia) (And.intro @vIa_sl @vIa_ms)) (And.intro (And.intro @o_iaa @vIaa_ptr) (And.intro @vIaa_mp @o_len))))) (And.intro (And.intro (And.intro (And.intro @vLen_sl (And.intro @vLen_ms @o_mx)) (And.intro (And.intro @o_mn @vMx_i) (And.intro @vMn_i @o_ext))) (And.intro (And.intro (And.intro @vExt_tup @b_add) (And.intro @b_sub @b_mul)) (And.intro (And.intro @b_lss @b_leq) (And.intro @b_gtr @b_geq)))) (And.intro (And.intro (And.intro (And.intro @b_eql @b_neq) (And.intro @o_pure @List.nil_append.{0})) (And.intro (And.intro @List.append_nil.{0} @List.cons_append.{0}) (And.intro @frz_d_i @frz_d_b))) (And.intro (And.intro (And.intro @frz_d_s @frz_d_nilp) (And.intro @frz_d_ptr @frz_d_sl)) (And.intro (And.intro @frz_d_fn0 @Bool.not_true) (And.intro @Bool.not_false @Bool.true_and))))))) (And.intro (And.intro (And.intro (And.intro (And.intro (And.intro @Bool.and_true (And.intro @Bool.false_and @Bool.and_false)) (And.intro (And.intro @decide_true @decide_false) (And.intro @beq_self_eq_true.{0} @Bool.true_eq_false))) (And.intro (And.intro (And.intro @Bool.false_eq_true @Nat.zero_add) (And.intro @Nat.add_zero @Int.toNat_natCast)) (And.intro (And.intro @ge_iff_le.{0} @gt_iff_lt.{0}) (And.intro @fill_S @fillD_ok)))) (And.intro (And.intro (And.intro (And.intro @fill_nil @cellsOf_agg) (And.intro @cellsOf_i @cellsOf_b)) (And.intro (And.intro @cellsOf_s @cellsOf_ptr) (And.intro @cellsOf_nilp @cellsOf_sl))) (And.intro (And.intro (And.intro @cellsOf_mp @cellsOf_fn) (And.intro @one_i @one_b)) (And.intro (And.intro @one_s @one_ptr) (And.intro @one_nilp @one_sl))))) (And.intro (And.intro (And.intro (And.intro @one_mp (And.intro @one_fn @List.all_cons.{0})) (And.intro (And.intro @List.all_nil.{0} @splice_1) (And.intro @splice_2 @splice_3))) (And.intro (And.intro (And.intro @part_0 @part_1) (And.intro @part_2 @drop_0)) (And.intro (And.intro @g0_nx @g0_hp) (And.intro @List.set_cons_zero.{0} @List.set_cons_succ.{0})))) (And.intro (And.intro (And.intro (And.intro @List.length_append.{0} @List.length_replicate.{0}) (And.intro @eq_self.{1} @true_and)) (And.intro (And.intro @and_true @vPure_S) (And.intro @purS_some @purD_some))) (And.intro (And.intro (And.intro @purE_true @frzL_cons) (And.intro @frzL_nil @consO_ok)) (And.intro (And.intro @flat_i @flat_b) (And.intro @flat_s @flat_nilp)))))) (And.intro (And.intro (And.intro (And.intro (And.intro @flat_ptr (And.intro @flat_sl @flat_agg)) (And.intro (And.intro @flat_tup @vis_i) (And.intro @vis_b @vis_s))) (And.intro (And.intro (And.intro @vis_nilp @vis_ptr) (And.intro @vis_sl @vis_fn0)) (And.intro (And.intro @List.flatMap_cons.{0, 0} @List.flatMap_nil.{0, 0}) (And.intro @isEmpty_nil @Bool.true_or)))) (And.intro (And.intro (And.intro (And.intro @Bool.false_or @Bool.or_true) (And.intro @Bool.or_false @frz_P)) (And.intro (And.intro @frz_Q @frzP_cells) (And.intro @frzB_true @map_some'))) (And.intro (And.intro (And.intro @rd_S @o_bsl) (And.intro @vBsl_t @vBsl_f)) (And.intro (And.intro @o_app @appD_ok) (And.intro @vApp_rig @vApp_rig0))))) (And.intro (And.intro (And.intro (And.intro @appK_ok (And.intro @vApp_own @o_eqn)) (And.intro (And.intro @o_eqb @o_eqa) (And.intro @aeqn_pn @aeqn_np))) (And.intro (And.intro (And.intro @aeqn_mn @aeqn_nn) (And.intro @aeqb_bb @negb_t)) (And.intro (And.intro @negb_f @aun_not) (And.intro @midQ_nrm @part_3)))) (And.intro (And.intro (And.intro (And.intro @part_4 @part_5) (And.intro @cellsOf_ms @one_ms)) (And.intro (And.intro @Int.toNat_zero @Nat.zero_mul) (And.intro @o_stL @andLe_ok))) (And.intro (And.intro (And.intro @allow_hd @allow_h2) (And.intro @retB_nrm @retB_ret)) (And.intro (And.intro @midR_nrm @midR_ret) (And.intro @W_scp @W_lab)))))))) := (And.intro (And.intro (And.intro (And.intro (And.intro (And.intro (And.intro @W_skip (And.intro @W_ext @W_ret)) (And.intro (And.intro @W_seq @thenQ_nrm) (And.intro @thenQ_ext @thenQ_ret))) (And.intro (And.intro (And.intro @W_cond @selW_true) (And.intro @selW_false @W_blk)) (And.intro (And.intro @blkQ_nrm @blkQ_ret) (And.intro @blkQ_same @blkQ_ne)))) (And.intro (And.intro (And.intro @W_reg (And.intro @nrmQ_is @WR_nil)) (And.intro (And.intro @WR_cons @selO_true) (And.intro @selO_false @bindO_some))) (And.intro (And.intro (And.intro @loopQ_nrm @loopQ_ext) (And.intro @loopQ_ret @wanted_none)) (And.intro (And.intro @wanted_some @wantV_1) (And.intro @wantV_0 @wantV_undef))))) (And.intro (And.intro (And.intro (And.intro @ev_t (And.intro @ev_c @put_some)) (And.intro (And.intro @put_none @upd_same) (And.intro @upd_ne @List.length_cons.{0}))) (And.intro (And.intro (And.intro @List.length_nil.{0} @List.map_cons.{0, 0}) (And.intro @List.map_nil.{0, 0} @allow_no)) (And.intro (And.intro @allow_lt @argEnv_0) (And.intro @argEnv_1 @argEnv_2)))) (And.intro (And.intro (And.intro (And.intro @argEnv_3 @argEnv_4) (And.intro @argEnv_5 @res_1)) (And.intro (And.intro @res_2 @retQ_nrm) (And.intro @retQ_ret @o_mv))) (And.intro (And.intro (And.intro @o_pick @vPick_t) (And.intro @vPick_f @o_new)) (And.intro (And.intro @o_box @vBox_S) (And.intro @boxD_ok @vMap_some)))))) (And.intro (And.intro (And.intro (And.intro (And.intro @vMapL_some (And.intro @o_build @o_ld)) (And.intro (And.intro @vLd_ptr @vLd_S) (And.intro @ldS_ok @selB_true))) (And.intro (And.intro (And.intro @o_st @vSt_S) (And.intro @stS_ok @stD_ok)) (And.intro (And.intro @o_nilck @vNil_ptr) (And.intro @vNil_mp @vNil_fn)))) (And.intro (And.intro (And.intro (And.intro @o_bin @o_un) (And.intro @o_mkfn @o_fa)) (And.intro (And.intro @vFa_mp @vFa_S) (And.intro @faD_ok @o_fld))) (And.intro (And.intro (And.intro @vFld_agg @o_ia) (And.intro @vIa_sl @vIa_ms)) (And.intro (And.intro @o_iaa @vIaa_ptr) (And.intro @vIaa_mp @o_len))))) (And.intro (And.intro (And.intro (And.intro @vLen_sl (And.intro @vLen_ms @o_mx)) (And.intro (And.intro @o_mn @vMx_i) (And.intro @vMn_i @o_ext))) (And.intro (And.intro (And.intro @vExt_tup @b_add) (And.intro @b_sub @b_mul)) (And.intro (And.intro @b_lss @b_leq) (And.intro @b_gtr @b_geq)))) (And.intro (And.intro (And.intro (And.intro @b_eql @b_neq) (And.intro @o_pure @List.nil_append.{0})) (And.intro (And.intro @List.append_nil.{0} @List.cons_append.{0}) (And.intro @frz_d_i @frz_d_b))) (And.intro (And.intro (And.intro @frz_d_s @frz_d_nilp) (And.intro @frz_d_ptr @frz_d_sl)) (And.intro (And.intro @frz_d_fn0 @Bool.not_true) (And.intro @Bool.not_false @Bool.true_and))))))) (And.intro (And.intro (And.intro (And.intro (And.intro (And.intro @Bool.and_true (And.intro @Bool.false_and @Bool.and_false)) (And.intro (And.intro @decide_true @decide_false) (And.intro @beq_self_eq_true.{0} @Bool.true_eq_false))) (And.intro (And.intro (And.intro @Bool.false_eq_true @Nat.zero_add) (And.intro @Nat.add_zero @Int.toNat_natCast)) (And.intro (And.intro @ge_iff_le.{0} @gt_iff_lt.{0}) (And.intro @fill_S @fillD_ok)))) (And.intro (And.intro (And.intro (And.intro @fill_nil @cellsOf_agg) (And.intro @cellsOf_i @cellsOf_b)) (And.intro (And.intro @cellsOf_s @cellsOf_ptr) (And.intro @cellsOf_nilp @cellsOf_sl))) (And.intro (And.intro (And.intro @cellsOf_mp @cellsOf_fn) (And.intro @one_i @one_b)) (And.intro (And.intro @one_s @one_ptr) (And.intro @one_nilp @one_sl))))) (And.intro (And.intro (And.intro (And.intro @one_mp (And.intro @one_fn @List.all_cons.{0})) (And.intro (And.intro @List.all_nil.{0} @splice_1) (And.intro @splice_2 @splice_3))) (And.intro (And.intro (And.intro @part_0 @part_1) (And.intro @part_2 @drop_0)) (And.intro (And.intro @g0_nx @g0_hp) (And.intro @List.set_cons_zero.{0} @List.set_cons_succ.{0})))) (And.intro (And.intro (And.intro (And.intro @List.length_append.{0} @List.length_replicate.{0}) (And.intro @eq_self.{1} @true_and)) (And.intro (And.intro @and_true @vPure_S) (And.intro @purS_some @purD_some))) (And.intro (And.intro (And.intro @purE_true @frzL_cons) (And.intro @frzL_nil @consO_ok)) (And.intro (And.intro @flat_i @flat_b) (And.intro @flat_s @flat_nilp)))))) (And.intro (And.intro (And.intro (And.intro (And.intro @flat_ptr (And.intro @flat_sl @flat_agg)) (And.intro (And.intro @flat_tup @vis_i) (And.intro @vis_b @vis_s))) (And.intro (And.intro (And.intro @vis_nilp @vis_ptr) (And.intro @vis_sl @vis_fn0)) (And.intro (And.intro @List.flatMap_cons.{0, 0} @List.flatMap_nil.{0, 0}) (And.intro @isEmpty_nil @Bool.true_or)))) (And.intro (And.intro (And.intro (And.intro @Bool.false_or @Bool.or_true) (And.intro @Bool.or_false @frz_P)) (And.intro (And.intro @frz_Q @frzP_cells) (And.intro @frzB_true @map_some'))) (And.intro (And.intro (And.intro @rd_S @o_bsl) (And.intro @vBsl_t @vBsl_f)) (And.intro (And.intro @o_app @appD_ok) (And.intro @vApp_rig @vApp_rig0))))) (And.intro (And.intro (And.intro (And.intro @appK_ok (And.intro @vApp_own @o_eqn)) (And.intro (And.intro @o_eqb @o_eqa) (And.intro @aeqn_pn @aeqn_np))) (And.intro (And.intro (And.intro @aeqn_mn @aeqn_nn) (And.intro @aeqb_bb @negb_t)) (And.intro (And.intro @negb_f @aun_not) (And.intro @midQ_nrm @part_3)))) (And.intro (And.intro (And.intro (And.intro @part_4 @part_5) (And.intro @cellsOf_ms @one_ms)) (And.intro (And.intro @Int.toNat_zero @Nat.zero_mul) (And.intro @o_stL @andLe_ok))) (And.intro (And.intro (And.intro @allow_hd @allow_h2) (And.intro @retB_nrm @retB_ret)) (And.intro (And.intro @midR_nrm @midR_ret) (And.intro @W_scp @W_lab))))))))
/-! end of bundle -/
end Go.Ab
end
section
/- Calls in the caller's own heap. -/
set_option linter.unusedVariables false
set_option linter.unusedSimpArgs false
namespace Go.Ab
noncomputable def vRaw (F : Funs) (al : Nat → Bool) (id : Nat) (f : AV) (args : List AV) (g : G) : Option (AV × G) := vCall (callS F) al id .raw f args g
theorem o_raw {F : Funs} {al lo id e g} (f : Opd) (asx : List Opd) : opE (callS F) al lo id (.call .raw f asx) e g = vRaw F al id (f.ev e) (asx.map (·.ev e)) g := rfl
theorem vRaw_fn {F : Funs} {al id fid fst caps args g} : vRaw F al id (.fn fid fst caps) args g = callS F fid (fst ++ args ++ caps) g := rfl
theorem bindO_call {F : Funs} {d b j dst os e K fid asx g} (P : AV → G → Prop) (h : ∃ v g', callS F fid asx g = some (v, g') ∧ P v g') (hk : ∀ v g', P v g' → WR F d b j os (put e dst v) g' K) : bindO F d b j dst os e K (callS F fid asx g) := by
  obtain ⟨v, g', h1, h2⟩ := h
  rw [h1]
  exact hk v g' h2
def retP (rs : List ARes) (P : AV → G → Prop) : Out → Env → G → Prop
  | .ext _, _, _ => False
  | _, e, g => ∃ v, resE rs e g = some v ∧ P v g
theorem retP_nrm {rs P e g} : retP rs P .nrm e g = (∃ v, resE rs e g = some v ∧ P v g) := rfl
theorem retP_ret {rs P e g} : retP rs P .ret e g = (∃ v, resE rs e g = some v ∧ P v g) := rfl
theorem raw_of {F : Funs} {f : Nat} {fn : AFun} {asx : List AV} {g : G} {P : AV → G → Prop} (hF : F f = some fn) (h : W F fn.body (argEnv asx) g (retP fn.res P)) : ∃ v g', callS F f asx g = some (v, g') ∧ P v g' := by
  obtain ⟨o, e, g', h1, h2⟩ := h
  rw [callS_eq, hF]
  simp only [h1]
  cases o with
  | ext n => exact h2.elim
  | nrm =>
    obtain ⟨v, h3, h4⟩ := h2
    exact ⟨v, g', by simp only [h3, Option.map_some], h4⟩
  | ret =>
    obtain ⟨v, h3, h4⟩ := h2
    exact ⟨v, g', by simp only [h3, Option.map_some], h4⟩
theorem res_0 (e g) : resE [] e g = some (.tup []) := rfl
def mgS (k : ByteArray) (g : G) : Option Blk → Option (AV × G)
  | some (.map es) => vMap g (mlook es k)
  | _ => none
theorem o_mget {c : CS} {al : Nat → Bool} {lo id : Nat} {e : Env} {g : G} (m k) : opE c al lo id (.mget m k) e g = vMget al (m.ev e) (k.ev e) g := rfl
theorem vMget_S {al : Nat → Bool} {g : G} (b k) : vMget al (.mm b) (.s k) g = mgS k g (selB (al b) (g.hp b)) := by
  simp only [vMget, rd_S]
  cases selB (al b) (g.hp b) with
  | none => rfl
  | some bl => cases bl <;> rfl
theorem mgS_map (k g es) : mgS k g (some (.map es)) = vMap g (mlook es k) := rfl
theorem o_mkmap {c : CS} {al : Nat → Bool} {lo id : Nat} {e : Env} {g : G} : opE c al lo id .mkmap e g = some (.mm id, ⟨upd g.hp id (some (.map [])), g.nx⟩) := rfl
theorem o_mput {c : CS} {al : Nat → Bool} {lo id : Nat} {e : Env} {g : G} (m k v) : opE c al lo id (.mput m k v) e g = vMput al (m.ev e) (k.ev e) (v.ev e) g := rfl
def mpO (b : Nat) (k : ByteArray) (v : AV) (es : List (AV × AV)) (g : G) (x : Bool) : Option AV → Option (AV × G)
  | none => if x then some (.undef, ⟨upd g.hp b (some (.map (es ++ [(.s k, v)]))), g.nx⟩) else none
  | some _ => none
def mpS (b : Nat) (k : ByteArray) (v : AV) (g : G) (x : Bool) : Option Blk → Option (AV × G)
  | some (.map es) => mpO b k v es g x (mlook es k)
  | _ => none
theorem vMput_S {al : Nat → Bool} {g : G} (b k v) : vMput al (.mm b) (.s k) v g = mpS b k v g (one v) (selB (al b) (g.hp b)) := by
  simp only [vMput, rd_S]
  cases selB (al b) (g.hp b) with
  | none => rfl
  | some bl =>
    cases bl with
    | map es => simp only [mpS]; cases mlook es k <;> rfl
    | cells _ _ => rfl
    | tok _ => rfl
theorem mpS_map (b k v g x es) : mpS b k v g x (some (.map es)) = mpO b k v es g x (mlook es k) := rfl
theorem mpO_none (b k v es g) : mpO b k v es g true none = some (.undef, ⟨upd g.hp b (some (.map (es ++ [(.s k, v)]))), g.nx⟩) := rfl
theorem frz_d_agg {hp cs ds} (h : frzL hp 8 cs = some ds) : frz hp depth (.agg cs) = some (.agg ds) := by
  show frz hp (8 + 1) _ = _
  simp only [frz, h, Option.map_some]
end Go.Ab
end
section
/- What comes in, asx trees: any value of a plain type that the row's reader reads. -/
set_option linter.unusedVariables false
set_option linter.unusedSimpArgs false
namespace Go.Ab
open Go.RowKit

def ShR (S : List AV → Prop) (n : Nat) (asx : List AV) : Prop := ∃ rows : List (List AV), rows.length = n ∧ asx = rows.flatten ∧ ∀ r ∈ rows, S r
def ShL (S : TypeId → List AV → Prop) : List TypeId → List AV → Prop
  | [], asx => asx = []
  | t :: ts, asx => ∃ a b, asx = a ++ b ∧ S t a ∧ ShL S ts b
/-- The make of the cells of a value of a type. -/
def Sh (P : Program) : Nat → TypeId → List AV → Prop
  | 0, _, _ => False
  | m + 1, t, asx => match P.underlying t with
    | some .bool => ∃ b, asx = [.b b]
    | some (.int k) => ∃ n, asx = [.i k n] ∧ (Lit.int k n).wf = true
    | some .string => ∃ s, asx = [.s s] ∧ s.size ≤ maxLen
    | some (.slice e) => ∃ cs n, asx = [.sl cs n .non] ∧ n ≤ maxLen ∧ ShR (Sh P m e) n cs
    | some (.pointer e) => asx = [.nilp] ∨ ∃ cs, asx = [.ptr cs] ∧ Sh P m e cs
    | some (.struct fs) => ShL (Sh P m) (fs.toList.map (·.type)) asx
    | some (.array n e) => ShR (Sh P m e) n asx
    | _ => False
def fieldsOk (P : Program) : Nat → List Field → Nat → Bool
  | o, [], n => o == n
  | o, f :: fs, n => (f.offset == o) && fieldsOk P (o + P.cellsOf f.type) fs n
def plainB (P : Program) : Nat → TypeId → Bool
  | 0, _ => false
  | m + 1, t => match P.underlying t with
    | some .bool | some (.int _) | some .string => true
    | some (.slice e) => plainB P m e
    | some (.pointer e) => plainB P m e
    | some (.struct fs) => fieldsOk P 0 fs.toList (P.cellsOf t) && fs.toList.all (fun f => plainB P m f.type)
    | some (.array n e) => (P.cellsOf t == n * P.cellsOf e) && plainB P m e
    | _ => false

section
variable {H : Type} {enc : TypeId × Value → H} {P : Program} {c : Cx}
theorem add_add' (a : Addr) (m n : Nat) : (a.add m).add n = a.add (m + n) := by
  unfold Addr.add
  by_cases hm : m = 0 <;> by_cases hn : n = 0 <;> simp [hm, hn, Nat.add_assoc]
theorem I_cell (hb : c.base = c.w.heap.size) (hJ : c.J = fun _ => True) {a : Addr} {v : Value} (h : c.w.cell? a = some v) : c.I a := .inl ⟨by rw [hb]; exact block_lt_of_cell h, by rw [hJ]; trivial⟩
/-- The cells of a row of 'n' of one type. -/
theorem read_rows {S : List AV → Prop} {sz : Nat} {a : Addr} {n : Nat}
    (h : ∀ i, i < n → ∃ row rs, c.w.cells? 0 (a.add (i * sz)) sz = some row ∧ S rs ∧ Reps c false rs row ∧ ∀ v ∈ row, v.oneCell' = true) :
    ∃ cs vs, ShR S n cs ∧ Reps c false cs vs ∧ vs.length = n * sz ∧ (∀ v ∈ vs, v.oneCell' = true) ∧ ∀ j, j < n * sz → c.w.cell? (a.add j) = vs[j]? := by
  induction n with
  | zero => exact ⟨[], [], ⟨[], rfl, rfl, fun _ h => by cases h⟩, Reps.nil, by simp, (fun v (h : v ∈ ([] : List Value)) => by cases h), fun j hj => by omega⟩
  | succ n ih =>
    obtain ⟨cs, vs, ⟨rows, hl, rfl, hS⟩, hR, hlen, h1, hcell⟩ := ih fun i hi => h i (by omega)
    obtain ⟨row, rs, hc, hSr, hRr, h1r⟩ := h n (by omega)
    obtain ⟨_, hrl, hrc⟩ := World.cells?_some hc
    refine ⟨_, vs ++ row, ⟨rows ++ [rs], by simp [hl], rfl, ?_⟩, ?_, ?_, ?_, ?_⟩
    · intro r hr
      rcases List.mem_append.1 hr with hr | hr
      · exact hS r hr
      · rw [List.mem_singleton.1 hr]; exact hSr
    · simp only [List.flatten_append, List.flatten_cons, List.flatten_nil, List.append_nil]
      exact hR.append hRr
    · rw [List.length_append, hlen, hrl, Nat.succ_mul]
    · intro v hv
      rcases List.mem_append.1 hv with hv | hv
      · exact h1 v hv
      · exact h1r v hv
    · intro j hj
      rw [Nat.succ_mul] at hj
      by_cases hjn : j < n * sz
      · rw [List.getElem?_append_left (by omega)]; exact hcell j hjn
      · rw [List.getElem?_append_right (by omega), hlen, ← hrc (j - n * sz) (by omega), add_add']
        rw [show n * sz + (j - n * sz) = j by omega]

theorem read_cells (hb : c.base = c.w.heap.size) (hJ : c.J = fun _ => True) : ∀ (m : Nat) {t : TypeId} {fuel : Nat} {cs : List Value} {x : DataW H × List MemPlace},
    plainB P m t = true → DataW.trod enc P c.w 0 (fun _ => true) true fuel t cs = some x → ∃ asx, Sh P m t asx ∧ Reps c false asx cs ∧ ∀ v ∈ cs, v.oneCell' = true
  | 0, _, _, _, _, h, _ => by simp [plainB] at h
  | m + 1, t, fuel, cs, x, hp, h => by
    have one : ∀ {y : AV} {v : Value}, Rep c false y v → v.oneCell' = true → Reps c false [y] [v] ∧ ∀ u ∈ [v], u.oneCell' = true := fun hr h1 =>
      ⟨Reps.cons hr Reps.nil, fun u hu => by rw [List.mem_singleton.1 hu]; exact h1⟩
    simp only [plainB] at hp
    cases ht : P.underlying t with
    | none => rw [ht] at hp; cases hp
    | some d =>
      rw [ht] at hp
      cases d with
      | bool =>
        obtain ⟨b, rfl, _⟩ := DataW.trod_bool ht h
        exact ⟨[.b b], by simp only [Sh, ht]; exact ⟨b, rfl⟩, one (.b b) rfl⟩
      | int k =>
        obtain ⟨n, rfl, _, hw⟩ := DataW.trod_int ht h
        exact ⟨[.i k n], by simp only [Sh, ht]; exact ⟨n, rfl, hw⟩, one (.i k n) rfl⟩
      | string =>
        obtain ⟨s, rfl, _, hs⟩ := DataW.trod_string ht h
        exact ⟨[.s s], by simp only [Sh, ht]; exact ⟨s, rfl, hs⟩, one (.s s) rfl⟩
      | slice e =>
        rcases DataW.trod_slice ht h with ⟨rfl, _⟩ | ⟨a, len, cap, elems, rest, n, rfl, rfl, _, _, hl, hm, hel, hget, _, _⟩
        · refine ⟨[.sl [] 0 .non], by simp only [Sh, ht]; exact ⟨[], 0, rfl, Nat.zero_le _, [], rfl, rfl, fun _ h => by cases h⟩, one ?_ rfl⟩
          exact .sl ⟨0, 0, none⟩ [] (Nat.le_refl _) (Nat.zero_le _) (fun h => by cases h) (fun _ _ _ h => by cases h) (fun h => by omega) (fun _ h => by cases h) rfl (fun h => absurd rfl h) (fun j v h => by simp at h) (fun j x v h => by simp at h) (fun _ _ h => by cases h)
        · obtain ⟨asx, vs, hS, hR, hlen, h1, hcell⟩ := read_rows (c := c) (S := Sh P m e) (sz := P.cellsOf e) (a := a) (n := len) fun i hi => by
            have hg := hget i hi
            cases hc : c.w.cells? 0 (a.add (i * P.cellsOf e)) (P.cellsOf e) with
            | none => rw [hc] at hg; simp at hg; omega
            | some row =>
              rw [hc, Option.bind_some, List.getElem?_eq_getElem (by omega)] at hg
              obtain ⟨rs, h1, h2, h3⟩ := read_cells hb hJ m hp hg
              exact ⟨row, rs, rfl, h1, h2, h3⟩
          have hk : ∀ (j : Nat) v, vs[j]? = some v → c.I (a.add j) ∧ c.w.cell? (a.add j) = some v := fun j v hv => by
            have hj : j < len * P.cellsOf e := by rw [← hlen]; exact (List.getElem?_eq_some_iff.1 hv).1
            have := (hcell j hj).trans hv
            exact ⟨I_cell hb hJ this, this⟩
          refine ⟨[.sl asx len .non], by simp only [Sh, ht]; exact ⟨asx, len, rfl, by omega, hS⟩, one ?_ rfl⟩
          exact .sl a vs hl hm (fun h => by cases h) (fun _ _ _ h => by cases h) (fun _ => rfl) h1 hR.1 (fun _ => rfl) hk (fun j x v hx hv => hR.2 j x v hx hv) (fun _ _ h => by cases h)
      | pointer e =>
        rcases DataW.trod_pointer ht h with ⟨rfl, _⟩ | ⟨a, cs', y, n, rfl, rfl, _, hc, hd⟩
        · exact ⟨[.nilp], by simp only [Sh, ht]; exact .inl trivial, one .nilp rfl⟩
        · obtain ⟨rs, h1, h2, h3⟩ := read_cells hb hJ m hp hd
          obtain ⟨_, hl, hcell⟩ := World.cells?_some hc
          have hk : ∀ (j : Nat) v, cs'[j]? = some v → c.I (a.add j) ∧ c.w.cell? (a.add j) = some v := fun j v hv => by
            have hj : j < P.cellsOf e := by rw [← hl]; exact (List.getElem?_eq_some_iff.1 hv).1
            have := (hcell j hj).trans hv
            exact ⟨I_cell hb hJ this, this⟩
          exact ⟨[.ptr rs], by simp only [Sh, ht]; exact .inr ⟨rs, rfl, h1⟩, one (.ptr a cs' h3 h2.1 hk (fun j x v hx hv => h2.2 j x v hx hv)) rfl⟩
      | struct fs =>
        simp only [Bool.and_eq_true, List.all_eq_true] at hp
        obtain ⟨xs, n, rfl, _, hcl, hxl, hget⟩ := DataW.trod_struct ht h
        have key : ∀ (l : List Field) (o : Nat) (i : Nat), fieldsOk P o l (P.cellsOf t) = true → o ≤ cs.length → (∀ f ∈ l, plainB P m f.type = true) → (∀ j f, l[j]? = some f → DataW.trod enc P c.w 0 (fun _ => true) true n f.type ((cs.drop f.offset).take (P.cellsOf f.type)) = xs[i + j]?) → i + l.length = xs.length →
            ∃ asx, ShL (Sh P m) (l.map (·.type)) asx ∧ Reps c false asx (cs.drop o) ∧ ∀ v ∈ cs.drop o, v.oneCell' = true := by
          intro l
          induction l with
          | nil =>
            intro o i hf ho _ _ _
            simp only [fieldsOk, beq_iff_eq] at hf
            have : cs.drop o = [] := List.drop_eq_nil_of_le (by omega)
            rw [this]
            exact ⟨[], rfl, Reps.nil, fun _ h => by cases h⟩
          | cons f l ih =>
            intro o i hf ho hpl hg hlen
            simp only [fieldsOk, Bool.and_eq_true, beq_iff_eq] at hf
            obtain ⟨hfo, hf⟩ := hf
            have hg0 := hg 0 f rfl
            simp only [List.length_cons] at hlen
            rw [List.getElem?_eq_getElem (by omega), hfo] at hg0
            obtain ⟨rs, h1, h2, h3⟩ := read_cells hb hJ m (hpl f (List.mem_cons_self ..)) hg0
            have mono : ∀ (l : List Field) (o : Nat), fieldsOk P o l (P.cellsOf t) = true → o ≤ P.cellsOf t := by
              intro l
              induction l with
              | nil => intro o h; simp only [fieldsOk, beq_iff_eq] at h; omega
              | cons f l ih => intro o h; simp only [fieldsOk, Bool.and_eq_true] at h; have := ih _ h.2; omega
            have ho2 := mono _ _ hf
            obtain ⟨asx, h4, h5, h6⟩ := ih (o + P.cellsOf f.type) (i + 1) hf (by omega) (fun g hg => hpl g (List.mem_cons_of_mem _ hg)) (fun j g hj => by
              have := hg (j + 1) g (by simpa using hj)
              rwa [show i + (j + 1) = i + 1 + j by omega] at this) (by omega)
            have hsplit : cs.drop o = (cs.drop o).take (P.cellsOf f.type) ++ cs.drop (o + P.cellsOf f.type) := by
              rw [← List.drop_drop, List.take_append_drop]
            rw [hsplit]
            refine ⟨rs ++ asx, ⟨rs, asx, rfl, h1, h4⟩, h2.append h5, fun v hv => ?_⟩
            rcases List.mem_append.1 hv with hv | hv
            · exact h3 v hv
            · exact h6 v hv
        obtain ⟨asx, h1, h2, h3⟩ := key fs.toList 0 0 hp.1 (Nat.zero_le _) hp.2 (fun j f hj => by
          have := hget j f (by simpa using hj)
          rwa [show 0 + j = j by omega]) (by simp [hxl])
        exact ⟨asx, by simp only [Sh, ht]; exact h1, by simpa using h2, by simpa using h3⟩
      | array n e =>
        simp only [Bool.and_eq_true, beq_iff_eq] at hp
        obtain ⟨xs, q, rfl, _, hcl, hxl, hget⟩ := DataW.trod_array ht h
        have key : ∀ i, i ≤ n → ∃ asx, ShR (Sh P m e) i asx ∧ Reps c false asx (cs.take (i * P.cellsOf e)) ∧ ∀ v ∈ cs.take (i * P.cellsOf e), v.oneCell' = true := by
          intro i
          induction i with
          | zero => intro _; exact ⟨[], ⟨[], rfl, rfl, fun _ h => by cases h⟩, by simpa using Reps.nil, by simp⟩
          | succ i ih =>
            intro hi
            obtain ⟨asx, ⟨rows, hl, rfl, hS⟩, h2, h3⟩ := ih (by omega)
            have hg := hget i (by omega)
            rw [List.getElem?_eq_getElem (by omega)] at hg
            obtain ⟨rs, h4, h5, h6⟩ := read_cells hb hJ m hp.2 hg
            have hsplit : cs.take ((i + 1) * P.cellsOf e) = cs.take (i * P.cellsOf e) ++ (cs.drop (i * P.cellsOf e)).take (P.cellsOf e) := by
              rw [Nat.succ_mul, List.take_add]
            rw [hsplit]
            refine ⟨_, ⟨rows ++ [rs], by simp [hl], rfl, fun r hr => ?_⟩, ?_, fun v hv => ?_⟩
            · rcases List.mem_append.1 hr with hr | hr
              · exact hS r hr
              · rw [List.mem_singleton.1 hr]; exact h4
            · simp only [List.flatten_append, List.flatten_cons, List.flatten_nil, List.append_nil]
              exact h2.append h5
            · rcases List.mem_append.1 hv with hv | hv
              · exact h3 v hv
              · exact h6 v hv
        obtain ⟨asx, h1, h2, h3⟩ := key n (Nat.le_refl _)
        have hall : cs.take (n * P.cellsOf e) = cs := List.take_of_length_le (by omega)
        rw [hall] at h2 h3
        exact ⟨asx, by simp only [Sh, ht]; exact h1, h2, h3⟩
      | _ => cases hp

/-- An argument of one cell. -/
theorem read_one (hb : c.base = c.w.heap.size) (hJ : c.J = fun _ => True) (m : Nat) {t : TypeId} {v : Value} {d : DataW H} {ps : List MemPlace} (hp : plainB P m t = true) (hv : v.cells = #[v]) (h : DataW.Trod enc P c.w 0 (fun _ => true) true t v d ps) :
    ∃ x, Sh P m t [x] ∧ Rep c true x v := by
  obtain ⟨fuel, hf⟩ := h
  rw [hv] at hf
  obtain ⟨asx, h1, h2, _⟩ := read_cells hb hJ m hp hf
  have hl : asx.length = 1 := by simpa using h2.1
  match asx, hl with
  | [x], _ => exact ⟨x, h1, (h2.2 0 x v rfl rfl).up⟩
end
end Go.Ab
end
section
/- Calls whose result becomes the caller's own. -/
set_option linter.unusedVariables false
set_option linter.unusedSimpArgs false
namespace Go.Ab
noncomputable def thawS (F : Funs) (f : Nat) (asx : List AV) : Option (List AV) := match callS F f asx g0 with
  | some (.mp b 0, g) => match g.hp b with
    | some (.cells cs false) => if cs.all flat then some cs else none
    | _ => none
  | _ => none
noncomputable def vThaw (F : Funs) (al : Nat → Bool) (id : Nat) (f : AV) (args : List AV) (g : G) : Option (AV × G) := vCall (callS F) al id .thaw f args g
theorem o_thaw {F : Funs} {al lo id e g} (f : Opd) (asx : List Opd) : opE (callS F) al lo id (.call .thaw f asx) e g = vThaw F al id (f.ev e) (asx.map (·.ev e)) g := rfl
theorem vis_flat {hp : Nat → Option Blk} {d : Nat} {v : AV} (h : flat v = true) : vis hp (d + 1) v = [] := by cases v <;> first | (cases h; done) | simp only [vis]
def thwE (id : Nat) (g : G) (cs : List AV) (x : Bool) : Option (AV × G) := if x then some (.mp id 0, ⟨upd g.hp id (some (.cells cs false)), g.nx⟩) else none
theorem thwE_true (id g cs) : thwE id g cs true = some (.mp id 0, ⟨upd g.hp id (some (.cells cs false)), g.nx⟩) := rfl
def thwD (id : Nat) (g : G) (vs : List Nat) : Option (List AV) → Option (AV × G)
  | some cs => thwE id g cs vs.isEmpty
  | none => none
theorem thwD_some (id g vs cs) : thwD id g vs (some cs) = thwE id g cs vs.isEmpty := rfl
noncomputable def thwS (F : Funs) (f id : Nat) (g : G) (vs : List Nat) : Option (List AV) → Option (AV × G)
  | some bs => thwD id g vs (thawS F f bs)
  | none => none
theorem thwS_some (F f id g vs bs) : thwS F f id g vs (some bs) = thwD id g vs (thawS F f bs) := rfl
/-- Where it answers, the call is made so. -/
theorem vThaw_ok {F : Funs} {al : Nat → Bool} {id fid : Nat} {fst caps args bs cs : List AV} {g : G} (h1 : frzL (rd g al) depth (fst ++ args ++ caps) = some bs) (h2 : thawS F fid bs = some cs) (h3 : ((fst ++ args ++ caps).flatMap (vis (rd g al) depth)).isEmpty = true) :
    vThaw F al id (.fn fid fst caps) args g = some (.mp id 0, ⟨upd g.hp id (some (.cells cs false)), g.nx⟩) := by
  unfold thawS at h2
  split at h2
  · rename_i b g' hc
    split at h2
    · rename_i cs0 hb
      split at h2
      · rename_i hf
        cases h2
        have hc' : callS F fid bs ⟨fun _ => none, 0⟩ = some (.mp b 0, g') := hc
        have hfz : frzL g'.hp depth cs = some cs := frzL_flat (d := 8) hf
        have hv : cs.flatMap (vis g'.hp depth) = [] := by
          rw [List.flatMap_eq_nil_iff]
          intro v hv
          exact vis_flat (d := 8) (List.all_eq_true.1 hf v hv)
        unfold vThaw vCall
        simp only [h1, hc', hb, hfz, h3, hv]
        simp
      · cases h2
    · cases h2
  · cases h2
def retT (rs : List ARes) (cs : List AV) : Out → Env → G → Prop
  | .ext _, _, _ => False
  | _, e, g => ∃ b, resE rs e g = some (.mp b 0) ∧ g.hp b = some (.cells cs false)
theorem retT_nrm {rs cs e g} : retT rs cs .nrm e g = (∃ b, resE rs e g = some (.mp b 0) ∧ g.hp b = some (.cells cs false)) := rfl
theorem retT_ret {rs cs e g} : retT rs cs .ret e g = (∃ b, resE rs e g = some (.mp b 0) ∧ g.hp b = some (.cells cs false)) := rfl
section
variable {F : Funs}
theorem retT_call {f : Nat} {fn : AFun} {asx cs : List AV} (hF : F f = some fn) (h : W F fn.body (argEnv asx) g0 (retT fn.res cs)) : ∃ b g, callS F f asx g0 = some (.mp b 0, g) ∧ g.hp b = some (.cells cs false) := by
  obtain ⟨o, e, g, h1, h2⟩ := h
  rw [callS_eq, hF]
  simp only [h1]
  cases o with
  | ext n => exact h2.elim
  | nrm =>
    obtain ⟨b, h3, h4⟩ := h2
    exact ⟨b, g, by simp only [h3, Option.map_some], h4⟩
  | ret =>
    obtain ⟨b, h3, h4⟩ := h2
    exact ⟨b, g, by simp only [h3, Option.map_some], h4⟩
theorem thaw_of {f : Nat} {fn : AFun} {asx cs : List AV} (hF : F f = some fn) (hf : cs.all flat = true) (h : W F fn.body (argEnv asx) g0 (retT fn.res cs)) : thawS F f asx = some cs := by
  obtain ⟨b, g, h1, h2⟩ := retT_call hF h
  unfold thawS
  rw [h1]
  simp only [h2, hf, if_true]
theorem pure_of_thaw {f : Nat} {fn : AFun} {asx cs : List AV} (hF : F f = some fn) (hf : cs.all flat = true) (h : W F fn.body (argEnv asx) g0 (retT fn.res cs)) : pureS F f asx = some (.ptr cs) := by
  obtain ⟨b, g, h1, h2⟩ := retT_call hF h
  unfold pureS
  rw [h1]
  exact frz_d_mp h2 (frzL_flat hf)
end
theorem vThaw_S {F : Funs} {al : Nat → Bool} {id fid : Nat} {args : List AV} {g : G} {bs cs : List AV} (h1 : frzL (rd g al) depth args = some bs) (h2 : thawS F fid bs = some cs) (h3 : (args.flatMap (vis (rd g al) depth)) = []) :
    vThaw F al id (.fn fid [] []) args g = some (.mp id 0, ⟨upd g.hp id (some (.cells cs false)), g.nx⟩) :=
  vThaw_ok (by rw [List.nil_append, List.append_nil]; exact h1) h2 (by rw [List.nil_append, List.append_nil, h3]; rfl)
end Go.Ab
end
section
/- The row's frame: arguments asx trees, the call. -/
set_option linter.unusedVariables false
set_option linter.unusedSimpArgs false
namespace Go.Ab
open Go.RowKit
def c0 (num : Nat → Nat) (w : World) : Cx := ⟨num, w.heap.size, fun _ => True, w, fun _ => (0, 0), fun _ => none⟩
theorem row_calls {P : Program} {num : Nat → Nat} {F : Funs} (hT : Table P num F) (hm : P.follows .mixedOrders = true) {f : Nat} {asx : List AV} {b : Bool} (h : pureS F f asx = some (.b b)) {w : World} {vargs : List Value} (hr : Reps (c0 num w) true asx vargs) :
    Calls P (num f) vargs.toArray w (fun e w' => e = .returned (.bool b) ∧ Below w.heap.size w w') := by
  obtain ⟨k, g', hk⟩ := pureS_bool h
  have K : Ok (c0 num w) 0 := {
    basele := Nat.le_refl _
    cells := fun _ _ _ h => by cases h
    maps := fun _ _ h => by cases h
    toks := fun _ h => by cases h
    inj := fun _ _ _ h => by obtain ⟨_, h, _⟩ := h; cases h
    fresh := fun _ _ => rfl }
  have := ((callE_ok hT hm k).2 f asx g0 _ _ hk).2 (c0 num w) vargs rfl rfl K hr
  refine Calls.mono this.1 fun e w' ⟨val, c', h1, h2, E, _, _, hrep⟩ => ?_
  cases hrep
  exact ⟨h1, h2 ▸ E.below⟩

def intsC (l : List Int) : List AV := l.map fun v => .i .i64 v
def pairsC (l : List (Int × Int)) : List AV := l.flatMap fun p => [.i .i64 p.1, .i .i64 p.2]
theorem sh_ints {P : Program} {t e : TypeId} {x : AV} (ht : P.underlying t = some (.slice e)) (he : P.underlying e = some (.int .i64)) (h : Sh P 2 t [x]) :
    ∃ l : List Int, x = .sl (intsC l) l.length .non ∧ l.length ≤ maxLen ∧ ∀ n ∈ l, (Lit.int .i64 n).wf = true := by
  simp only [Sh, ht, he] at h
  obtain ⟨cs, n, hx, hn, rows, hl, rfl, hS⟩ := h
  cases hx
  have key : ∀ rows : List (List AV), (∀ r ∈ rows, ∃ n, r = [AV.i .i64 n] ∧ (Lit.int .i64 n).wf = true) → ∃ l : List Int, rows.flatten = intsC l ∧ l.length = rows.length ∧ ∀ n ∈ l, (Lit.int .i64 n).wf = true := by
    intro rows
    induction rows with
    | nil => intro _; exact ⟨[], rfl, rfl, fun _ h => by cases h⟩
    | cons r rows ih =>
      intro h
      obtain ⟨n, rfl, hn⟩ := h r (List.mem_cons_self ..)
      obtain ⟨l, h1, h2, h3⟩ := ih fun r hr => h r (List.mem_cons_of_mem _ hr)
      refine ⟨n :: l, by rw [List.flatten_cons, h1]; rfl, by simp [h2], fun m hm => ?_⟩
      rcases List.mem_cons.1 hm with rfl | hm
      · exact hn
      · exact h3 m hm
  obtain ⟨l, h1, h2, h3⟩ := key rows hS
  exact ⟨l, by rw [h1, ← hl, h2], by omega, h3⟩
theorem sh_pairs {P : Program} {t e i : TypeId} {x : AV} {fs : Array Field} (ht : P.underlying t = some (.slice e)) (he : P.underlying e = some (.struct fs)) (hf : fs.toList.map (·.type) = [i, i]) (hi : P.underlying i = some (.int .i64)) (h : Sh P 3 t [x]) :
    ∃ l : List (Int × Int), x = .sl (pairsC l) l.length .non ∧ l.length ≤ maxLen ∧ ∀ p ∈ l, (Lit.int .i64 p.1).wf = true ∧ (Lit.int .i64 p.2).wf = true := by
  simp only [Sh, ht, he, hf, ShL, hi] at h
  obtain ⟨cs, n, hx, hn, rows, hl, rfl, hS⟩ := h
  cases hx
  have key : ∀ rows : List (List AV), (∀ r ∈ rows, ∃ p : Int × Int, r = [AV.i .i64 p.1, .i .i64 p.2] ∧ (Lit.int .i64 p.1).wf = true ∧ (Lit.int .i64 p.2).wf = true) → ∃ l : List (Int × Int), rows.flatten = pairsC l ∧ l.length = rows.length ∧ ∀ p ∈ l, (Lit.int .i64 p.1).wf = true ∧ (Lit.int .i64 p.2).wf = true := by
    intro rows
    induction rows with
    | nil => intro _; exact ⟨[], rfl, rfl, fun _ h => by cases h⟩
    | cons r rows ih =>
      intro h
      obtain ⟨p, rfl, hn⟩ := h r (List.mem_cons_self ..)
      obtain ⟨l, h1, h2, h3⟩ := ih fun r hr => h r (List.mem_cons_of_mem _ hr)
      refine ⟨p :: l, by rw [List.flatten_cons, h1]; rfl, by simp [h2], fun m hm => ?_⟩
      rcases List.mem_cons.1 hm with rfl | hm
      · exact hn
      · exact h3 m hm
  obtain ⟨l, h1, h2, h3⟩ := key rows fun r hr => by
    obtain ⟨a, b, rfl, ⟨n, rfl, hn⟩, c, d, rfl, ⟨k, rfl, hk⟩, rfl⟩ := hS r hr
    exact ⟨(n, k), rfl, hn, hk⟩
  exact ⟨l, by rw [h1, ← hl, h2], by omega, h3⟩
end Go.Ab
end
