/- More fuel gives the same answer; the limit of the evaluator and its equations. -/
import Derived.Test.YtfhinaopoffcnaaAb
namespace Go.Ab

/-- Whatever the first answers the second answers. -/
def CLe (c d : CS) : Prop := ∀ f as g r, c f as g = some r → d f as g = some r

theorem opE_mono {c d : CS} (h : CLe c d) {al : Nat → Bool} {lo id : Nat} {op : AOp} {e : Env} {g : G} {r : AV × G} (hr : opE c al lo id op e g = some r) : opE d al lo id op e g = some r := by
  cases op with
  | call m f args =>
    simp only [opE, vCall] at hr ⊢
    split at hr
    · cases m with
      | raw => exact h _ _ _ _ hr
      | pure =>
        simp only at hr ⊢
        split at hr
        · cases hr
        · split at hr
          · cases hr
          · rename_i hc
            rw [h _ _ _ _ hc]
            exact hr
      | lock =>
        simp only at hr ⊢
        split at hr
        · cases hr
        · split at hr
          · cases hr
          · rename_i hc
            rw [h _ _ _ _ hc]
            exact hr
      | thaw =>
        simp only at hr ⊢
        split at hr
        · cases hr
        · split at hr
          · rename_i hc
            rw [h _ _ _ _ hc]
            exact hr
          · cases hr
    · cases hr
  | _ => exact hr

theorem regE_mono {c d : CS} (h : CLe c d) {draw : Bool} {base : Nat} : ∀ {os : List AOper} {j : Nat} {e : Env} {g : G} {r}, regE c draw base j os e g = some r → regE d draw base j os e g = some r
  | [], _, _, _, _, hr => hr
  | o :: os, j, e, g, r, hr => by
    simp only [regE] at hr ⊢
    split
    · rename_i hw
      simp only [hw, if_true] at hr
      split at hr
      · rename_i ho
        rw [opE_mono h ho]
        exact regE_mono h hr
      · cases hr
    · rename_i hw
      simp only [hw, Bool.false_eq_true, if_false] at hr
      exact regE_mono h hr

theorem iter_mono {f f' : Env → G → Option (Out × Env × G)} (h : ∀ e g r, f e g = some r → f' e g = some r) : ∀ {k k' : Nat} {e g r}, k ≤ k' → iter f k e g = some r → iter f' k' e g = some r
  | 0, _, _, _, _, _, hr => by simp [iter] at hr
  | k + 1, k', e, g, r, hk, hr => by
    obtain ⟨k', rfl⟩ : ∃ j, k' = j + 1 := ⟨k' - 1, by omega⟩
    simp only [iter] at hr ⊢
    split at hr
    · rename_i hf
      rw [h _ _ _ hf]
      exact iter_mono h (by omega) hr
    · rename_i hn
      cases hf : f e g with
      | none => rw [hf] at hr; cases hr
      | some q =>
        rw [hf] at hr
        obtain rfl : q = r := Option.some.inj hr
        obtain ⟨o, e', g'⟩ := q
        cases o with
        | nrm => exact absurd hf (hn _ _)
        | ext n => rw [h _ _ _ hf]
        | ret => rw [h _ _ _ hf]

theorem codeE_mono {c d : CS} (h : CLe c d) {k k' : Nat} (hk : k ≤ k') : ∀ {x : ACode} {e : Env} {g : G} {r}, codeE c k x e g = some r → codeE d k' x e g = some r := by
  intro x
  induction x with
  | skip => intro e g r hr; exact hr
  | reg draw ops =>
    intro e g r hr
    simp only [codeE] at hr ⊢
    split at hr
    · rename_i ho
      rw [regE_mono h ho]
      exact hr
    · cases hr
  | seq a b iha ihb =>
    intro e g r hr
    simp only [codeE] at hr ⊢
    split at hr
    · rename_i ho
      rw [iha ho]
      exact ihb hr
    · rename_i hn
      cases hf : codeE c k a e g with
      | none => rw [hf] at hr; cases hr
      | some q =>
        rw [hf] at hr
        obtain rfl : q = r := Option.some.inj hr
        obtain ⟨o, e', g'⟩ := q
        cases o with
        | nrm => exact absurd hf (hn _ _)
        | ext n => rw [iha hf]
        | ret => rw [iha hf]
  | cond cc t f iht ihf =>
    intro e g r hr
    simp only [codeE] at hr ⊢
    split at hr
    · split
      · rename_i hx
        simp only [hx, if_true] at hr
        exact iht hr
      · rename_i hx
        simp only [hx, Bool.false_eq_true, if_false] at hr
        exact ihf hr
    · cases hr
  | blk id cc ih =>
    intro e g r hr
    simp only [codeE] at hr ⊢
    split at hr
    · rename_i hf
      rw [ih hf]
      exact hr
    · rename_i hn
      cases hf : codeE c k cc e g with
      | none => rw [hf] at hr; cases hr
      | some q =>
        rw [hf] at hr
        obtain rfl : q = r := Option.some.inj hr
        obtain ⟨o, e', g'⟩ := q
        cases o with
        | nrm => rw [ih hf]
        | ext n => exact absurd hf (hn _ _ _)
        | ret => rw [ih hf]
  | loop cc ih =>
    intro e g r hr
    simp only [codeE] at hr ⊢
    exact iter_mono (fun _ _ _ => ih) hk hr
  | ext id => intro e g r hr; exact hr
  | ret => intro e g r hr; exact hr

theorem callE_mono (F : Funs) : ∀ {k k' : Nat}, k ≤ k' → CLe (callE F k) (callE F k')
  | 0, _, _, _, _, _, _, hr => by simp [callE] at hr
  | k + 1, k', hk, f, as, g, r, hr => by
    obtain ⟨k', rfl⟩ : ∃ j, k' = j + 1 := ⟨k' - 1, by omega⟩
    simp only [callE] at hr ⊢
    split at hr
    · cases hr
    · rename_i fn hF
      have hm := fun {x} => codeE_mono (callE_mono F (show k ≤ k' by omega)) (show k ≤ k' by omega) (x := fn.body) (e := argEnv as) (g := g) (r := x)
      split at hr
      · rename_i hc
        rw [hm hc]
        exact hr
      · rename_i hc
        rw [hm hc]
        exact hr
      · cases hr

/-! ### the limit -/
open Classical in
/-- The answer that comes with fuel enough. -/
noncomputable def lim {α : Type} (f : Nat → Option α) : Option α :=
  if h : ∃ r k, f k = some r then some (Classical.choose h) else none
theorem lim_some {α : Type} {f : Nat → Option α} (hm : ∀ k k' r, k ≤ k' → f k = some r → f k' = some r) {r : α} : lim f = some r ↔ ∃ k, f k = some r := by
  unfold lim
  constructor
  · intro h
    split at h
    · rename_i hx
      have := Classical.choose_spec hx
      rwa [Option.some.inj h] at this
    · cases h
  · rintro ⟨k, hk⟩
    rw [dif_pos ⟨r, k, hk⟩]
    obtain ⟨k', hk'⟩ := Classical.choose_spec (⟨r, k, hk⟩ : ∃ r k, f k = some r)
    have h1 := hm k (max k k') _ (by omega) hk
    have h2 := hm k' (max k k') _ (by omega) hk'
    rw [h1] at h2
    exact congrArg some (Option.some.inj h2).symm
theorem lim_ext {α : Type} {a b : Option α} (h : ∀ r, a = some r ↔ b = some r) : a = b := by
  cases a with
  | none =>
    cases b with
    | none => rfl
    | some r => exact (((h r).2 rfl).symm ▸ rfl : none = some r)
  | some r => exact ((h r).1 rfl).symm

variable (F : Funs)
noncomputable def callS : CS := fun f as g => lim fun k => callE F k f as g
noncomputable def regS (draw : Bool) (base j : Nat) (os : List AOper) (e : Env) (g : G) : Option (Env × G) := regE (callS F) draw base j os e g
noncomputable def codeS (x : ACode) (e : Env) (g : G) : Option (Out × Env × G) := lim fun k => codeE (callE F k) k x e g

theorem callS_some {f as g r} : callS F f as g = some r ↔ ∃ k, callE F k f as g = some r :=
  lim_some fun _ _ _ hk h => callE_mono F hk _ _ _ _ h
theorem codeS_some {x e g r} : codeS F x e g = some r ↔ ∃ k, codeE (callE F k) k x e g = some r :=
  lim_some fun _ _ _ hk h => codeE_mono (callE_mono F hk) hk h
theorem callE_le (k : Nat) : CLe (callE F k) (callS F) := fun _ _ _ _ h => (callS_some F).2 ⟨k, h⟩

theorem opE_lim {al lo id op e g r} : opE (callS F) al lo id op e g = some r ↔ ∃ k, opE (callE F k) al lo id op e g = some r := by
  refine ⟨fun h => ?_, fun ⟨k, h⟩ => opE_mono (callE_le F k) h⟩
  cases op with
  | call m f args =>
    simp only [opE, vCall] at h ⊢
    split at h
    · cases m with
      | raw => exact (callS_some F).1 h
      | pure =>
        simp only at h ⊢
        split at h
        · cases h
        · split at h
          · cases h
          · rename_i hc
            obtain ⟨k, hk⟩ := (callS_some F).1 hc
            exact ⟨k, by rw [hk]; exact h⟩
      | lock =>
        simp only at h ⊢
        split at h
        · cases h
        · split at h
          · cases h
          · rename_i hc
            obtain ⟨k, hk⟩ := (callS_some F).1 hc
            exact ⟨k, by rw [hk]; exact h⟩
      | thaw =>
        simp only at h ⊢
        split at h
        · cases h
        · split at h
          · rename_i hc
            obtain ⟨k, hk⟩ := (callS_some F).1 hc
            exact ⟨k, by rw [hk]; exact h⟩
          · cases h
    · cases h
  | _ => exact ⟨0, h⟩

theorem regE_lim {draw base} : ∀ {os : List AOper} {j e g r}, regE (callS F) draw base j os e g = some r ↔ ∃ k, regE (callE F k) draw base j os e g = some r
  | [], _, _, _, _ => ⟨fun h => ⟨0, h⟩, fun ⟨_, h⟩ => h⟩
  | o :: os, j, e, g, r => by
    refine ⟨fun h => ?_, fun ⟨k, h⟩ => regE_mono (callE_le F k) h⟩
    simp only [regE] at h
    split at h
    · rename_i hw
      split at h
      · rename_i ho
        obtain ⟨k1, h1⟩ := (opE_lim F).1 ho
        obtain ⟨k2, h2⟩ := (regE_lim).1 h
        refine ⟨max k1 k2, ?_⟩
        simp only [regE]
        rw [if_pos hw, opE_mono (callE_mono F (Nat.le_max_left k1 k2)) h1]
        exact regE_mono (callE_mono F (Nat.le_max_right k1 k2)) h2
      · cases h
    · rename_i hw
      obtain ⟨k2, h2⟩ := (regE_lim).1 h
      refine ⟨k2, ?_⟩
      simp only [regE]
      rw [if_neg hw]
      exact h2

theorem codeS_skip (e g) : codeS F .skip e g = some (.nrm, e, g) := (codeS_some F).2 ⟨0, rfl⟩
theorem codeS_ext (id e g) : codeS F (.ext id) e g = some (.ext id, e, g) := (codeS_some F).2 ⟨0, rfl⟩
theorem codeS_ret (e g) : codeS F .ret e g = some (.ret, e, g) := (codeS_some F).2 ⟨0, rfl⟩
theorem codeS_reg (draw ops e g) : codeS F (.reg draw ops) e g = match regE (callS F) draw g.nx 0 ops e { g with nx := g.nx + ops.length } with
    | some (e, g) => some (.nrm, e, g)
    | none => none := by
  refine lim_ext fun r => ?_
  rw [codeS_some]
  constructor
  · rintro ⟨k, h⟩
    simp only [codeE] at h
    split at h
    · rename_i ho
      rw [(regE_lim F).2 ⟨k, ho⟩]
      exact h
    · cases h
  · intro h
    split at h
    · rename_i ho
      obtain ⟨k, hk⟩ := (regE_lim F).1 ho
      exact ⟨k, by simp only [codeE]; rw [hk]; exact h⟩
    · cases h
theorem codeS_seq (a b e g) : codeS F (.seq a b) e g = match codeS F a e g with
    | some (.nrm, e, g) => codeS F b e g
    | r => r := by
  refine lim_ext fun r => ?_
  rw [codeS_some]
  constructor
  · rintro ⟨k, h⟩
    simp only [codeE] at h
    split at h
    · rename_i ho
      rw [(codeS_some F).2 ⟨k, ho⟩]
      exact (codeS_some F).2 ⟨k, h⟩
    · rename_i hn
      rw [(codeS_some F).2 ⟨k, h⟩]
      obtain ⟨o, e', g'⟩ := r
      cases o with
      | nrm => exact absurd h (hn _ _)
      | ext n => rfl
      | ret => rfl
  · intro h
    split at h
    · rename_i ho
      obtain ⟨k1, h1⟩ := (codeS_some F).1 ho
      obtain ⟨k2, h2⟩ := (codeS_some F).1 h
      refine ⟨max k1 k2, ?_⟩
      simp only [codeE]
      rw [codeE_mono (callE_mono F (Nat.le_max_left k1 k2)) (Nat.le_max_left k1 k2) h1]
      exact codeE_mono (callE_mono F (Nat.le_max_right k1 k2)) (Nat.le_max_right k1 k2) h2
    · rename_i hn
      obtain ⟨k1, h1⟩ := (codeS_some F).1 h
      refine ⟨k1, ?_⟩
      simp only [codeE]
      rw [h1]
      obtain ⟨o, e', g'⟩ := r
      cases o with
      | nrm => exact absurd h (hn _ _)
      | ext n => rfl
      | ret => rfl
theorem codeS_cond (c t f e g) : codeS F (.cond c t f) e g = match c.ev e with
    | .b x => if x then codeS F t e g else codeS F f e g
    | _ => none := by
  refine lim_ext fun r => ?_
  rw [codeS_some]
  simp only [codeE]
  cases c.ev e with
  | b x =>
    cases x with
    | true => simp only [if_true]; exact (codeS_some F).symm
    | false => simp only [Bool.false_eq_true, if_false]; exact (codeS_some F).symm
  | _ => simp
theorem codeS_blk (id c e g) : codeS F (.blk id c) e g = match codeS F c e g with
    | some (.ext n, e, g) => some (if n = id then .nrm else .ext n, e, g)
    | r => r := by
  refine lim_ext fun r => ?_
  rw [codeS_some]
  constructor
  · rintro ⟨k, h⟩
    simp only [codeE] at h
    split at h
    · rename_i ho
      rw [(codeS_some F).2 ⟨k, ho⟩]
      exact h
    · rename_i hn
      rw [(codeS_some F).2 ⟨k, h⟩]
      obtain ⟨o, e', g'⟩ := r
      cases o with
      | nrm => rfl
      | ext n => exact absurd h (hn _ _ _)
      | ret => rfl
  · intro h
    split at h
    · rename_i ho
      obtain ⟨k1, h1⟩ := (codeS_some F).1 ho
      exact ⟨k1, by simp only [codeE]; rw [h1]; exact h⟩
    · rename_i hn
      obtain ⟨k1, h1⟩ := (codeS_some F).1 h
      refine ⟨k1, ?_⟩
      simp only [codeE]
      rw [h1]
      obtain ⟨o, e', g'⟩ := r
      cases o with
      | nrm => rfl
      | ext n => exact absurd h (hn _ _ _)
      | ret => rfl
theorem codeS_loop (c e g) : codeS F (.loop c) e g = match codeS F c e g with
    | some (.nrm, e, g) => codeS F (.loop c) e g
    | r => r := by
  refine lim_ext fun r => ?_
  rw [codeS_some]
  constructor
  · rintro ⟨k, h⟩
    simp only [codeE] at h
    cases k with
    | zero => simp [iter] at h
    | succ k =>
      simp only [iter] at h
      split at h
      · rename_i ho
        rw [(codeS_some F).2 ⟨k + 1, ho⟩]
        refine (codeS_some F).2 ⟨k + 1, ?_⟩
        simp only [codeE]
        exact iter_mono (fun _ _ _ h => h) (Nat.le_succ k) h
      · rename_i hn
        rw [(codeS_some F).2 ⟨k + 1, h⟩]
        obtain ⟨o, e', g'⟩ := r
        cases o with
        | nrm => exact absurd h (hn _ _)
        | ext n => rfl
        | ret => rfl
  · intro h
    split at h
    · rename_i ho
      obtain ⟨k1, h1⟩ := (codeS_some F).1 ho
      obtain ⟨k2, h2⟩ := (codeS_some F).1 h
      simp only [codeE] at h2
      refine ⟨max k1 k2 + 1, ?_⟩
      simp only [codeE, iter]
      rw [codeE_mono (callE_mono F (by omega : k1 ≤ max k1 k2 + 1)) (by omega : k1 ≤ max k1 k2 + 1) h1]
      exact iter_mono (fun _ _ _ h => codeE_mono (callE_mono F (by omega : k2 ≤ max k1 k2 + 1)) (by omega : k2 ≤ max k1 k2 + 1) h) (by omega) h2
    · rename_i hn
      obtain ⟨k1, h1⟩ := (codeS_some F).1 h
      refine ⟨k1 + 1, ?_⟩
      simp only [codeE, iter]
      rw [codeE_mono (callE_mono F (by omega : k1 ≤ k1 + 1)) (by omega : k1 ≤ k1 + 1) h1]
      obtain ⟨o, e', g'⟩ := r
      cases o with
      | nrm => exact absurd h (hn _ _)
      | ext n => rfl
      | ret => rfl
/-- A call is its body's run. -/
theorem callS_eq (f as g) : callS F f as g = match F f with
    | none => none
    | some fn => match codeS F fn.body (argEnv as) g with
      | some (.nrm, e, g) | some (.ret, e, g) => (resE fn.res e g).map (·, g)
      | _ => none := by
  refine lim_ext fun r => ?_
  rw [callS_some]
  constructor
  · rintro ⟨k, h⟩
    cases k with
    | zero => simp [callE] at h
    | succ k =>
      simp only [callE] at h
      split at h
      · cases h
      · rename_i fn hF
        rw [hF]
        simp only
        split at h
        · rename_i hc
          rw [(codeS_some F).2 ⟨k, hc⟩]
          exact h
        · rename_i hc
          rw [(codeS_some F).2 ⟨k, hc⟩]
          exact h
        · cases h
  · intro h
    split at h
    · cases h
    · rename_i fn hF
      split at h
      · rename_i hc
        obtain ⟨k, hk⟩ := (codeS_some F).1 hc
        exact ⟨k + 1, by simp only [callE, hF]; rw [hk]; exact h⟩
      · rename_i hc
        obtain ⟨k, hk⟩ := (codeS_some F).1 hc
        exact ⟨k + 1, by simp only [callE, hF]; rw [hk]; exact h⟩
      · cases h
end Go.Ab
