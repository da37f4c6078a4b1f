/- Regions in the order of their text. -/
import Derived.Test.YtfhinaopoffcnaaAbReg
set_option linter.unusedVariables false
set_option linter.unusedSimpArgs false
namespace Go.Ab
open Go.RowKit

def dstB (N : Nat) : Option Nat → Bool
  | none => true
  | some d => decide (d < N)
def grdB (N : Nat) (ops : Array Oper) : Option (Nat × Bool) → Option (Nat × Bool) → Bool
  | none, none => true
  | some (j, w), some (t, w') => ((ops[j]?).bind (·.dst) == some t) && (w == w') && decide (t < N)
  | _, _ => false
def operB (P : Program) (nm : Nat → Nat) (N : Nat) (ops : Array Oper) (o : Oper) (ao : AOper) : Bool :=
  opB P nm o.op ao.op && (ao.dst == o.dst) && dstB N o.dst && grdB N ops o.guard ao.grd
def opersB (P : Program) (nm : Nat → Nat) (N : Nat) (ops : Array Oper) : List Oper → List AOper → Bool
  | [], [] => true
  | o :: os, ao :: aos => operB P nm N ops o ao && opersB P nm N ops os aos
  | _, _ => false

structure St (N : Nat) (c : Cx) (e : Env) (g : G) (a : Act) : Prop where
  env : EnvOk c e a
  ok : Ok c g.nx
  hp : c.hp = g.hp
  size : N ≤ a.tmps.size
  defers : a.defers = []

theorem put_size (a : Act) (d : Option Nat) (v : Value) : (a.put d v).tmps.size = a.tmps.size := by cases d <;> simp [Act.put]
theorem put_defers' (a : Act) (d : Option Nat) (v : Value) : (a.put d v).defers = a.defers := by cases d <;> rfl
theorem EnvOk.put {c : Cx} {e : Env} {a : Act} (h : EnvOk c e a) {d : Option Nat} {x : AV} {v : Value} (hd : dstB a.tmps.size d = true) (hr : Rep c true x v) : EnvOk c (Ab.put e d x) (a.put d v) := by
  intro t
  cases d with
  | none => exact h t
  | some d =>
    simp only [dstB, decide_eq_true_eq] at hd
    simp only [Ab.put, upd, Act.put]
    by_cases ht : t = d
    · subst ht
      rw [if_pos rfl]
      simpa [Array.getD_eq_getD_getElem?, Array.getElem?_setIfInBounds_self_of_lt hd] using hr
    · rw [if_neg ht]
      have := h t
      simp only [Array.getD_eq_getD_getElem?] at this ⊢
      rwa [Array.getElem?_setIfInBounds_ne (fun h => ht h.symm)]
theorem dstB_le {N M : Nat} (h : N ≤ M) {d : Option Nat} (hd : dstB N d = true) : dstB M d = true := by
  cases d with
  | none => rfl
  | some d => simp only [dstB, decide_eq_true_eq] at hd ⊢; omega
theorem St.step {N : Nat} {c c' : Cx} {e : Env} {g g' : G} {a : Act} (S : St N c e g a) (E : Evo c c') (K : Ok c' g'.nx) (hh : c'.hp = g'.hp) {d : Option Nat} {x : AV} {v : Value} (hd : dstB N d = true) (hr : Rep c' true x v) : St N c' (Ab.put e d x) g' (a.put d v) :=
  ⟨(S.env.evo E).put (dstB_le S.size hd) hr, K, hh, by rw [put_size]; exact S.size, by rw [put_defers']; exact S.defers⟩
theorem wanted_eq {N : Nat} {c : Cx} {e : Env} {g : G} {a : Act} (S : St N c e g a) {ops : Array Oper} {o : Oper} {grd : Option (Nat × Bool)} (h : grdB N ops o.guard grd = true) : wanted e grd = Region.wanted o (yielded ops a.tmps) := by
  unfold grdB at h
  unfold Region.wanted
  split at h
  · rename_i h1
    rw [h1]
    rfl
  · rename_i j w t w' h1
    rw [h1]
    simp only [Bool.and_eq_true, beq_iff_eq, decide_eq_true_eq] at h
    obtain ⟨⟨h2, rfl⟩, h3⟩ := h
    simp only [yielded, h2, Option.bind_some]
    have hr := S.env t
    have hlt : t < a.tmps.size := Nat.lt_of_lt_of_le h3 S.size
    rw [Array.getD_eq_getD_getElem?, Array.getElem?_eq_getElem hlt] at hr
    simp only [Option.getD_some] at hr
    rw [Array.getElem?_eq_getElem hlt]
    generalize a.tmps[t] = v at hr
    cases he : e t with
    | b x =>
      rw [he] at hr
      cases hr
      simp [wanted, he]
    | _ =>
      simp only [wanted, he]
      rw [he] at hr
      cases hr <;> simp [Go.undef]
  · cases h

/-- One operation, or none if its guard says no. -/
def opStep (call : CS) (draw : Bool) (base j : Nat) (o : AOper) (e : Env) (g : G) : Option (Env × G) :=
  if wanted e o.grd then
    match opE call (allow draw base o.pre) base (base + j) o.op e g with
    | some (v, g') => some (put e o.dst v, g')
    | none => none
  else some (put e o.dst .undef, g)
theorem regE_step (call : CS) (draw : Bool) (base j : Nat) (o : AOper) (os : List AOper) (e : Env) (g : G) : regE call draw base j (o :: os) e g = (match opStep call draw base j o e g with | some (e', g') => regE call draw base (j + 1) os e' g' | none => none) := by
  simp only [regE, opStep]
  by_cases h : wanted e o.grd = true
  · rw [if_pos h, if_pos h]
    cases opE call (allow draw base o.pre) base (base + j) o.op e g with
    | none => rfl
    | some r => rfl
  · rw [if_neg h, if_neg h]

section
variable {P : Program} {call : CS} {N : Nat}
theorem opStep_wp {c : Cx} {e e' : Env} {g g' : G} {a : Act} (hcall : CallOk P c.num call) (S : St N c e g a) {ops : Array Oper} {j : Nat} {o : Oper} {ao : AOper} (hj : ops[j]? = some o) (ho : operB P c.num N ops o ao = true) {draw : Bool} {base : Nat}
    (hfree : g.hp (base + j) = none) (hlt : base + j < g.nx) (h : opStep call draw base j ao e g = some (e', g')) {K : Act → World → Prop} {Q : Exit → Act → World → Prop} (hK : ∀ c' a', Evo c c' → St N c' e' g' a' → K a' c'.w) : wpOp P ops Q j K a c.w := by
  simp only [operB, Bool.and_eq_true, beq_iff_eq] at ho
  obtain ⟨⟨⟨h1, h2⟩, h3⟩, h4⟩ := ho
  have hw := wanted_eq S h4
  unfold wpOp
  rw [hj]
  simp only
  unfold opStep at h
  by_cases hwt : wanted e ao.grd = true
  · rw [if_pos hwt] at h
    rw [← hw, if_pos hwt]
    split at h
    · rename_i v g1 hop
      cases h
      refine .inl (op_sim hcall S.env S.ok S.hp (by rw [S.hp]; exact hfree) hlt h1 hop K Q (fun c' val E Kk hh hr => ?_))
      have hd : dstB N ao.dst = true := by rw [h2]; exact h3
      have := hK c' _ E (S.step E Kk hh hd hr)
      rwa [h2] at this
    · cases h
  · rw [if_neg hwt] at h
    cases h
    have hwf : wanted e ao.grd = false := by simpa using hwt
    rw [← hw, hwf]
    simp only [Bool.false_eq_true, if_false]
    have hd : dstB N ao.dst = true := by rw [h2]; exact h3
    have := hK c _ (Evo.refl c) (S.step (Evo.refl c) S.ok S.hp hd .undef)
    rwa [h2] at this

theorem opStep_keep (hk : CallKeep call) {draw : Bool} {base j : Nat} {o : AOper} {e e' : Env} {g g' : G} (h : opStep call draw base j o e g = some (e', g')) : Keep g g' (base + j) := by
  unfold opStep at h
  split at h
  · split at h
    · rename_i hop
      cases h
      exact opE_keep hk hop
    · cases h
  · cases h
    exact keep_refl _ _

theorem reg_wp {num : Nat → Nat} (hcall : CallOk P num call) (hk : CallKeep call) {ops : Array Oper} {Q : Exit → Act → World → Prop} {draw : Bool} {base n : Nat} {e' : Env} {g' : G} : ∀ (os : List Oper) (aos : List AOper) (j : Nat) {c : Cx} {e : Env} {g : G} {a : Act}, c.num = num → (∀ i o, os[i]? = some o → ops[j + i]? = some o) → opersB P num N ops os aos = true → j + os.length = n →
    St N c e g a → base + n ≤ g.nx → (∀ i, j ≤ i → i < n → g.hp (base + i) = none) → regE call draw base j aos e g = some (e', g') → (∀ c' a', Evo c c' → St N c' e' g' a' → Q .normal a' c'.w) → wpOps P ops Q (List.range' j os.length) a c.w
  | [], [], j, c, e, g, a, _, _, _, _, S, _, _, h, hQ => by
    simp only [regE] at h
    cases h
    exact hQ c a (Evo.refl c) S
  | [], _ :: _, _, _, _, _, _, _, _, h, _, _, _, _, _, _ => by simp [opersB] at h
  | _ :: _, [], _, _, _, _, _, _, _, h, _, _, _, _, _, _ => by simp [opersB] at h
  | o :: os, ao :: aos, j, c, e, g, a, hnum, hops, hb, hn, S, hnx, hfree, h, hQ => by
    simp only [opersB, Bool.and_eq_true] at hb
    rw [regE_step] at h
    simp only [List.length_cons] at hn
    rw [List.length_cons, List.range'_succ, wpOps_cons]
    split at h
    · rename_i e1 g1 hst
      have hkp := opStep_keep hk hst
      refine opStep_wp (hnum ▸ hcall) S (by simpa using hops 0 o rfl) (hnum ▸ hb.1) (hfree j (Nat.le_refl _) (by omega)) (by omega) hst (fun c1 a1 E1 S1 => ?_)
      exact reg_wp hcall hk os aos (j + 1) (E1.num.trans hnum) (fun i o' hi => by have := hops (i + 1) o' (by simpa using hi); rwa [show j + (i + 1) = j + 1 + i by omega] at this) hb.2 (by omega) S1 (Nat.le_trans hnx hkp.1)
        (fun i h1 h2 => hkp.2 _ (by omega) (by omega) (hfree i (by omega) h2)) h (fun c' a' E' S' => hQ c' a' (E1.trans E') S')
    · cases h
end
end Go.Ab
