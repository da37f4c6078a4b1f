/- Code and calls: a run of the abstract machine is a run of the program. -/
import Derived.Test.YtfhinaopoffcnaaAbAny
import Derived.LoopN
set_option linter.unusedVariables false
set_option linter.unusedSimpArgs false
set_option linter.unnecessarySimpa false
namespace Go.Ab
open Go.RowKit

def codeB (P : Program) (nm : Nat → Nat) (N : Nat) : Code → ACode → Bool
  | .skip, .skip => true
  | .region _ ops d, .reg d' aos => (d == d') && regB P nm N ops d aos
  | .seq a b, .seq a' b' => codeB P nm N a a' && codeB P nm N b b'
  | .cond c t f, .cond c' t' f' => opdB nm c c' && codeB P nm N t t' && codeB P nm N f f'
  | .block i c, .blk i' c' => (i == i') && codeB P nm N c c'
  | .loop c, .loop c' => codeB P nm N c c'
  | .exit i, .ext i' => i == i'
  | .ret, .ret => true
  | _, _ => false

def Keeps (g g' : G) : Prop := g.nx ≤ g'.nx ∧ ∀ i, i < g.nx → g.hp i = none → g'.hp i = none
theorem Keeps.refl (g : G) : Keeps g g := ⟨Nat.le_refl _, fun _ _ h => h⟩
theorem Keeps.trans {g g1 g2 : G} (h : Keeps g g1) (k : Keeps g1 g2) : Keeps g g2 := ⟨Nat.le_trans h.1 k.1, fun i hi hn => k.2 i (Nat.lt_of_lt_of_le hi h.1) (h.2 i hi hn)⟩

theorem regE_keep {call : CS} (hk : CallKeep call) {draw : Bool} {base : Nat} {e' : Env} {g' : G} : ∀ (aos : List AOper) (j : Nat) {e : Env} {g : G}, regE call draw base j aos e g = some (e', g') → g.nx ≤ g'.nx ∧ ∀ i, i < base → i < g.nx → g.hp i = none → g'.hp i = none
  | [], j, e, g, h => by simp only [regE] at h; cases h; exact ⟨Nat.le_refl _, fun _ _ _ h => h⟩
  | o :: os, j, e, g, h => by
    rw [regE_step] at h
    split at h
    · rename_i e1 g1 hst
      have h1 := opStep_keep hk hst
      have h2 := regE_keep hk os (j + 1) h
      exact ⟨Nat.le_trans h1.1 h2.1, fun i hb hi hn => h2.2 i hb (Nat.lt_of_lt_of_le hi h1.1) (h1.2 i hi (by omega) hn)⟩
    · cases h

theorem iter_keep {f : Env → G → Option (Out × Env × G)} (hf : ∀ e g o e' g', f e g = some (o, e', g') → Keeps g g') : ∀ (k : Nat) {e : Env} {g : G} {o : Out} {e' : Env} {g' : G}, iter f k e g = some (o, e', g') → Keeps g g'
  | 0, _, _, _, _, _, h => by simp [iter] at h
  | k + 1, e, g, o, e', g', h => by
    simp only [iter] at h
    split at h
    · rename_i e1 g1 h1
      exact (hf _ _ _ _ _ h1).trans (iter_keep hf k h)
    · exact hf _ _ _ _ _ h
theorem codeE_keep {call : CS} (hk : CallKeep call) (k : Nat) : ∀ (c : ACode) {e : Env} {g : G} {o : Out} {e' : Env} {g' : G}, codeE call k c e g = some (o, e', g') → Keeps g g'
  | .skip, _, _, _, _, _, h => by simp only [codeE] at h; cases h; exact Keeps.refl _
  | .reg draw ops, e, g, _, _, _, h => by
    simp only [codeE] at h
    split at h
    · rename_i e1 g1 h1
      cases h
      have := regE_keep hk ops 0 h1
      exact ⟨Nat.le_trans (Nat.le_add_right _ _) this.1, fun i hi hn => this.2 i hi (Nat.lt_of_lt_of_le hi (Nat.le_add_right _ _)) hn⟩
    · cases h
  | .seq a b, _, _, _, _, _, h => by
    simp only [codeE] at h
    split at h
    · rename_i e1 g1 h1
      exact (codeE_keep hk k a h1).trans (codeE_keep hk k b h)
    · exact codeE_keep hk k a h
  | .cond c t f, e, g, _, _, _, h => by
    simp only [codeE] at h
    split at h
    · split at h
      · exact codeE_keep hk k t h
      · exact codeE_keep hk k f h
    · cases h
  | .blk id c, _, _, _, _, _, h => by
    simp only [codeE] at h
    split at h
    · rename_i n e1 g1 h1
      cases h
      exact codeE_keep hk k c h1
    · exact codeE_keep hk k c h
  | .loop c, _, _, _, _, _, h => by
    simp only [codeE] at h
    exact iter_keep (fun e g o e' g' h => codeE_keep hk k c h) k h
  | .ext _, _, _, _, _, _, h => by simp only [codeE] at h; cases h; exact Keeps.refl _
  | .ret, _, _, _, _, _, h => by simp only [codeE] at h; cases h; exact Keeps.refl _

def exOf : Out → Exit
  | .nrm => .normal
  | .ext n => .exit n
  | .ret => .ret

section
variable {P : Program} {call : CS} {N : Nat}
theorem rounds_wp {num : Nat → Nat} {cd : Code} {f : Env → G → Option (Out × Env × G)} {Q : Exit → Act → World → Prop}
    (hf : ∀ {Q : Exit → Act → World → Prop} {c : Cx} {e e' : Env} {g g' : G} {a : Act} {o : Out}, c.num = num → St N c e g a → f e g = some (o, e', g') → (∀ c' a', Evo c c' → St N c' e' g' a' → Q (exOf o) a' c'.w) → cd.wp P Q a c.w) :
    ∀ (k : Nat) {c : Cx} {e e' : Env} {g g' : G} {a : Act} {o : Out}, c.num = num → St N c e g a → iter f k e g = some (o, e', g') → (∀ c' a', Evo c c' → St N c' e' g' a' → Q (exOf o) a' c'.w) → (o = .nrm → False) → Code.rounds P cd Q k a c.w
  | 0, _, _, _, _, _, _, _, _, _, h, _, _ => by simp [iter] at h
  | k + 1, c, e, e', g, g', a, o, hn, S, h, hQ, hno => by
    simp only [iter] at h
    rw [rounds_succ]
    split at h
    · rename_i e1 g1 h1
      exact hf hn S h1 fun c1 a1 E1 S1 => rounds_wp hf k (E1.num.trans hn) S1 h (fun c' a' E' S' => hQ c' a' (E1.trans E') S') hno
    · refine hf hn S h fun c1 a1 E1 S1 => ?_
      have := hQ c1 a1 E1 S1
      cases o with
      | nrm => exact (hno rfl).elim
      | ext n => exact this
      | ret => exact this
theorem iter_out {f : Env → G → Option (Out × Env × G)} : ∀ (k : Nat) {e e' : Env} {g g' : G} {o : Out}, iter f k e g = some (o, e', g') → o = .nrm → False
  | 0, _, _, _, _, _, h, _ => by simp [iter] at h
  | k + 1, e, e', g, g', o, h, ho => by
    simp only [iter] at h
    split at h
    · exact iter_out k h ho
    · rename_i hne
      subst ho
      exact hne _ _ h

theorem code_wp {num : Nat → Nat} (hcall : CallOk P num call) (hk : CallKeep call) (hm : P.follows .mixedOrders = true) (k : Nat) : ∀ (ac : ACode) {cd : Code} {Q : Exit → Act → World → Prop} {c : Cx} {e e' : Env} {g g' : G} {a : Act} {o : Out},
    codeB P num N cd ac = true → c.num = num → St N c e g a → codeE call k ac e g = some (o, e', g') → (∀ c' a', Evo c c' → St N c' e' g' a' → Q (exOf o) a' c'.w) → cd.wp P Q a c.w
  | .skip, cd, Q, c, e, e', g, g', a, o, hb, hn, S, h, hQ => by
    cases cd <;> simp only [codeB, Bool.false_eq_true] at hb
    simp only [codeE] at h; cases h
    exact wp_skip (hQ c a (Evo.refl c) S)
  | .reg d aos, cd, Q, c, e, e', g, g', a, o, hb, hn, S, h, hQ => by
    cases cd <;> simp only [codeB, Bool.false_eq_true] at hb
    simp only [Bool.and_eq_true, beq_iff_eq] at hb
    obtain ⟨rfl, hb⟩ := hb
    simp only [codeE] at h
    split at h
    · rename_i e1 g1 h1
      cases h
      exact region_wp hcall hk hm hb hn S h1 hQ
    · cases h
  | .seq x y, cd, Q, c, e, e', g, g', a, o, hb, hn, S, h, hQ => by
    cases cd <;> simp only [codeB, Bool.false_eq_true] at hb
    simp only [Bool.and_eq_true] at hb
    simp only [codeE] at h
    refine wp_seq ?_
    split at h
    · rename_i e1 g1 h1
      exact code_wp hcall hk hm k x hb.1 hn S h1 fun c1 a1 E1 S1 => code_wp hcall hk hm k y hb.2 (E1.num.trans hn) S1 h fun c' a' E' S' => hQ c' a' (E1.trans E') S'
    · rename_i hne
      refine code_wp hcall hk hm k x hb.1 hn S h fun c1 a1 E1 S1 => ?_
      have := hQ c1 a1 E1 S1
      cases o with
      | nrm => exact (hne _ _ h).elim
      | ext n => exact this
      | ret => exact this
  | .cond x t f, cd, Q, c, e, e', g, g', a, o, hb, hn, S, h, hQ => by
    cases cd <;> simp only [codeB, Bool.false_eq_true] at hb
    simp only [Bool.and_eq_true] at hb
    obtain ⟨⟨h1, h2⟩, h3⟩ := hb
    have hr := opdB_rep S.env (hn ▸ h1)
    simp only [codeE] at h
    split at h
    · rename_i b hx
      rw [hx] at hr
      refine wp_cond (t := b) (by
        generalize a.eval _ = u at hr
        cases hr; rfl) ?_
      cases b with
      | true =>
        simp only [if_true] at h ⊢
        exact code_wp hcall hk hm k t h2 hn S h hQ
      | false =>
        simp only [Bool.false_eq_true, if_false] at h ⊢
        exact code_wp hcall hk hm k f h3 hn S h hQ
    · cases h
  | .blk i x, cd, Q, c, e, e', g, g', a, o, hb, hn, S, h, hQ => by
    cases cd <;> simp only [codeB, Bool.false_eq_true] at hb
    simp only [Bool.and_eq_true, beq_iff_eq] at hb
    obtain ⟨rfl, hb⟩ := hb
    simp only [codeE] at h
    refine wp_block ?_
    split at h
    · rename_i n e1 g1 h1
      cases h
      refine code_wp hcall hk hm k x hb hn S h1 fun c1 a1 E1 S1 => ?_
      have := hQ c1 a1 E1 S1
      show if _ then _ else _
      split
      · rename_i hni; rw [if_pos hni] at this; exact this
      · rename_i hni; rw [if_neg hni] at this; exact this
    · rename_i hne
      refine code_wp hcall hk hm k x hb hn S h fun c1 a1 E1 S1 => ?_
      have := hQ c1 a1 E1 S1
      cases o with
      | nrm => exact this
      | ext n => exact (hne _ _ _ h).elim
      | ret => exact this
  | .loop x, cd, Q, c, e, e', g, g', a, o, hb, hn, S, h, hQ => by
    cases cd <;> simp only [codeB, Bool.false_eq_true] at hb
    simp only [codeE] at h
    exact wp_loop_rounds k (rounds_wp (fun hn S h hQ => code_wp hcall hk hm k x hb hn S h hQ) k hn S h hQ (iter_out k h))
  | .ext i, cd, Q, c, e, e', g, g', a, o, hb, hn, S, h, hQ => by
    cases cd <;> simp only [codeB, Bool.false_eq_true] at hb
    simp only [beq_iff_eq] at hb
    subst hb
    simp only [codeE] at h; cases h
    exact wp_exit (hQ c a (Evo.refl c) S)
  | .ret, cd, Q, c, e, e', g, g', a, o, hb, hn, S, h, hQ => by
    cases cd <;> simp only [codeB, Bool.false_eq_true] at hb
    simp only [codeE] at h; cases h
    exact wp_ret (hQ c a (Evo.refl c) S)
end

def resB : List ResultVar → List ARes → Bool
  | [], [] => true
  | .tmp t :: rs, .t t' :: rs' => (t == t') && resB rs rs'
  | _, _ => false
/-- The whole look at a function. -/
def funB (P : Program) (nm : Nat → Nat) (fn : Func) (A : AFun) : Bool :=
  (match fn.body with
   | some cd => codeB P nm fn.ntmps cd A.body
   | none => false) && resB fn.results.toList A.res && !(fn.name == "runtime.NumGoroutine")

def resVar (tmps : Array Value) : ResultVar → Sem Value
  | .tmp t => pure (tmps.getD t undef)
  | .cell a t => do loadVar t (← asAddr (tmps.getD a undef))
theorem results_eq (fn : Func) (tmps : Array Value) : results fn tmps = (fn.results.mapM (resVar tmps) >>= fun vs => pure (if h : vs.size = 1 then vs[0] else .tuple vs)) := by
  unfold results
  congr 1
theorem resB_ok {c : Cx} {e : Env} {a : Act} {g : G} (he : EnvOk c e a) {P : Program} {w : World} : ∀ {rs : List ResultVar} {as : List ARes} {vs : List AV}, resB rs as = true → resAll e g as = some vs → ∃ us : List Value, (rs.mapM (resVar a.tmps)).run P w = .ok us w ∧ Reps c true vs us
  | [], [], vs, _, h => by
    simp only [resAll] at h; cases h
    exact ⟨[], rfl, Reps.nil⟩
  | .tmp t :: rs, .t t' :: as, vs, hb, h => by
    simp only [resB, Bool.and_eq_true, beq_iff_eq] at hb
    obtain ⟨rfl, hb⟩ := hb
    simp only [resAll, resOne] at h
    split at h
    · rename_i v vs' h1 h2
      cases h1; cases h
      obtain ⟨us, hu, hr⟩ := resB_ok he hb h2
      refine ⟨a.tmps.getD t undef :: us, ?_, Reps.cons (he t) hr⟩
      rw [List.mapM_cons, Sem.run_bind]
      show Result.andThen (.ok (a.tmps.getD t undef) w) _ = _
      rw [Result.andThen_ok, Sem.run_bind, hu]
      rfl
    · cases h
  | [], _ :: _, _, h, _ => by simp [resB] at h
  | .tmp _ :: _, [], _, h, _ => by simp [resB] at h
  | .tmp _ :: _, .cell _ _ :: _, _, h, _ => by simp [resB] at h
  | .cell _ _ :: _, [], _, h, _ => by simp [resB] at h
  | .cell _ _ :: _, .t _ :: _, _, h, _ => by simp [resB] at h
  | .cell _ _ :: _, .cell _ _ :: _, _, h, _ => by simp [resB] at h

theorem res_ok {c : Cx} {e : Env} {a : Act} {g : G} (he : EnvOk c e a) {P : Program} {w : World} {fn : Func} {as : List ARes} {v : AV} (hb : resB fn.results.toList as = true) (h : resE as e g = some v) : ∃ u, (results fn a.tmps).run P w = .ok u w ∧ Rep c true v u := by
  unfold resE at h
  have key : ∀ vs, resAll e g as = some vs → ∃ us : List Value, (results fn a.tmps).run P w = .ok (if h : us.toArray.size = 1 then us.toArray[0] else .tuple us.toArray) w ∧ Reps c true vs us := by
    intro vs hv
    obtain ⟨us, hu, hr⟩ := resB_ok (P := P) (w := w) he hb hv
    refine ⟨us, ?_, hr⟩
    rw [results_eq, Array.mapM_eq_mapM_toList, Sem.run_bind, Sem.run_map, hu]
    rfl
  split at h
  · rename_i v' hv
    cases h
    obtain ⟨us, hu, hr⟩ := key _ hv
    obtain ⟨u, us', rfl, h1, h2⟩ := Reps.cons_inv hr
    have := Reps.nil_inv h2
    subst this
    exact ⟨u, by simpa using hu, h1⟩
  · rename_i vs hne hv
    cases h
    obtain ⟨us, hu, hr⟩ := key _ hv
    refine ⟨_, hu, ?_⟩
    rw [dif_neg]
    · exact .tup us hr.1 hr.2
    · intro hs
      have hl : vs.length = 1 := by rw [hr.1]; simpa using hs
      match vs, hl, hne with
      | [v], _, hne => exact hne v rfl
  · cases h

theorem argEnv_ok {c : Cx} {as : List AV} {vs : List Value} (h : Reps c true as vs) (n : Nat) : EnvOk c (argEnv as) { tmps := vs.toArray ++ Array.replicate n undef, defers := [] } := by
  intro t
  unfold argEnv
  rw [List.getD_eq_getElem?_getD]
  show Rep c true _ ((vs.toArray ++ Array.replicate n undef).getD t undef)
  rw [Array.getD_eq_getD_getElem?, Array.getElem?_append]
  by_cases ht : t < vs.length
  · rw [if_pos (by simpa using ht)]
    have ht' : t < as.length := by rw [h.1]; exact ht
    rw [List.getElem?_eq_getElem ht', List.getElem?_toArray, List.getElem?_eq_getElem ht]
    exact h.2 t _ _ (List.getElem?_eq_getElem ht') (List.getElem?_eq_getElem ht)
  · rw [if_neg (by simpa using ht), List.getElem?_eq_none (by have := h.1; omega)]
    rw [Array.getElem?_replicate]
    split <;> exact .undef

/-- The functions of 'F' are the program's. -/
def Table (P : Program) (num : Nat → Nat) (F : Funs) : Prop := ∀ f A, F f = some A → ∃ fn, P.funcs[num f]? = some fn ∧ funB P num fn A = true

theorem callE_ok {P : Program} {num : Nat → Nat} {F : Funs} (hT : Table P num F) (hm : P.follows .mixedOrders = true) : ∀ k, CallKeep (callE F k) ∧ CallOk P num (callE F k)
  | 0 => ⟨fun f as g v g' h => by simp [callE] at h, fun f as g v g' h => by simp [callE] at h⟩
  | k + 1 => by
    obtain ⟨hk, hcall⟩ := callE_ok hT hm k
    have keep : CallKeep (callE F (k + 1)) := by
      intro f as g v g' h
      simp only [callE] at h
      split at h
      · cases h
      · rename_i fn hF
        split at h
        · rename_i e1 g1 h1
          have := codeE_keep hk k _ h1
          cases hr : resE fn.res e1 g1 with
          | none => rw [hr] at h; cases h
          | some x => rw [hr] at h; cases h; exact this
        · rename_i e1 g1 h1
          have := codeE_keep hk k _ h1
          cases hr : resE fn.res e1 g1 with
          | none => rw [hr] at h; cases h
          | some x => rw [hr] at h; cases h; exact this
        · cases h
    refine ⟨keep, fun f as g v g' h => ⟨keep f as g v g' h, fun c vargs hn hg K hr => ?_⟩⟩
    simp only [callE] at h
    split at h
    · cases h
    · rename_i A hF
      obtain ⟨fn, hfn, hb⟩ := hT f A hF
      simp only [funB, Bool.and_eq_true, Bool.not_eq_true'] at hb
      obtain ⟨⟨hb1, hb2⟩, hb3⟩ := hb
      split at hb1
      · rename_i cd hbody
        refine ⟨?_, fn, hfn, by rw [hbody]; rfl, hb3⟩
        have S : St fn.ntmps c (argEnv as) g { tmps := vargs.toArray ++ Array.replicate (fn.ntmps - vargs.toArray.size) undef, defers := [] } :=
          ⟨argEnv_ok hr _, K, hg, by simp; omega, rfl⟩
        have fin : ∀ o e1 g1, (o = .nrm ∨ o = .ret) → codeE (callE F k) k A.body (argEnv as) g = some (o, e1, g1) → (resE A.res e1 g1).map (·, g1) = some (v, g') → Calls P (num f) vargs.toArray c.w (fun en w' => ∃ val c', en = .returned val ∧ c'.w = w' ∧ Evo c c' ∧ Ok c' g'.nx ∧ c'.hp = g'.hp ∧ Rep c' true v val) := by
          intro o e1 g1 ho h1 h2
          cases hre : resE A.res e1 g1 with
          | none => rw [hre] at h2; cases h2
          | some x =>
            rw [hre] at h2; cases h2
            refine calls_of_wp hfn hbody (code_wp hcall hk hm k A.body hb1 hn S h1 fun c' a' E S' => ?_)
            obtain ⟨u, hu, hru⟩ := res_ok (P := P) (w := c'.w) S'.env hb2 hre
            have : a'.defers = [] ∧ ∃ v', (results fn a'.tmps).run P c'.w = .ok v' c'.w ∧ (fun (en : Ending) (w' : World) => ∃ val c'', en = .returned val ∧ c''.w = w' ∧ Evo c c'' ∧ Ok c'' g'.nx ∧ c''.hp = g'.hp ∧ Rep c'' true v val) (.returned v') c'.w :=
              ⟨S'.defers, u, hu, u, c', rfl, rfl, E, S'.ok, S'.hp, hru⟩
            rcases ho with rfl | rfl
            · exact this
            · exact this
        split at h
        · rename_i e1 g1 h1; exact fin .nrm e1 g1 (.inl rfl) h1 h
        · rename_i e1 g1 h1; exact fin .ret e1 g1 (.inr rfl) h1 h
        · cases h
      · cases hb1

/-- What the abstract machine answers, the program answers. -/
theorem calls_bool {P : Program} {num : Nat → Nat} {F : Funs} (hT : Table P num F) (hm : P.follows .mixedOrders = true) {k f : Nat} {as : List AV} {b : Bool} {g' : G} (h : callE F k f as g0 = some (.b b, g')) {w : World} {vargs : List Value} {J : Addr → Prop}
    (hr : ∀ c : Cx, c.num = num → c.base = w.heap.size → c.J = J → c.w = w → Reps c true as vargs) : Calls P (num f) vargs.toArray w (fun e w' => e = .returned (.bool b) ∧ Below w.heap.size w w') := by
  let c : Cx := ⟨num, w.heap.size, J, w, fun _ => (0, 0), fun _ => none⟩
  have K : Ok c 0 := {
    basele := Nat.le_refl _
    cells := fun _ _ _ h => by cases h
    maps := fun _ _ h => by cases h
    toks := fun _ h => by cases h
    inj := fun _ _ _ h => by obtain ⟨_, h, _⟩ := h; cases h
    fresh := fun _ _ => rfl }
  have := ((callE_ok hT hm k).2 f as g0 _ _ h).2 c vargs rfl rfl K (hr c rfl rfl rfl rfl)
  refine Calls.mono this.1 fun e w' ⟨val, c', h1, h2, E, _, _, hrep⟩ => ?_
  cases hrep
  exact ⟨h1, h2 ▸ E.below⟩
end Go.Ab
