/- Calls; each operation as a wp. -/
import Derived.Test.YtfhinaopoffcnaaAbSim9
set_option linter.unusedVariables false
set_option linter.unusedSimpArgs false
namespace Go.Ab
open Go.RowKit

/-- What a call of the abstract machine promises of the program. -/
def CallOk (P : Program) (num : Nat → Nat) (call : CS) : Prop :=
  ∀ f as g v g', call f as g = some (v, g') → (g.nx ≤ g'.nx ∧ ∀ i, i < g.nx → g.hp i = none → g'.hp i = none) ∧ ∀ (c : Cx) (vargs : List Value), c.num = num → c.hp = g.hp → Ok c g.nx → Reps c true as vargs →
    Calls P (num f) vargs.toArray c.w (fun en w' => ∃ val c', en = .returned val ∧ c'.w = w' ∧ Evo c c' ∧ Ok c' g'.nx ∧ c'.hp = g'.hp ∧ Rep c' true v val) ∧ (∃ fn, P.funcs[num f]? = some fn ∧ fn.body.isSome ∧ (fn.name == "runtime.NumGoroutine") = false)

theorem Rep.move {c c' : Cx} (hn : c'.num = c.num) (hI : ∀ ad, c.I ad → c'.I ad ∧ ∀ v, c.w.cell? ad = some v → c'.w.cell? ad = some v) {m : Bool} {x : AV} {v : Value} (h : Rep c m x v) (hm : m = false) : Rep c' m x v := by
  induction h with
  | undef => exact .undef
  | b x => exact .b x
  | i k n => exact .i k n
  | s x => exact .s x
  | nilp => exact .nilp
  | nilf => exact .nilf
  | nili => exact .nili
  | agg vs hl _ ih => exact .agg vs hl fun j x v h1 h2 => ih j x v h1 h2 hm
  | tup vs hl _ ih => exact .tup vs hl fun j x v h1 h2 => ih j x v h1 h2 hm
  | sl ad vs hc hm' hr ho hz h1 hl ha hk _ ht ih => exact .sl ad vs hc hm' hr ho hz h1 hl ha (fun j v hv => ⟨(hI _ (hk j v hv).1).1, (hI _ (hk j v hv).1).2 v (hk j v hv).2⟩) (fun j x v h1 h2 => ih j x v h1 h2 rfl) (fun τ e h => absurd h (ho hm τ e))
  | ptr ad vs h1 hl hk _ ih => exact .ptr ad vs h1 hl (fun j v hv => ⟨(hI _ (hk j v hv).1).1, (hI _ (hk j v hv).1).2 v (hk j v hv).2⟩) (fun j x v h1 h2 => ih j x v h1 h2 rfl)
  | mp id off h => cases hm
  | ms id off n cap h hc hm' => cases hm
  | fn vs us hl hl' _ _ ih ih' => rw [← hn]; exact .fn vs us hl hl' (fun j x v h1 h2 => ih j x v h1 h2 hm) (fun j x v h1 h2 => ih' j x v h1 h2 hm)
  | mm id h => cases hm
theorem Reps.move {c c' : Cx} (hn : c'.num = c.num) (hI : ∀ ad, c.I ad → c'.I ad ∧ ∀ v, c.w.cell? ad = some v → c'.w.cell? ad = some v) {cs : List AV} {vs : List Value} (h : Reps c false cs vs) : Reps c' false cs vs :=
  ⟨h.1, fun j x v hx hv => (h.2 j x v hx hv).move hn hI rfl⟩
theorem rep_flat {c c' : Cx} {m m' : Bool} {x : AV} {v : Value} (hf : flat x = true) (h : Rep c m x v) : Rep c' m' x v := by
  cases h <;> first | (simp [flat] at hf; done) | constructor

mutual
theorem frz_one {hp : Nat → Option Blk} : ∀ (k : Nat) {x y : AV}, frz hp k x = some y → Ab.one x = true → Ab.one y = true
  | 0, _, _, h, _ => by simp [frz] at h
  | k + 1, x, y, h, h1 => by
    cases x with
    | agg cs => simp [Ab.one] at h1
    | tup cs => simp [Ab.one] at h1
    | undef => simp [Ab.one] at h1
    | b x => simp only [frz] at h; cases h; rfl
    | i k n => simp only [frz] at h; cases h; rfl
    | s x => simp only [frz] at h; cases h; rfl
    | nilp => simp only [frz] at h; cases h; rfl
    | nilf => simp only [frz] at h; cases h; rfl
    | nili => simp only [frz] at h; cases h; rfl
    | sl cs n t => simp only [frz] at h; cases h; rfl
    | ptr cs => simp only [frz] at h; cases h; rfl
    | mp id off =>
      simp only [frz] at h
      split at h
      · cases hf : frzL hp k (List.drop off _) with
        | none => rw [hf] at h; cases h
        | some z => rw [hf] at h; cases h; rfl
      · cases h
    | ms id off n =>
      simp only [frz] at h
      split at h
      · cases hf : frzL hp k (List.drop off _) with
        | none => rw [hf] at h; cases h
        | some z => rw [hf] at h; cases h; rfl
      · cases h
    | fn f a b =>
      simp only [frz] at h
      split at h
      · cases h; rfl
      · cases h
    | ifc t v =>
      simp only [frz] at h
      cases hf : frz hp k v with
      | none => rw [hf] at h; cases h
      | some z => rw [hf] at h; cases h; rfl
    | mm id => simp only [frz] at h; cases h
theorem frzL_ones {hp : Nat → Option Blk} : ∀ (k : Nat) {cs ds : List AV}, frzL hp k cs = some ds → cs.all Ab.one = true → ds.all Ab.one = true
  | k, [], ds, h, _ => by simp only [frzL] at h; cases h; rfl
  | k, x :: cs, ds, h, h1 => by
    simp only [frzL] at h
    simp only [List.all_cons, Bool.and_eq_true] at h1
    split at h
    · rename_i hx hs
      cases h
      simp only [List.all_cons, frz_one k hx h1.1, frzL_ones k hs h1.2, Bool.and_self]
    · cases h
end

/-- The state in which a callee begins that gets frozen arguments. -/
def Cx.callee (c : Cx) : Cx := { num := c.num, base := c.w.heap.size, J := c.I, w := c.w, loc := fun _ => (0, 0), hp := fun _ => none }
theorem Ok.callee (c : Cx) : Ok c.callee 0 := ⟨Nat.le_refl _, (fun _ _ _ h => by cases h), (fun _ _ h => by cases h), (fun _ h => by cases h), (fun _ _ _ h => by obtain ⟨_, h, _⟩ := h; cases h), (fun _ _ => rfl)⟩
theorem rd_hp {c : Cx} {g : G} {al : Nat → Bool} (hg : c.hp = g.hp) : ∀ i b, rd g al i = some b → c.hp i = some b := by
  intro i b hb
  unfold rd at hb
  split at hb
  · rw [hg]; exact hb
  · cases hb
theorem callee_I {c : Cx} {nx : Nat} (K : Ok c nx) (ad : Addr) (h : c.I ad) : c.callee.I ad ∧ ∀ v, c.w.cell? ad = some v → c.callee.w.cell? ad = some v :=
  ⟨.inl ⟨I_lt K.basele h, h⟩, fun _ h => h⟩

theorem callee_reps {c : Cx} {nx : Nat} (K : Ok c nx) {cs : List AV} {vs : List Value} (h : Reps c false cs vs) : Reps c.callee true cs vs :=
  (Reps.move (c := c) (c' := c.callee) rfl (callee_I K) h).up

/-- Back in the caller: what is never written in the callee's last state is never written in the caller's. -/
theorem back_I {c cc : Cx} {nx : Nat} (K : Ok c nx) (E : Evo c.callee cc) (ids : List Nat) (ad : Addr) (h : (cc.lock ids).I ad) : (c.grow cc.w).I ad ∧ ∀ v, cc.w.cell? ad = some v → (c.grow cc.w).w.cell? ad = some v := by
  refine ⟨?_, fun _ h => h⟩
  have hb : Below c.w.heap.size c.w cc.w := E.below
  rcases h with ⟨h1, h2⟩ | ⟨h1, h2, _⟩
  · have hJ : c.I ad := by
      have : (cc.lock ids).J = c.I := E.J
      rw [this] at h2; exact h2
    exact ((Evo.grow K hb).imm ad hJ).1
  · have hbase : (cc.lock ids).base = c.w.heap.size := E.base
    rw [hbase] at h1
    exact I_beside K h1 h2

section
variable {P : Program} {o : Oper} {a : Act} {c : Cx} {e : Env} {g : G} {al : Nat → Bool} {lo id : Nat} {r : AV × G} {call : CS}

/-- What an operation does, as a wp. -/
def DoesWp (P : Program) (o : Oper) (a : Act) (c : Cx) (r : AV × G) : Prop :=
  ∀ (K : Act → World → Prop) (Q : Exit → Act → World → Prop), (∀ c' val, Evo c c' → Ok c' r.2.nx → c'.hp = r.2.hp → Rep c' true r.1 val → K (a.put o.dst val) c'.w) → o.wp P a c.w K Q
theorem Does.wp (h : Does P o a c r) : DoesWp P o a c r := by
  intro K Q hK
  obtain ⟨n, c', val, hrun, hn, E, Kk, hh, hr⟩ := h
  unfold Oper.wp
  rw [hrun]
  rcases hn with rfl | ⟨rfl, rfl⟩
  · exact hK c' val E Kk hh hr
  · exact hK c' _ E Kk hh hr

theorem calls_wp {f : FuncId} {args : Array Value} {R : Ending → World → Prop} {dst op ty pos after guard} (hrun : (execOp a.eval { dst := dst, op := op, type := ty, pos := pos, after := after, guard := guard }).run P c.w = .ok (.enter f args) c.w) (hc : Calls P f args c.w R)
    {K : Act → World → Prop} {Q : Exit → Act → World → Prop} (h : ∀ en w', R en w' → ∃ v, en = .returned v ∧ K (a.put dst v) w') : Oper.wp P { dst := dst, op := op, type := ty, pos := pos, after := after, guard := guard } a c.w K Q := by
  unfold Oper.wp
  rw [hrun]
  refine hc.mono fun en w' hR => ?_
  obtain ⟨v, rfl, hk⟩ := h en w' hR
  exact hk

theorem s_call (hcall : CallOk P c.num call) (he : EnvOk c e a) (K : Ok c g.nx) (hg : c.hp = g.hp) (hid : c.hp id = none) (hlt : id < g.nx) {m : Mode} {f : Opd} {args : List Opd} (ho : opB P c.num o.op (.call m f args) = true) (h : vCall call al id m (f.ev e) (args.map (·.ev e)) g = some r) : DoesWp P o a c r := by
  obtain ⟨dst, op, ty, pos, after, guard⟩ := o
  simp only [opB] at ho
  split at ho
  · rename_i cl
    obtain ⟨cal, as, ts⟩ := cl
    simp only [Bool.and_eq_true] at ho
    obtain ⟨h1, h2⟩ := ho
    split at h1
    · rename_i fo
      have rf := opdB_rep he h1
      have ra := opdsB_rep he h2
      intro Kn Q hK
      unfold vCall at h
      split at h
      · rename_i fid fst caps hx
        rw [hx] at rf
        obtain ⟨vs, us, hv, hvs, hus⟩ := rep_fn rf
        have hargs : Reps c true (fst ++ args.map (·.ev e) ++ caps) (vs ++ as.toList.map a.eval ++ us) := (hvs.append ra).append hus
        have hrun : ∀ fn, P.funcs[c.num fid]? = some fn → fn.body.isSome → (fn.name == "runtime.NumGoroutine") = false → (execOp a.eval { dst := dst, op := .call { callee := .value fo, args := as, argTypes := ts }, type := ty, pos := pos, after := after, guard := guard }).run P c.w = .ok (.enter (c.num fid) (vs ++ as.toList.map a.eval ++ us).toArray) c.w := by
          intro fn hf hb hn
          have hb' : fn.body.isNone = false := by cases hh : fn.body with | none => rw [hh] at hb; cases hb | some _ => rfl
          simp only [execOp, resolve, hv, Deferred.ofValue, Sem.run_bind, Sem.run_pure, Result.andThen_ok, invoke, callFunc, run_program, hf, hn, hb', Bool.false_eq_true, if_false]
          congr 2
          apply Array.ext'
          simp
        cases m with
        | raw =>
          obtain ⟨_, hc⟩ := hcall fid _ g r.1 r.2 h
          obtain ⟨hcl, fn, hf, hb, hn⟩ := hc c _ rfl hg K hargs
          refine calls_wp (hrun fn hf hb hn) hcl ?_
          rintro en w' ⟨val, c', rfl, rfl, E, Kk, hh, hr⟩
          exact ⟨val, rfl, hK c' val E Kk hh hr⟩
        | pure =>
          simp only at h
          split at h
          · cases h
          · rename_i bs hbs
            split at h
            · cases h
            · rename_i v g' hcr
              split at h
              · cases h
              · rename_i v2 hfz
                split at h
                · rename_i hcond
                  cases h
                  have hfr := frzL_rep K (hp := rd g al) (ids := (fst ++ args.map (·.ev e) ++ caps).flatMap (vis (rd g al) depth)) (rd_hp hg) depth hbs (fun _ h => h) hargs
                  have Kl := K.lock ((fst ++ args.map (·.ev e) ++ caps).flatMap (vis (rd g al) depth))
                  obtain ⟨_, hc⟩ := hcall fid _ _ v g' hcr
                  obtain ⟨hcl, fn, hf, hb, hn⟩ := hc (c.lock ((fst ++ args.map (·.ev e) ++ caps).flatMap (vis (rd g al) depth))).callee _ rfl rfl (Ok.callee _) (callee_reps Kl hfr)
                  refine calls_wp (hrun fn hf hb hn) hcl ?_
                  rintro en w' ⟨val, cc, rfl, rfl, E, Kk, hh, hr⟩
                  have hbel : Below c.w.heap.size c.w cc.w := E.below
                  refine ⟨val, rfl, ?_⟩
                  have hr2 := frz_rep Kk (hp := g'.hp) (ids := vis g'.hp depth v) (fun i b hb => by rw [hh]; exact hb) depth hfz (fun _ h => h) hr
                  simp only [Bool.or_eq_true] at hcond
                  rcases hcond with hfl | hem
                  · exact hK (c.grow cc.w) val (Evo.grow K hbel) (K.grow hbel) hg (rep_flat hfl hr2)
                  · have hnil : (fst ++ args.map (·.ev e) ++ caps).flatMap (vis (rd g al) depth) = [] := by simpa using hem
                    rw [hnil, lock_nil] at E
                    have hr3 := (hr2.move (c' := c.grow cc.w) (by show c.num = cc.num; exact E.num.symm) (back_I K E _) rfl).up
                    exact hK (c.grow cc.w) val (Evo.grow K hbel) (K.grow hbel) hg hr3
                · cases h
        | lock =>
          simp only at h
          split at h
          · cases h
          · rename_i bs hbs
            split at h
            · cases h
            · rename_i v g' hcr
              split at h
              · cases h
              · rename_i v2 hfz
                cases h
                have hfr := frzL_rep K (hp := rd g al) (ids := (fst ++ args.map (·.ev e) ++ caps).flatMap (vis (rd g al) depth)) (rd_hp hg) depth hbs (fun _ h => h) hargs
                have Kl := K.lock ((fst ++ args.map (·.ev e) ++ caps).flatMap (vis (rd g al) depth))
                have El := Evo.lock c ((fst ++ args.map (·.ev e) ++ caps).flatMap (vis (rd g al) depth))
                obtain ⟨_, hc⟩ := hcall fid _ _ v g' hcr
                obtain ⟨hcl, fn, hf, hb, hn⟩ := hc (c.lock ((fst ++ args.map (·.ev e) ++ caps).flatMap (vis (rd g al) depth))).callee _ rfl rfl (Ok.callee _) (callee_reps Kl hfr)
                refine calls_wp (hrun fn hf hb hn) hcl ?_
                rintro en w' ⟨val, cc, rfl, rfl, E, Kk, hh, hr⟩
                have hbel : Below c.w.heap.size c.w cc.w := E.below
                refine ⟨val, rfl, ?_⟩
                have hr2 := frz_rep Kk (hp := g'.hp) (ids := vis g'.hp depth v) (fun i b hb => by rw [hh]; exact hb) depth hfz (fun _ h => h) hr
                have hr3 := (hr2.move (c' := (c.lock ((fst ++ args.map (·.ev e) ++ caps).flatMap (vis (rd g al) depth))).grow cc.w) (by show c.num = cc.num; exact E.num.symm) (back_I Kl E _) rfl).up
                exact hK ((c.lock ((fst ++ args.map (·.ev e) ++ caps).flatMap (vis (rd g al) depth))).grow cc.w) val (El.trans (Evo.grow Kl hbel)) (Kl.grow hbel) (by show Ab.lock c.hp _ = _; rw [hg]) hr3
        | thaw =>
          simp only at h
          split at h
          · cases h
          · rename_i bs hbs
            split at h
            · rename_i b g' hcr
              split at h
              · rename_i cs hb
                split at h
                · rename_i cs' hfz
                  split at h
                  · rename_i hcond
                    cases h
                    simp only [Bool.and_eq_true, Bool.not_eq_true'] at hcond
                    obtain ⟨hem, hnb⟩ := hcond
                    have hnil : (fst ++ args.map (·.ev e) ++ caps).flatMap (vis (rd g al) depth) = [] := by simpa using hem
                    have hfr := frzL_rep K (hp := rd g al) (ids := (fst ++ args.map (·.ev e) ++ caps).flatMap (vis (rd g al) depth)) (rd_hp hg) depth hbs (fun _ h => h) hargs
                    rw [hnil, lock_nil] at hfr
                    obtain ⟨_, hc⟩ := hcall fid _ _ _ g' hcr
                    obtain ⟨hcl, fn, hf, hbd, hn⟩ := hc c.callee _ rfl rfl (Ok.callee _) (callee_reps K hfr)
                    refine calls_wp (hrun fn hf hbd hn) hcl ?_
                    rintro en w' ⟨val, cc, rfl, rfl, E, Kk, hh, hr⟩
                    have hbel : Below c.w.heap.size c.w cc.w := E.below
                    have hvp := rep_mp hr
                    have hcb : cc.hp b = some (.cells cs false) := by rw [hh]; exact hb
                    obtain ⟨g1, vs', ty', g2, g3, g4⟩ := Kk.cells b cs _ hcb
                    have hbase : cc.base = c.w.heap.size := E.base
                    rw [hbase] at g1
                    have hr2 := frzL_rep Kk (hp := g'.hp) (ids := cs.flatMap (vis g'.hp depth)) (fun i b hb => by rw [hh]; exact hb) depth hfz (fun _ h => h) g3
                    have hnbm : b ∉ cs.flatMap (vis g'.hp depth) := by simpa using hnb
                    -- the caller's state, the block its own
                    have hloc : ∀ i, i ≠ id → upd c.loc id ((cc.loc b).1, 0) i = c.loc i := fun i hi => by rw [upd, if_neg hi]
                    have hhp : ∀ i, i ≠ id → upd c.hp id (some (.cells cs' false)) i = c.hp i := fun i hi => by rw [upd, if_neg hi]
                    let c' : Cx := { (c.grow cc.w) with loc := upd c.loc id ((cc.loc b).1, 0), hp := upd c.hp id (some (.cells cs' false)) }
                    have hls : c'.loc id = ((cc.loc b).1, 0) := by show upd _ _ _ _ = _; rw [upd, if_pos rfl]
                    have hhs : c'.hp id = some (.cells cs' false) := by show upd _ _ _ _ = _; rw [upd, if_pos rfl]
                    have El : Evo c c' := by
                      refine ⟨rfl, rfl, rfl, hbel.mono K.basele, ?_, ?_, ?_⟩
                      · intro ad hI
                        have hlt' := I_lt K.basele hI
                        refine ⟨?_, fun v hv => by rw [← hv]; exact hbel.cell hlt'⟩
                        rcases hI with h1 | ⟨h1, h2, h3⟩
                        · exact .inl h1
                        · refine .inr ⟨h1, Nat.lt_of_lt_of_le h2 hbel.size, fun hw => h3 ?_⟩
                          rcases hw with ⟨i, ds, hi, hbk⟩ | ⟨i, hi, hbk, hlo⟩
                          · by_cases hie : i = id
                            · subst hie; rw [hls] at hbk; have : (cc.loc b).1 = ad.block := hbk; omega
                            · rw [show c'.hp i = c.hp i from hhp i hie] at hi; rw [show c'.loc i = c.loc i from hloc i hie] at hbk; exact .inl ⟨i, ds, hi, hbk⟩
                          · by_cases hie : i = id
                            · subst hie; rw [hhs] at hi; cases hi
                            · rw [show c'.hp i = c.hp i from hhp i hie] at hi; rw [show c'.loc i = c.loc i from hloc i hie] at hbk hlo; exact .inr ⟨i, hi, hbk, hlo⟩
                      · intro i hi
                        have hie : i ≠ id := fun hie => by rw [hie, hid] at hi; cases hi
                        exact ⟨by rw [show c'.hp i = c.hp i from hhp i hie]; exact hi, hloc i hie⟩
                      · intro i hi ht
                        have hie : i ≠ id := fun hie => by rw [hie, hid] at hi; cases hi
                        rw [show c'.hp i = c.hp i from hhp i hie] at ht
                        exact ⟨ht, fun vs ty hv => ⟨vs, by rw [← hv]; exact hbel.block _ (Array.getElem?_eq_some_iff.1 hv).1, rfl⟩⟩
                    have hback : ∀ ad, (cc.lock (cs.flatMap (vis g'.hp depth))).I ad → c'.I ad ∧ ∀ v, cc.w.cell? ad = some v → c'.w.cell? ad = some v := by
                      intro ad hI
                      refine ⟨?_, fun _ h => h⟩
                      have hne : ad.block ≠ (cc.loc b).1 := by
                        rcases hI with ⟨h1, _⟩ | ⟨_, _, h3⟩
                        · have h1' : ad.block < cc.base := h1
                          omega
                        · intro hEq
                          refine h3 (.inl ⟨b, cs, ?_, hEq.symm⟩)
                          rcases lock_cases cc.hp (cs.flatMap (vis g'.hp depth)) b with h | ⟨hm, _⟩
                          · show Ab.lock _ _ _ = _; rw [h]; exact hcb
                          · exact absurd hm hnbm
                      rcases (back_I K E _ ad hI).1 with h1 | ⟨h1, h2, h3⟩
                      · exact .inl h1
                      · refine .inr ⟨h1, h2, fun hw => h3 ?_⟩
                        rcases hw with ⟨i, ds, hi, hbk⟩ | ⟨i, hi, hbk, hlo⟩
                        · by_cases hie : i = id
                          · subst hie; rw [hls] at hbk; exact absurd hbk.symm hne
                          · rw [show c'.hp i = c.hp i from hhp i hie] at hi; rw [show c'.loc i = c.loc i from hloc i hie] at hbk; exact .inl ⟨i, ds, hi, hbk⟩
                        · by_cases hie : i = id
                          · subst hie; rw [hhs] at hi; cases hi
                          · rw [show c'.hp i = c.hp i from hhp i hie] at hi; rw [show c'.loc i = c.loc i from hloc i hie] at hbk hlo; exact .inr ⟨i, hi, hbk, hlo⟩
                    have hr3 := (hr2.move (c' := c') (by show c.num = cc.num; exact E.num.symm) hback).up
                    have hlive : ∀ i, i ≠ id → c'.live i → c.live i := fun i hi ⟨b', hb', hn'⟩ => ⟨b', by rw [← show c'.hp i = c.hp i from hhp i hi]; exact hb', hn'⟩
                    have Kl : Ok c' g.nx := by
                      refine ⟨Nat.le_trans K.basele hbel.size, ?_, ?_, ?_, ?_, ?_⟩
                      · intro i ds ro hi
                        by_cases hie : i = id
                        · subst hie
                          rw [hhs] at hi; cases hi
                          rw [hls]
                          exact ⟨Nat.le_trans K.basele g1, vs', ty', g2, hr3, frzL_ones depth hfz g4⟩
                        · rw [show c'.hp i = c.hp i from hhp i hie] at hi
                          obtain ⟨k1, ws, wt, k2, k3, k4⟩ := K.cells i ds ro hi
                          rw [show c'.loc i = c.loc i from hloc i hie]
                          exact ⟨k1, ws, wt, by rw [← k2]; exact hbel.block _ (Array.getElem?_eq_some_iff.1 k2).1, k3.evo El, k4⟩
                      · intro i es hi
                        have hie : i ≠ id := fun hie => by subst hie; rw [hhs] at hi; cases hi
                        rw [show c'.hp i = c.hp i from hhp i hie] at hi
                        obtain ⟨k1, ms, cl, k2, k3, k4⟩ := K.maps i es hi
                        rw [show c'.loc i = c.loc i from hloc i hie]
                        exact ⟨k1, ms, cl, by rw [← k2]; exact hbel.block _ (Array.getElem?_eq_some_iff.1 k2).1, k3, fun j k v en hx hv => ⟨(k4 j k v en hx hv).1, (k4 j k v en hx hv).2.evo El⟩⟩
                      · intro i hi
                        have hie : i ≠ id := fun hie => by subst hie; rw [hhs] at hi; cases hi
                        rw [show c'.hp i = c.hp i from hhp i hie] at hi
                        obtain ⟨k1, ws, wt, k2⟩ := K.toks i hi
                        rw [show c'.loc i = c.loc i from hloc i hie]
                        exact ⟨k1, ws, wt, by rw [← k2]; exact hbel.block _ (Array.getElem?_eq_some_iff.1 k2).1⟩
                      · intro i j hij hi hj
                        by_cases hie : i = id
                        · have hje : j ≠ id := fun h => hij (hie.trans h.symm)
                          subst hie
                          have := K.lt (hlive j hje hj)
                          rw [hls, show c'.loc j = c.loc j from hloc j hje]
                          show (cc.loc b).1 ≠ _
                          omega
                        · by_cases hje : j = id
                          · subst hje
                            have := K.lt (hlive i hie hi)
                            rw [hls, show c'.loc i = c.loc i from hloc i hie]
                            show _ ≠ (cc.loc b).1
                            omega
                          · rw [show c'.loc i = c.loc i from hloc i hie, show c'.loc j = c.loc j from hloc j hje]
                            exact K.inj i j hij (hlive i hie hi) (hlive j hje hj)
                      · intro i hi
                        have hie : i ≠ id := by have hi' : g.nx ≤ i := hi; omega
                        rw [show c'.hp i = c.hp i from hhp i hie]
                        exact K.fresh i hi
                    refine ⟨val, rfl, hK c' val El Kl (by show upd c.hp id _ = upd g.hp id _; rw [hg]) ?_⟩
                    rw [hvp]
                    have := Rep.mp (c := c') id 0 (by rw [hhs]; rfl)
                    rw [hls] at this
                    exact this
                  · cases h
                · cases h
              · cases h
            · cases h
      · cases h
    · cases h1
  · cases ho
end
end Go.Ab
