/- Regions in any order: the rule. -/
import Derived.Test.YtfhinaopoffcnaaAbDraw
set_option linter.unusedVariables false
set_option linter.unusedSimpArgs false
set_option linter.unnecessarySimpa false
namespace Go.Ab
open Go.RowKit

theorem testBit_fold (es : List Edge) (clo : List Nat) (k : Nat) : ∀ b : Nat, (es.foldl (fun b e => if Region.binds .any e then b ||| (1 <<< e.on) ||| (clo.getD e.on 0) else b) b).testBit k = true →
    b.testBit k = true ∨ ∃ e ∈ es, Region.binds .any e = true ∧ (k = e.on ∨ (clo.getD e.on 0).testBit k = true) := by
  induction es with
  | nil => intro b h; exact .inl h
  | cons e es ih =>
    intro b h
    rw [List.foldl_cons] at h
    rcases ih _ h with h1 | ⟨e', he', h2⟩
    · by_cases hb : Region.binds .any e = true
      · rw [if_pos hb] at h1
        simp only [Nat.testBit_or, Bool.or_eq_true] at h1
        rcases h1 with (h1 | h1) | h1
        · exact .inl h1
        · refine .inr ⟨e, List.mem_cons_self .., hb, .inl ?_⟩
          rw [Nat.testBit_shiftLeft] at h1
          simp only [Bool.and_eq_true, decide_eq_true_eq] at h1
          have h2 : Nat.testBit 1 (k - e.on) = true := h1.2
          have h3 : k - e.on = 0 := by
            cases hz : k - e.on with
            | zero => rfl
            | succ z => rw [hz] at h2; simp [Nat.testBit_succ] at h2
          omega
        · exact .inr ⟨e, List.mem_cons_self .., hb, .inr h1⟩
      · rw [if_neg hb] at h1
        exact .inl h1
    · exact .inr ⟨e', List.mem_cons_of_mem _ he', h2⟩

def cloB (clo : List Nat) : List Oper → List Nat → Bool
  | [], [] => true
  | o :: os, c :: cs => (cloAt o.after clo == c) && cloB clo os cs
  | _, _ => false
theorem cloB_get {clo : List Nat} : ∀ {os : List Oper} {cs : List Nat}, cloB clo os cs = true → os.length = cs.length ∧ ∀ (i : Nat) o, os[i]? = some o → cs[i]? = some (cloAt o.after clo)
  | [], [], _ => ⟨rfl, fun _ _ h => by simp at h⟩
  | [], _ :: _, h => by simp [cloB] at h
  | _ :: _, [], h => by simp [cloB] at h
  | o :: os, c :: cs, h => by
    simp only [cloB, Bool.and_eq_true, beq_iff_eq] at h
    obtain ⟨h1, h2⟩ := cloB_get h.2
    refine ⟨by simp [h1], fun i o' hi => ?_⟩
    cases i with
    | zero => simp at hi; subst hi; simp [h.1]
    | succ i => simp at hi ⊢; exact h2 i o' hi
theorem edgesB_get : ∀ {os : List Oper} {j : Nat}, edgesB j os = true → ∀ (i : Nat) o, os[i]? = some o → ∀ e ∈ o.after, Region.binds .any e = true → e.on < j + i
  | [], _, _, _, _, h => by simp at h
  | o :: os, j, h, i, o', hi => by
    simp only [edgesB, Bool.and_eq_true] at h
    cases i with
    | zero =>
      simp at hi; subst hi
      intro e he hb
      have := Array.all_eq_true_iff_forall_mem.1 h.1 e he
      rw [hb] at this
      simpa using this
    | succ i =>
      simp at hi
      intro e he hb
      have := edgesB_get h.2 i o' hi e he hb
      omega

def Closed (ops : List Oper) (L : Nat → Bool) : Prop := ∀ (i : Nat) o, ops[i]? = some o → L i = true → ∀ e ∈ o.after, Region.binds .any e = true → L e.on = true
theorem clo_sound {ops : List Oper} {clo : List Nat} (hc : cloB clo ops clo = true) (he : edgesB 0 ops = true) {L : Nat → Bool} (hL : Closed ops L) : ∀ (i : Nat) (o : Oper), ops[i]? = some o → (∀ e ∈ o.after, Region.binds .any e = true → L e.on = true) → ∀ k, (clo.getD i 0).testBit k = true → L k = true := by
  intro i
  induction i using Nat.strongRecOn with
  | _ i ih =>
    intro o ho hp k hk
    obtain ⟨hl, hg⟩ := cloB_get hc
    have h1 : clo.getD i 0 = cloAt o.after clo := by rw [List.getD_eq_getElem?_getD, hg i o ho]; rfl
    rw [h1] at hk
    unfold cloAt at hk
    rw [← Array.foldl_toList] at hk
    rcases testBit_fold _ _ _ _ hk with h2 | ⟨e, hm, hb, h2⟩
    · simp at h2
    · have hm' : e ∈ o.after := Array.mem_toList_iff.1 hm
      rcases h2 with rfl | h2
      · exact hp e hm' hb
      · have hlt := edgesB_get he i o ho e hm' hb
        cases ho' : ops[e.on]? with
        | none =>
          rw [List.getElem?_eq_none_iff] at ho'
          rw [List.getD_eq_getElem?_getD, List.getElem?_eq_none (by omega)] at h2
          simp at h2
        | some o' => exact ih e.on (by omega) o' ho' (fun e' he' hb' => hL e.on o' ho' (hp e hm' hb) e' he' hb') k h2

theorem pairsB_get {clo i : Nat} {y : AOper} : ∀ {xs : List AOper} {j : Nat}, pairsB clo i y j xs = true → ∀ (k : Nat) x, xs[k]? = some x → clo.testBit (j + k) = true ∨ swapB (j + k) i x y = true
  | [], _, _, _, _, h => by simp at h
  | x :: xs, j, h, k, x', hk => by
    simp only [pairsB, Bool.and_eq_true, Bool.or_eq_true] at h
    cases k with
    | zero => simp at hk; subst hk; exact h.1
    | succ k =>
      simp at hk
      have := pairsB_get h.2 k x' hk
      rwa [show j + 1 + k = j + (k + 1) by omega] at this
theorem drawB_get {aos : List AOper} : ∀ {ys : List AOper} {cs : List Nat} {j : Nat}, drawB aos j ys cs = true → ∀ (i : Nat) y, ys[i]? = some y → pairsB (cs.getD i 0) (j + i) y 0 (aos.take (j + i)) = true
  | [], _, _, _, _, _, h => by simp at h
  | y :: ys, [], _, h, _, _, _ => by simp [drawB] at h
  | y :: ys, c :: cs, j, h, i, y', hi => by
    simp only [drawB, Bool.and_eq_true] at h
    cases i with
    | zero => simp at hi; subst hi; simpa using h.1
    | succ i =>
      simp at hi
      have := drawB_get h.2 i y' hi
      rw [show j + 1 + i = j + (i + 1) by omega] at this
      simpa using this
theorem opersB_get {P : Program} {nm : Nat → Nat} {N : Nat} {ops : Array Oper} : ∀ {os : List Oper} {aos : List AOper}, opersB P nm N ops os aos = true → os.length = aos.length ∧ ∀ (i : Nat) o, os[i]? = some o → ∃ ao, aos[i]? = some ao ∧ operB P nm N ops o ao = true
  | [], [], _ => ⟨rfl, fun _ _ h => by simp at h⟩
  | [], _ :: _, h => by simp [opersB] at h
  | _ :: _, [], h => by simp [opersB] at h
  | o :: os, ao :: aos, h => by
    simp only [opersB, Bool.and_eq_true] at h
    obtain ⟨h1, h2⟩ := opersB_get h.2
    refine ⟨by simp [h1], fun i o' hi => ?_⟩
    cases i with
    | zero => simp at hi; subst hi; exact ⟨ao, rfl, h.1⟩
    | succ i => simp at hi ⊢; exact h2 i o' hi

/-- The whole look at a region. -/
def regB (P : Program) (nm : Nat → Nat) (N : Nat) (ops : Array Oper) (draw : Bool) (aos : List AOper) : Bool :=
  opersB P nm N ops ops.toList aos && (!draw || (edgesB 0 ops.toList && (let clo := clos ops.toList []; cloB clo ops.toList clo && drawB aos 0 aos clo)))

def pend (ops : Array Oper) (listed : Array Bool) : List Nat := (List.range ops.size).filter fun i => !listed.getD i true

theorem ready_some {ops : Array Oper} {listed : Array Bool} (he : edgesB 0 ops.toList = true) (hs : listed.size = ops.size) : ∀ i, i < ops.size → listed.getD i true = false → Region.ready .any ops listed ≠ [] := by
  intro i
  induction i using Nat.strongRecOn with
  | _ i ih =>
    intro hi hl hr
    have ho : ops[i]? = some ops[i] := Array.getElem?_eq_getElem hi
    by_cases hall : (ops[i].after.all fun e => !Region.binds .any e || listed.getD e.on false) = true
    · have : i ∈ Region.ready .any ops listed := by
        unfold Region.ready
        rw [List.mem_filter]
        exact ⟨List.mem_range.2 hi, by rw [hl, ho]; simpa using hall⟩
      rw [hr] at this
      cases this
    · rw [Array.all_eq_true_iff_forall_mem] at hall
      simp only [Bool.or_eq_true, Bool.not_eq_true'] at hall
      have : ∃ e ∈ ops[i].after, Region.binds .any e = true ∧ listed.getD e.on false ≠ true := by
        refine Classical.byContradiction fun hn => hall fun e hm => ?_
        by_cases hb : Region.binds .any e = true
        · by_cases hl : listed.getD e.on false = true
          · exact .inr hl
          · exact absurd ⟨e, hm, hb, hl⟩ hn
        · exact .inl (by simpa using hb)
      obtain ⟨e, hm, hb, hne⟩ := this
      have hlt := edgesB_get he i ops[i] (by simpa using ho) e hm hb
      have hlt' : e.on < ops.size := by omega
      refine ih e.on (by omega) hlt' ?_ hr
      have h1 : e.on < listed.size := by omega
      simp only [Array.getD_eq_getD_getElem?, Array.getElem?_eq_getElem h1, Option.getD_some] at hne ⊢
      simpa using hne

section
variable {P : Program} {call : CS} {N : Nat}
theorem any_wp {num : Nat → Nat} (hcall : CallOk P num call) (hk : CallKeep call) {ops : Array Oper} {aos : List AOper} (hb : regB P num N ops true aos = true) {Q : Exit → Act → World → Prop} {base : Nat} {e' : Env} {g' : G} :
    ∀ (fuel : Nat) (listed : Array Bool) {c : Cx} {e : Env} {g : G} {a : Act}, listed.size = ops.size → (pend ops listed).length = fuel → Closed ops.toList (fun i => listed.getD i false) → c.num = num → St N c e g a → base + ops.size ≤ g.nx →
    (∀ i ∈ pend ops listed, g.hp (base + i) = none) → runL call base aos (pend ops listed) e g = some (e', g') → (∀ c' a', Evo c c' → St N c' e' g' a' → Q .normal a' c'.w) → wpAny P .any ops Q fuel listed a c.w
  | 0, listed, c, e, g, a, hs, hl, hc, hn, S, hnx, hf, hr, hQ => by
    have hp : pend ops listed = [] := List.eq_nil_of_length_eq_zero hl
    refine ⟨?_, ?_⟩
    · refine List.eq_nil_iff_forall_not_mem.2 fun i hi => ?_
      have : i ∈ pend ops listed := by
        unfold Region.ready at hi
        rw [List.mem_filter] at hi
        unfold pend
        rw [List.mem_filter]
        exact ⟨hi.1, by have := hi.2; simp only [Bool.and_eq_true] at this; exact this.1⟩
      rw [hp] at this; cases this
    · rw [hp] at hr
      simp only [runL] at hr
      cases hr
      exact hQ c a (Evo.refl c) S
  | fuel + 1, listed, c, e, g, a, hs, hl, hc, hn, S, hnx, hf, hr, hQ => by
    simp only [regB, Bool.and_eq_true, Bool.not_true, Bool.false_or] at hb
    obtain ⟨hb1, hb2, hb3, hb4⟩ := hb
    refine ⟨fun h0 => ?_, fun i hi => ?_⟩
    · exfalso
      cases hp : pend ops listed with
      | nil => rw [hp] at hl; simp at hl
      | cons m ms =>
        have hm : m ∈ pend ops listed := by rw [hp]; exact List.mem_cons_self ..
        unfold pend at hm
        rw [List.mem_filter] at hm
        exact ready_some hb2 hs m (List.mem_range.1 hm.1) (by simpa using hm.2) h0
    · have hi' := hi
      unfold Region.ready at hi'
      rw [List.mem_filter] at hi'
      obtain ⟨hir, hiu⟩ := hi'
      have hilt : i < ops.size := List.mem_range.1 hir
      simp only [Bool.and_eq_true, Bool.not_eq_true'] at hiu
      obtain ⟨hul, hpre⟩ := hiu
      have ho : ops[i]? = some ops[i] := Array.getElem?_eq_getElem hilt
      rw [ho] at hpre
      simp only [Option.map_some, Option.getD_some] at hpre
      have hpre' : ∀ ed ∈ ops[i].after, Region.binds .any ed = true → listed.getD ed.on false = true := by
        intro ed hm hbd
        have := Array.all_eq_true_iff_forall_mem.1 hpre ed hm
        rw [hbd] at this
        simpa using this
      have him : i ∈ pend ops listed := by
        unfold pend; rw [List.mem_filter]; exact ⟨hir, by rw [hul]; rfl⟩
      obtain ⟨pre, post, hsplit⟩ := List.append_of_mem him
      have hsort : (pend ops listed).Pairwise (· < ·) := List.Pairwise.filter _ List.pairwise_lt_range
      rw [hsplit, List.pairwise_append] at hsort
      obtain ⟨s1, s2, s3⟩ := hsort
      rw [List.pairwise_cons] at s2
      obtain ⟨hlen, hget⟩ := opersB_get hb1
      obtain ⟨y, hy, hoy⟩ := hget i ops[i] (by simpa using ho)
      have hmem : ∀ k, k ∈ pre ∨ k ∈ post → k ∈ pend ops listed := by
        intro k hk; rw [hsplit]
        rcases hk with hk | hk
        · exact List.mem_append_left _ hk
        · exact List.mem_append_right _ (List.mem_cons_of_mem _ hk)
      have hfront := runL_front hy pre post e e' g g' (fun k hk => by
        have hki : k < i := s3 k hk i (List.mem_cons_self ..)
        refine ⟨by omega, fun x hx => ?_⟩
        have hpb := drawB_get hb4 i y hy
        rw [Nat.zero_add] at hpb
        have := pairsB_get hpb k x (by rw [List.getElem?_take_of_lt hki]; exact hx)
        rw [Nat.zero_add] at this
        rcases this with h1 | h1
        · exfalso
          have hL := clo_sound hb3 hb2 hc i ops[i] (by simpa using ho) hpre' k h1
          have hkm := hmem k (.inl hk)
          unfold pend at hkm
          rw [List.mem_filter] at hkm
          have hkl : k < listed.size := by rw [hs]; exact List.mem_range.1 hkm.1
          have h2 := hkm.2
          simp only [Array.getD_eq_getD_getElem?, Array.getElem?_eq_getElem hkl, Option.getD_some] at hL h2
          rw [hL] at h2; cases h2
        · exact h1) (by rw [hsplit] at hr; exact hr)
      simp only [runL, hy] at hfront
      have hpend' : pend ops (listed.setIfInBounds i true) = pre ++ post := by
        have h1 : pend ops (listed.setIfInBounds i true) = (pend ops listed).filter (fun k => k != i) := by
          unfold pend
          rw [List.filter_filter]
          refine List.filter_congr fun k hk => ?_
          have hkl : k < listed.size := by rw [hs]; exact List.mem_range.1 hk
          by_cases hki : k = i
          · subst hki
            rw [Array.getD_eq_getD_getElem?, Array.getElem?_setIfInBounds_self_of_lt hkl]
            simp
          · rw [Array.getD_eq_getD_getElem?, Array.getElem?_setIfInBounds_ne (fun h => hki h.symm), Array.getD_eq_getD_getElem?]
            simp [hki]
        rw [h1, hsplit, List.filter_append, List.filter_cons]
        have f1 : pre.filter (fun k => k != i) = pre := List.filter_eq_self.2 fun k hk => by
          have := s3 k hk i (List.mem_cons_self ..)
          simp; omega
        have f2 : post.filter (fun k => k != i) = post := List.filter_eq_self.2 fun k hk => by
          have := s2.1 k hk
          simp; omega
        rw [f1, f2]
        simp
      split at hfront
      · rename_i e1 g1 hst
        have hkp := opStep_keep hk hst
        refine opStep_wp (hn ▸ hcall) S ho (hn ▸ hoy) (hf i him) (by omega) hst (fun c1 a1 E1 S1 => ?_)
        have hb : regB P num N ops true aos = true := by
          simp only [regB, Bool.and_eq_true, Bool.not_true, Bool.false_or]
          exact ⟨hb1, hb2, hb3, hb4⟩
        refine any_wp hcall hk hb fuel (listed.setIfInBounds i true) (by simpa using hs) (by
            rw [hpend']
            rw [hsplit] at hl
            simp at hl ⊢
            omega) ?_ (E1.num.trans hn) S1 (Nat.le_trans hnx hkp.1) ?_ (by rw [hpend']; exact hfront) (fun c' a' E' S' => hQ c' a' (E1.trans E') S')
        · intro m o hm hlm ed hed hbd
          have hset : ∀ k, listed.getD k false = true → (listed.setIfInBounds i true).getD k false = true := by
            intro k hk
            by_cases hki : k = i
            · subst hki
              have hkl : k < listed.size := by omega
              rw [Array.getD_eq_getD_getElem?, Array.getElem?_setIfInBounds_self_of_lt hkl]; rfl
            · rw [Array.getD_eq_getD_getElem?, Array.getElem?_setIfInBounds_ne (fun h => hki h.symm), ← Array.getD_eq_getD_getElem?]; exact hk
          refine hset _ ?_
          by_cases hmi : m = i
          · subst hmi
            have : o = ops[m] := by
              have h2 : ops[m]? = some o := by simpa using hm
              rw [ho] at h2; cases h2; rfl
            subst this
            exact hpre' ed hed hbd
          · have hlm' : listed.getD m false = true := by
              have h3 : (listed.setIfInBounds i true).getD m false = true := hlm
              rw [Array.getD_eq_getD_getElem?, Array.getElem?_setIfInBounds_ne (fun h => hmi h.symm), ← Array.getD_eq_getD_getElem?] at h3
              exact h3
            exact hc m o hm hlm' ed hed hbd
        · intro k hk
          rw [hpend'] at hk
          have hkm := hmem k (List.mem_append.1 hk)
          have hki : k ≠ i := by
            rcases List.mem_append.1 hk with hk | hk
            · have := s3 k hk i (List.mem_cons_self ..); omega
            · have := s2.1 k hk; omega
          have hklt : k < ops.size := by
            unfold pend at hkm; rw [List.mem_filter] at hkm; exact List.mem_range.1 hkm.1
          exact hkp.2 _ (by omega) (by omega) (hf k hkm)
      · cases hfront

/-- A region, whichever way it is taken. -/
theorem region_wp {num : Nat → Nat} (hcall : CallOk P num call) (hk : CallKeep call) (hm : P.follows .mixedOrders = true) {ops : Array Oper} {draw : Bool} {aos : List AOper} (hb : regB P num N ops draw aos = true) {Q : Exit → Act → World → Prop} {id : Nat}
    {c : Cx} {e e' : Env} {g g' : G} {a : Act} (hn : c.num = num) (S : St N c e g a) (h : regE call draw g.nx 0 aos e { g with nx := g.nx + aos.length } = some (e', g')) (hQ : ∀ c' a', Evo c c' → St N c' e' g' a' → Q .normal a' c'.w) : (Code.region id ops draw).wp P Q a c.w := by
  have hb' := hb
  simp only [regB, Bool.and_eq_true] at hb'
  obtain ⟨hlen, _⟩ := opersB_get hb'.1
  have hlen' : ops.size = aos.length := by simpa using hlen
  have S' : St N c e { g with nx := g.nx + aos.length } a := ⟨S.env, ⟨S.ok.basele, S.ok.cells, S.ok.maps, S.ok.toks, S.ok.inj, fun id hid => S.ok.fresh id (by have : g.nx + aos.length ≤ id := hid; omega)⟩, S.hp, S.size, S.defers⟩
  have hfree : ∀ i, i < ops.size → g.hp (g.nx + i) = none := fun i _ => by rw [← S.hp]; exact S.ok.fresh _ (by omega)
  cases draw with
  | false =>
    refine wp_region ?_
    rw [List.range_eq_range']
    have := reg_wp (Q := Q) hcall hk (draw := false) (base := g.nx) (n := ops.size) ops.toList aos 0 hn (fun i o hi => by simpa using hi) hb'.1 (by simp) S' (by simp [hlen']) (fun i _ hi => hfree i hi) h hQ
    simpa using this
  | true =>
    refine wp_region_any hm ?_
    have hpend : pend ops (Array.replicate ops.size false) = List.range ops.size := by
      unfold pend
      refine List.filter_eq_self.2 fun i hi => ?_
      have hi := List.mem_range.1 hi
      rw [Array.getD_eq_getD_getElem?, Array.getElem?_replicate, if_pos hi]; rfl
    refine any_wp (c := c.drew) (base := g.nx) hcall hk hb ops.size (Array.replicate ops.size false) (by simp) (by rw [hpend]; simp) ?_ hn ⟨S'.env.evo (Evo.drew c), S'.ok.drew, S'.hp, S'.size, S'.defers⟩ (by show g.nx + ops.size ≤ g.nx + aos.length; omega) (fun i hi => ?_) ?_ (fun c' a' E Sc => hQ c' a' ((Evo.drew c).trans E) Sc)
    · intro i o _ hl
      have hl : (Array.replicate ops.size false).getD i false = true := hl
      rw [Array.getD_eq_getD_getElem?, Array.getElem?_replicate] at hl
      split at hl <;> cases hl
    · rw [hpend] at hi
      exact hfree i (List.mem_range.1 hi)
    · rw [hpend, List.range_eq_range', hlen']
      rw [runL_text call g.nx aos aos 0 e _ (fun i o hi => by simpa using hi)]
      exact h
end
end Go.Ab
