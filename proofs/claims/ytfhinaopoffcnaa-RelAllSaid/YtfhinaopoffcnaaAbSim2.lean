/- More operations. -/
import Derived.Test.YtfhinaopoffcnaaAbSim
import Derived.Laws.Slices
set_option linter.unusedVariables false
set_option linter.unusedSimpArgs false
namespace Go.Ab
open Go.RowKit
section
variable {P : Program} {o : Oper} {a : Act} {c : Cx} {e : Env} {g : G} {al : Nat → Bool} {id : Nat} {r : AV × G}

theorem ibin_run {op : BinOp} {k : IntKind} {x y : Int} {v : AV} (h : ibin op k x y = some v) (c : Cx) : ∃ val, Rep c true v val ∧ ∀ w : World, (binOp op 0 (.int k x) (.int k y)).run P w = .ok val w ∧ ∀ t, (binOp op t (.int k x) (.int k y)) = binOp op 0 (.int k x) (.int k y) := by
  cases op <;> simp only [ibin] at h <;> first
    | (cases h; done)
    | (cases h; exact ⟨_, .i _ _, fun w => ⟨by simp [binOp, Op.intArith, Op.intBits, Op.intCmp], fun t => by simp [binOp]⟩⟩)
    | (cases h; exact ⟨_, .b _, fun w => ⟨by simp [binOp, Op.intArith, Op.intBits, Op.intCmp], fun t => by simp [binOp]⟩⟩)
    | (split at h
       · cases h
       · rename_i hy
         cases h
         exact ⟨_, .i _ _, fun w => ⟨by simp [binOp, Op.intDiv, hy], fun t => by simp [binOp]⟩⟩)
theorem ishift_run {op : BinOp} {k l : IntKind} {x y : Int} {v : AV} (hop : op = .shl ∨ op = .shr) (h : ishift op k x y = some v) (c : Cx) (t : TypeId) : ∃ val, Rep c true v val ∧ ∀ w : World, (binOp op t (.int k x) (.int l y)).run P w = .ok val w := by
  unfold ishift at h
  split at h
  · cases h
  · rename_i hy
    rcases hop with rfl | rfl
    · simp only at h; cases h
      exact ⟨_, .i _ _, fun w => by simp [binOp, Op.shift, hy]⟩
    · simp only at h; cases h
      exact ⟨_, .i _ _, fun w => by simp [binOp, Op.shift, hy]⟩

theorem s_un (he : EnvOk c e a) (K : Ok c g.nx) (hg : c.hp = g.hp) {op : UnOp} {x : Opd} (ho : opB P c.num o.op (.un op x) = true) (h : vMap g (aun op (x.ev e)) = some r) : Does P o a c r := by
  obtain ⟨dst, oop, ty, pos, after, guard⟩ := o
  simp only [opB] at ho
  split at ho
  · rename_i op' t y
    simp only [Bool.and_eq_true, decide_eq_true_eq] at ho
    obtain ⟨rfl, h2⟩ := ho
    have hr := opdB_rep he h2
    cases hu : aun op' (x.ev e) with
    | none => rw [hu] at h; cases h
    | some v =>
      rw [hu] at h; cases h
      unfold aun at hu
      split at hu
      · rename_i k n hx
        rw [hx] at hr
        have hv := rep_i hr
        simp only [ibin] at hu; cases hu
        exact Does.quiet K hg (.i _ _) (by simp [execOp, hv, Op.unary, Op.intArith])
      · rename_i k n hx
        rw [hx] at hr
        have hv := rep_i hr
        simp only [ibin] at hu; cases hu
        exact Does.quiet K hg (.i _ _) (by simp [execOp, hv, Op.unary, Op.intBits])
      · rename_i b hx
        rw [hx] at hr
        have hv := rep_b hr
        cases hu
        exact Does.quiet K hg (.b _) (by simp [execOp, hv, Op.unary])
      · cases hu
  · cases ho

theorem s_conv (he : EnvOk c e a) (K : Ok c g.nx) (hg : c.hp = g.hp) {k : IntKind} {x : Opd} (ho : opB P c.num o.op (.conv k x) = true) (h : vConv k (x.ev e) g = some r) : Does P o a c r := by
  obtain ⟨dst, op, ty, pos, after, guard⟩ := o
  simp only [opB] at ho
  split at ho
  · rename_i src dt y
    simp only [Bool.and_eq_true] at ho
    obtain ⟨⟨h1, h3⟩, h2⟩ := ho
    have hr := opdB_rep he h2
    unfold vConv at h
    split at h
    · rename_i k' n hx
      rw [hx] at hr
      have hv := rep_i hr
      cases h
      split at h1
      · rename_i k'' hd
        simp at h1
        subst h1
        obtain ⟨d, hs⟩ := Option.isSome_iff_exists.1 h3
        exact Does.quiet K hg (.i _ _) (by simp [execOp, hv, convert, run_underlying hd, run_underlying hs, Conv.intToInt])
      · cases h1
    · cases h
  · cases ho

theorem s_mkfn (he : EnvOk c e a) (K : Ok c g.nx) (hg : c.hp = g.hp) {f : Nat} {fst caps : List Opd} (ho : opB P c.num o.op (.mkfn f fst caps) = true) (h : some (AV.fn f (fst.map (·.ev e)) (caps.map (·.ev e)), g) = some r) : Does P o a c r := by
  obtain ⟨dst, op, ty, pos, after, guard⟩ := o
  cases h
  simp only [opB] at ho
  split at ho
  · rename_i f' as bs
    simp only [Bool.and_eq_true, beq_iff_eq] at ho
    obtain ⟨⟨rfl, h1⟩, h2⟩ := ho
    have r1 := opdsB_rep he h1
    have r2 := opdsB_rep he h2
    exact Does.quiet K hg (.fn _ _ r1.1 r2.1 r1.2 r2.2) (by simp [execOp, Instr.makeFunc]; exact ⟨by apply Array.ext'; simp, by apply Array.ext'; simp⟩)
  · cases ho

theorem s_fa (he : EnvOk c e a) (K : Ok c g.nx) (hg : c.hp = g.hp) {off : Nat} {x : Opd} (ho : opB P c.num o.op (.fa off x) = true) (h : vFa off (x.ev e) g = some r) : Does P o a c r := by
  obtain ⟨dst, op, ty, pos, after, guard⟩ := o
  simp only [opB] at ho
  split at ho
  · rename_i t y f
    simp only [Bool.and_eq_true] at ho
    obtain ⟨h1, h2⟩ := ho
    have hr := opdB_rep he h2
    split at h1
    · rename_i fs hu
      split at h1
      · rename_i fd hf
        simp only [Bool.and_eq_true, beq_iff_eq] at h1
        obtain ⟨rfl, h3⟩ := h1
        split at h3
        · rename_i i hi
          simp only [bne_iff_ne, ne_eq] at h3
          unfold vFa at h
          split at h
          · rename_i cs hx
            rw [hx] at hr
            split at h
            · rename_i hlt
              cases h
              obtain ⟨ad, vs, hv, hone, hreps, hk⟩ := rep_ptr hr
              have hl := hreps.1
              have hsp : ad.spot = none := by
                have hv0 : vs[0]? = some (vs[0]'(by omega)) := List.getElem?_eq_getElem _
                have := (hk 0 _ hv0).2
                rw [add_zero] at this
                exact spot_of this
              refine Does.quiet K hg (val := .pointer (some (ad.add fd.offset))) (.ptr (ad.add fd.offset) (vs.drop fd.offset) (fun u hu => hone u (List.mem_of_mem_drop hu)) (by simp [hl]) (fun j u hu => ?_) (hreps.drop _).2) ?_
              · rw [List.getElem?_drop] at hu
                rw [add_add _ _ _ hsp]
                exact hk _ u hu
              · simp [execOp, hv, Instr.fieldAt, run_underlying hu, hf, Instr.sureAddr, fieldPlace, sizeOf, typeInfo, hi, h3]
            · cases h
          · rename_i b off' hx
            cases h
            rw [hx] at hr
            have hv := rep_mp hr
            have hs := rep_mp_some hr
            refine Does.quiet K hg (.mp b (off' + fd.offset) hs) ?_
            simp [execOp, hv, Instr.fieldAt, run_underlying hu, hf, Instr.sureAddr, fieldPlace, sizeOf, typeInfo, hi, h3, add_mk]
          · cases h
        · cases h3
      · cases h1
    · cases h1
  · cases ho

theorem part_run {t : TypeId} {agg : Option Nat} (ht : aggB P t agg = true) {m : Bool} {cs : List AV} {vs : List Value} (hr : Reps c m cs vs) {off : Nat} {x : AV} (hp : part cs off agg = some x) :
    ∃ val, (∀ w, (Go.part t vs.toArray off).run P w = .ok val w) ∧ Rep c m x val := by
  cases agg with
  | none =>
    obtain ⟨d, i, hd, hi, hagg⟩ := aggB_none ht
    obtain ⟨u, hu, hx⟩ := (part_add hr hp).2 rfl
    exact ⟨u, fun w => by simp [Go.part, hagg, hu], hx⟩
  | some n =>
    obtain ⟨i, hi, hs, hagg⟩ := aggB_some ht
    simp only [part] at hp
    split at hp
    · rename_i hle
      cases hp
      have k := (hr.drop off).take n
      refine ⟨.agg ((vs.drop off).take n).toArray, fun w => ?_, .agg _ k.1 k.2⟩
      simp only [Go.part, Sem.run_bind, hagg, Result.andThen_ok, if_true, sizeOf, typeInfo, run_program, hi, Sem.run_pure, hs]
      congr 2
      apply Array.ext'
      simp [List.extract_eq_take_drop]
    · cases hp

theorem s_fld (he : EnvOk c e a) (K : Ok c g.nx) (hg : c.hp = g.hp) {off : Nat} {agg : Option Nat} {x : Opd} (ho : opB P c.num o.op (.fld off agg x) = true) (h : vFld off agg (x.ev e) g = some r) : Does P o a c r := by
  obtain ⟨dst, op, ty, pos, after, guard⟩ := o
  simp only [opB] at ho
  split at ho
  · rename_i t y f
    simp only [Bool.and_eq_true] at ho
    obtain ⟨h1, h2⟩ := ho
    have hr := opdB_rep he h2
    split at h1
    · rename_i fs hu
      split at h1
      · rename_i fd hf
        simp only [Bool.and_eq_true, beq_iff_eq] at h1
        obtain ⟨rfl, h3⟩ := h1
        unfold vFld at h
        split at h
        · rename_i cs hx
          rw [hx] at hr
          obtain ⟨vs, hv, hreps⟩ := rep_agg hr
          cases hp : part cs fd.offset agg with
          | none => rw [hp] at h; cases h
          | some v =>
            rw [hp] at h; cases h
            obtain ⟨val, hrun, hval⟩ := part_run h3 hreps hp
            exact Does.quiet K hg hval (by simp [execOp, hv, Instr.field, run_underlying hu, hf, asAgg, hrun])
        · cases h
      · cases h1
    · cases h1
  · cases ho

/-- A pointer into a row of cells that are never written. -/
theorem rep_ptr_drop {ad : Addr} {cs : List AV} {vs : List Value} (hone : ∀ v ∈ vs, v.oneCell' = true) (hreps : Reps c false cs vs) (hk : ∀ (j : Nat) u, vs[j]? = some u → c.I (ad.add j) ∧ c.w.cell? (ad.add j) = some u) (k : Nat) : Rep c true (.ptr (cs.drop k)) (.pointer (some (ad.add k))) := by
  refine .ptr (ad.add k) (vs.drop k) (fun u hu => hone u (List.mem_of_mem_drop hu)) (by simp [hreps.1]) (fun j u hu => ?_) (hreps.drop _).2
  rw [List.getElem?_drop] at hu
  have h := hk _ u hu
  by_cases hk0 : k = 0
  · subst hk0; rw [add_zero]; simpa using h
  · rw [add_add _ _ _ ?_]
    · exact h
    · have h2 := spot_of h.2
      unfold Addr.add at h2
      split at h2
      · omega
      · have hv0 : vs[0]? = some (vs[0]'(by have := (List.getElem?_eq_some_iff.1 hu).1; omega)) := List.getElem?_eq_getElem _
        have := (hk 0 _ hv0).2
        rw [add_zero] at this
        exact spot_of this

theorem s_ia (he : EnvOk c e a) (K : Ok c g.nx) (hg : c.hp = g.hp) {esz : Nat} {x i : Opd} (ho : opB P c.num o.op (.ia esz x i) = true) (h : vIa esz (x.ev e) (i.ev e) g = some r) : Does P o a c r := by
  obtain ⟨dst, op, ty, pos, after, guard⟩ := o
  simp only [opB] at ho
  split at ho
  · rename_i t y j
    simp only [Bool.and_eq_true] at ho
    obtain ⟨⟨h1, h2⟩, h3⟩ := ho
    have hr := opdB_rep he h2
    have hi := opdB_rep he h3
    split at h1
    · rename_i el hu
      obtain ⟨inf, hinf, hs⟩ := sizeB_some h1
      unfold vIa at h
      split at h
      · rename_i cs n tk k z hx hz
        rw [hx] at hr
        rw [hz] at hi
        have hv2 := rep_i hi
        obtain ⟨ao, cap, ad, vs, hv, hc, hm, hrig, hz', hone, hreps, ha, hk, _⟩ := rep_sl hr
        split at h
        · rename_i hb
          cases h
          obtain ⟨ad', hao⟩ := Option.isSome_iff_exists.1 (hz' (by omega))
          by_cases hcs : cs = []
          · subst hcs
            have hvs := hreps.nil_inv
            subst hvs hao
            refine Does.quiet K hg (val := .pointer (some (ad'.add (z.toNat * esz)))) (.ptr _ [] (fun _ h => by simp at h) (by simp) (fun j u hu => by simp at hu) (fun j x v hx => by simp at hx)) ?_
            simp [execOp, hv, hv2, Instr.indexAt, run_underlying hu, asIntOf, hb.1, hb.2, sizeOf, typeInfo, hinf, hs]
          · have hao' := ha hcs
            subst hao'
            refine Does.quiet K hg (rep_ptr_drop hone hreps hk (z.toNat * esz)) ?_
            simp [execOp, hv, hv2, Instr.indexAt, run_underlying hu, asIntOf, hb.1, hb.2, sizeOf, typeInfo, hinf, hs]
        · cases h
      · rename_i b off n k z hx hz
        rw [hx] at hr
        rw [hz] at hi
        have hv2 := rep_i hi
        obtain ⟨cap, hv, hc, hm, hsome⟩ := rep_ms hr
        split at h
        · rename_i hb
          cases h
          refine Does.quiet K hg (.mp b (off + z.toNat * esz) hsome) ?_
          simp [execOp, hv, hv2, Instr.indexAt, run_underlying hu, asIntOf, hb.1, hb.2, sizeOf, typeInfo, hinf, hs, add_mk]
        · cases h
      · cases h
    · cases h1
  · cases ho
end
end Go.Ab
