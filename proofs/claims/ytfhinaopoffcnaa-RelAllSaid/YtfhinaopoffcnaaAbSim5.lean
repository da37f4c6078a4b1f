/- More operations: slices of slices, makes, appends, maps, comparisons. -/
import Derived.Test.YtfhinaopoffcnaaAbSim4
set_option linter.unusedVariables false
set_option linter.unusedSimpArgs false
namespace Go.Ab
open Go.RowKit
section
variable {P : Program} {o : Oper} {a : Act} {c : Cx} {e : Env} {g : G} {al : Nat → Bool} {id : Nat} {r : AV × G}

/-- What a slice of a slice stands for. -/
theorem rep_sub {cs : List AV} {n cap : Nat} {ao : Option Addr} {ad : Addr} {vs : List Value} (hc : n ≤ cap) (hm : cap ≤ maxLen) (hz : 0 < n → ao.isSome) (hone : ∀ v ∈ vs, v.oneCell' = true) (hreps : Reps c false cs vs) (ha : cs ≠ [] → ao = some ad)
    (hk : ∀ (j : Nat) u, vs[j]? = some u → c.I (ad.add j) ∧ c.w.cell? (ad.add j) = some u) {lo hi m esz : Nat} (h1 : lo ≤ hi) (h2 : hi ≤ n) (h3 : hi ≤ m) (h4 : m ≤ cap) {t : Tok} (ht : ∀ τ e, t ≠ .own τ e) (hr : t = .rig → m = hi) :
    Rep c true (.sl ((cs.drop (lo * esz)).take ((hi - lo) * esz)) (hi - lo) t) (.slice (if m = lo then ao else ao.map (·.add (lo * esz))) (hi - lo) (m - lo)) := by
  have hreps' := (hreps.drop (lo * esz)).take ((hi - lo) * esz)
  refine .sl (ad.add (lo * esz)) ((vs.drop (lo * esz)).take ((hi - lo) * esz)) (by omega) (by omega) (fun h => by have := hr h; omega) (fun _ => ht) (fun h => ?_) (fun u hu => hone u (List.mem_of_mem_drop (List.mem_of_mem_take hu))) hreps'.1 (fun h => ?_) (fun j u hu => ?_) hreps'.2 (fun τ e h => absurd h (ht τ e))
  · have := hz (by omega)
    split
    · exact this
    · simpa using this
  · have hcs : cs ≠ [] := by intro h'; subst h'; simp at h
    by_cases hml : m = lo
    · exfalso
      have : hi - lo = 0 := by omega
      rw [this] at h
      simp at h
    · rw [if_neg hml, ha hcs]
      rfl
  · rw [List.getElem?_take] at hu
    split at hu
    · rw [List.getElem?_drop] at hu
      have h := hk _ u hu
      by_cases hk0 : lo * esz = 0
      · rw [hk0, add_zero]
        rw [hk0] at h
        simpa using h
      · rw [add_add _ _ _ ?_]
        · exact h
        · have hv0 : vs[0]? = some (vs[0]'(by have := (List.getElem?_eq_some_iff.1 hu).1; omega)) := List.getElem?_eq_getElem _
          have := (hk 0 _ hv0).2
          rw [add_zero] at this
          exact spot_of this
    · cases hu

theorem s_slice (he : EnvOk c e a) (K : Ok c g.nx) (hg : c.hp = g.hp) {esz : Nat} {x : Opd} {lo hi mx : Option Opd} (ho : opB P c.num o.op (.slice esz x lo hi mx) = true) (h : vSlice esz (x.ev e) (evo e lo) (evo e hi) (evo e mx) g = some r) : Does P o a c r := by
  obtain ⟨dst, op, ty, pos, after, guard⟩ := o
  simp only [opB] at ho
  split at ho
  · rename_i t y l hh m
    simp only [Bool.and_eq_true] at ho
    obtain ⟨⟨⟨⟨⟨h1, h2⟩, h3⟩, h4⟩, h5⟩, h6⟩ := ho
    have hr := opdB_rep he h2
    split at h1
    · rename_i el hu
      obtain ⟨inf, hinf, hs⟩ := sizeB_some h1
      unfold vSlice at h
      split at h
      · rename_i cs n tk hx
        rw [hx] at hr
        obtain ⟨ao, cap, ad, vs, hv, hc, hm, hrig, hz, hone, hreps, ha, hk, _⟩ := rep_sl hr
        split at h
        · -- no third index
          rename_i zl zh hl hhi hmx
          split at h
          · rename_i hb
            obtain ⟨b1, b2, b3⟩ := hb
            cases h
            have hmn : m = none := by
              cases m with
              | none => rfl
              | some _ =>
                cases mx with
                | none => simp [opdO] at h5
                | some _ => simp [evo] at hmx
            subst hmn
            have e1 : (zl.toNat : Int) = zl := Int.toNat_of_nonneg b1
            have e2 : (zh.toNat : Int) = zh := Int.toNat_of_nonneg (by omega)
            have hrun : (execOp a.eval { dst := dst, op := .slice t y l hh none, type := ty, pos := pos, after := after, guard := guard }).run P c.w = .ok (.value (.slice (if cap = zl.toNat then ao else ao.map (·.add (zl.toNat * esz))) (zh.toNat - zl.toNat) (cap - zl.toNat))) c.w := by
              rcases bnd_run (P := P) (w := c.w) (y := cap) he h4 hhi (by omega) (by omega) .sliceAcap with ⟨rfl, rfl, hzh⟩ | ⟨x2, k2, rfl, hx2, hr2⟩
              · subst hzh
                rcases bnd_run (P := P) (w := c.w) (y := n) he h3 hl b1 (by omega) .sliceB with ⟨rfl, rfl, hzl⟩ | ⟨x1, k1, rfl, hx1, hr1⟩
                · subst hzl
                  simp [execOp, hv, Instr.sliceAt, Instr.slice, Instr.sliceBounds, run_underlying hu, sizeOf, typeInfo, hinf, hs]
                · simp [execOp, hv, Instr.sliceAt, Instr.slice, Instr.sliceBounds, run_underlying hu, sizeOf, typeInfo, hinf, hs, hx1, hr1]
              · rcases bnd_run (P := P) (w := c.w) (y := zh.toNat) he h3 hl b1 (by omega) .sliceB with ⟨rfl, rfl, hzl⟩ | ⟨x1, k1, rfl, hx1, hr1⟩
                · subst hzl
                  simp [execOp, hv, Instr.sliceAt, Instr.slice, Instr.sliceBounds, run_underlying hu, sizeOf, typeInfo, hinf, hs, hx2, hr2]
                · simp [execOp, hv, Instr.sliceAt, Instr.slice, Instr.sliceBounds, run_underlying hu, sizeOf, typeInfo, hinf, hs, hx1, hr1, hx2, hr2]
            refine Does.quiet K hg ?_ hrun
            refine rep_sub hc hm hz hone hreps ha hk (by omega) (by omega) (by omega) (Nat.le_refl _) (fun τ e => by split <;> simp) (fun h => ?_)
            split at h
            · rename_i hcc; have := hrig hcc.1; omega
            · cases h
          · cases h
        · rename_i zl zh k mz hl hhi hmx
          split at h
          · rename_i hb
            obtain ⟨b1, b2, b3, b4⟩ := hb
            cases h
            have e1 : (zl.toNat : Int) = zl := Int.toNat_of_nonneg b1
            have e2 : (zh.toNat : Int) = zh := Int.toNat_of_nonneg (by omega)
            obtain ⟨q, rfl⟩ : ∃ q, mx = some q := by cases mx with | none => simp [evo] at hmx | some q => exact ⟨q, rfl⟩
            obtain ⟨xm, rfl⟩ : ∃ xm, m = some xm := by cases m with | none => simp [opdO] at h5 | some q => exact ⟨q, rfl⟩
            simp only [opdO] at h5
            simp only [evo] at hmx
            have hxm := opdB_rep he h5
            rw [Option.some.inj hmx] at hxm
            have hvm := rep_i hxm
            subst b3
            have hrm : (Instr.sliceBound (.int k zh) cap .slice3Acap).run P c.w = .ok zh.toNat c.w := by simp [Instr.sliceBound, asIntOf, show 0 ≤ zh by omega, show zh ≤ cap by omega]
            rcases bnd_run (P := P) (w := c.w) (y := zh.toNat) he h4 hhi (by omega) (by omega) .slice3B with ⟨rfl, rfl, hzh⟩ | ⟨x2, k2, rfl, hx2, hr2⟩
            · simp at h6
            · have hrun : (execOp a.eval { dst := dst, op := .slice t y l (some x2) (some xm), type := ty, pos := pos, after := after, guard := guard }).run P c.w = .ok (.value (.slice (if zh.toNat = zl.toNat then ao else ao.map (·.add (zl.toNat * esz))) (zh.toNat - zl.toNat) (zh.toNat - zl.toNat))) c.w := by
                rcases bnd_run (P := P) (w := c.w) (y := zh.toNat) he h3 hl b1 (by omega) .slice3C with ⟨rfl, rfl, hzl⟩ | ⟨x1, k1, rfl, hx1, hr1⟩
                · subst hzl
                  simp [execOp, hv, Instr.sliceAt, Instr.slice, Instr.sliceBounds, run_underlying hu, sizeOf, typeInfo, hinf, hs, hx2, hr2, hvm, hrm]
                · simp [execOp, hv, Instr.sliceAt, Instr.slice, Instr.sliceBounds, run_underlying hu, sizeOf, typeInfo, hinf, hs, hx1, hr1, hx2, hr2, hvm, hrm]
              refine Does.quiet K hg ?_ hrun
              exact rep_sub hc hm hz hone hreps ha hk (by omega) (by omega) (Nat.le_refl _) (by omega) (fun τ e => by simp) (fun _ => rfl)
          · cases h
        · cases h
      · cases h
    · cases h1
  · cases ho

theorem s_sslice (he : EnvOk c e a) (K : Ok c g.nx) (hg : c.hp = g.hp) {x : Opd} {lo hi : Option Opd} (ho : opB P c.num o.op (.sslice x lo hi) = true) (h : vSslice (x.ev e) (evo e lo) (evo e hi) g = some r) : Does P o a c r := by
  obtain ⟨dst, op, ty, pos, after, guard⟩ := o
  simp only [opB] at ho
  split at ho
  · rename_i t y l hh
    simp only [Bool.and_eq_true] at ho
    obtain ⟨⟨⟨h1, h2⟩, h3⟩, h4⟩ := ho
    have hr := opdB_rep he h2
    split at h1
    · rename_i hu
      unfold vSslice at h
      split at h
      · rename_i s hx
        rw [hx] at hr
        have hv := rep_s hr
        split at h
        · rename_i zl zh hl hhi
          split at h
          · rename_i hb
            obtain ⟨b1, b2, b3⟩ := hb
            cases h
            refine Does.quiet K hg (.s _) ?_
            rcases bnd_run (P := P) (w := c.w) (y := s.size) he h4 hhi (by omega) (by omega) .sliceAlen with ⟨rfl, rfl, hzh⟩ | ⟨x2, k2, rfl, hx2, hr2⟩
            · subst hzh
              rcases bnd_run (P := P) (w := c.w) (y := s.size) he h3 hl b1 (by omega) .sliceB with ⟨rfl, rfl, hzl⟩ | ⟨x1, k1, rfl, hx1, hr1⟩
              · subst hzl
                simp [execOp, hv, Instr.sliceAt, Instr.slice, Instr.sliceBounds, run_underlying hu]
              · simp [execOp, hv, Instr.sliceAt, Instr.slice, Instr.sliceBounds, run_underlying hu, hx1, hr1]
            · rcases bnd_run (P := P) (w := c.w) (y := zh.toNat) he h3 hl b1 (by omega) .sliceB with ⟨rfl, rfl, hzl⟩ | ⟨x1, k1, rfl, hx1, hr1⟩
              · subst hzl
                simp [execOp, hv, Instr.sliceAt, Instr.slice, Instr.sliceBounds, run_underlying hu, hx2, hr2]
              · simp [execOp, hv, Instr.sliceAt, Instr.slice, Instr.sliceBounds, run_underlying hu, hx1, hr1, hx2, hr2]
          · cases h
        · cases h
      · cases h
    · cases h1
  · cases ho
end
end Go.Ab
