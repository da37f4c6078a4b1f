/- More operations: arrays, strings, tuples, lengths, rows that are built. -/
import Derived.Test.YtfhinaopoffcnaaAbSim2
set_option linter.unusedVariables false
set_option linter.unusedSimpArgs false
namespace Go.Ab
open Go.RowKit
section
variable {P : Program} {o : Oper} {a : Act} {c : Cx} {e : Env} {g : G} {al : Nat → Bool} {id : Nat} {r : AV × G}

theorem s_iaa (he : EnvOk c e a) (K : Ok c g.nx) (hg : c.hp = g.hp) {len esz : Nat} {x i : Opd} (ho : opB P c.num o.op (.iaa len esz x i) = true) (h : vIaa len esz (x.ev e) (i.ev e) g = some r) : Does P o a c r := by
  obtain ⟨dst, op, ty, pos, after, guard⟩ := o
  simp only [opB] at ho
  split at ho
  · rename_i t y j
    simp only [Bool.and_eq_true] at ho
    obtain ⟨⟨h1, h2⟩, h3⟩ := ho
    have hr := opdB_rep he h2
    have hi := opdB_rep he h3
    split at h1
    · rename_i n el hu
      simp only [Bool.and_eq_true, beq_iff_eq] at h1
      obtain ⟨rfl, h1⟩ := h1
      obtain ⟨inf, hinf, hs⟩ := sizeB_some h1
      unfold vIaa at h
      split at h
      · rename_i cs k z hx hz
        rw [hx] at hr
        rw [hz] at hi
        have hv2 := rep_i hi
        obtain ⟨ad, vs, hv, hone, hreps, hk⟩ := rep_ptr hr
        split at h
        · rename_i hb
          cases h
          refine Does.quiet K hg (rep_ptr_drop hone hreps hk (z.toNat * esz)) ?_
          simp [execOp, hv, hv2, Instr.indexAt, run_underlying hu, asIntOf, Instr.sureAddr, hb.1, hb.2, sizeOf, typeInfo, hinf, hs]
        · cases h
      · rename_i b off k z hx hz
        rw [hx] at hr
        rw [hz] at hi
        have hv2 := rep_i hi
        have hv := rep_mp hr
        split at h
        · rename_i hb
          cases h
          refine Does.quiet K hg (.mp b (off + z.toNat * esz) (rep_mp_some hr)) ?_
          simp [execOp, hv, hv2, Instr.indexAt, run_underlying hu, asIntOf, Instr.sureAddr, hb.1, hb.2, sizeOf, typeInfo, hinf, hs, add_mk]
        · cases h
      · cases h
    · cases h1
  · cases ho

theorem s_idx (he : EnvOk c e a) (K : Ok c g.nx) (hg : c.hp = g.hp) {len esz : Nat} {agg : Option Nat} {x i : Opd} (ho : opB P c.num o.op (.idx len esz agg x i) = true) (h : vIdx len esz agg (x.ev e) (i.ev e) g = some r) : Does P o a c r := by
  obtain ⟨dst, op, ty, pos, after, guard⟩ := o
  simp only [opB] at ho
  split at ho
  · rename_i t y j
    simp only [Bool.and_eq_true] at ho
    obtain ⟨⟨h1, h2⟩, h3⟩ := ho
    have hr := opdB_rep he h2
    have hi := opdB_rep he h3
    split at h1
    · rename_i n el hu
      simp only [Bool.and_eq_true, beq_iff_eq] at h1
      obtain ⟨⟨rfl, h1⟩, h4⟩ := h1
      obtain ⟨inf, hinf, hs⟩ := sizeB_some h1
      unfold vIdx at h
      split at h
      · rename_i cs k z hx hz
        rw [hx] at hr
        rw [hz] at hi
        have hv2 := rep_i hi
        obtain ⟨vs, hv, hreps⟩ := rep_agg hr
        split at h
        · rename_i hb
          cases hp : part cs (z.toNat * esz) agg with
          | none => rw [hp] at h; cases h
          | some v =>
            rw [hp] at h; cases h
            obtain ⟨val, hrun, hval⟩ := part_run h4 hreps hp
            exact Does.quiet K hg hval (by simp [execOp, hv, hv2, Instr.index, run_underlying hu, asIntOf, hb.1, hb.2, sizeOf, typeInfo, hinf, hs, hrun])
        · cases h
      · cases h
    · cases h1
  · cases ho

theorem s_sidx (he : EnvOk c e a) (K : Ok c g.nx) (hg : c.hp = g.hp) {x i : Opd} (ho : opB P c.num o.op (.sidx x i) = true) (h : vSidx (x.ev e) (i.ev e) g = some r) : Does P o a c r := by
  obtain ⟨dst, op, ty, pos, after, guard⟩ := o
  simp only [opB] at ho
  split at ho
  · rename_i t y j
    simp only [Bool.and_eq_true] at ho
    obtain ⟨⟨h1, h2⟩, h3⟩ := ho
    have hr := opdB_rep he h2
    have hi := opdB_rep he h3
    split at h1
    · rename_i hu
      unfold vSidx at h
      split at h
      · rename_i s k z hx hz
        rw [hx] at hr
        rw [hz] at hi
        have hv2 := rep_i hi
        have hv := rep_s hr
        split at h
        · rename_i hb
          cases h
          exact Does.quiet K hg (.i _ _) (by simp [execOp, hv, hv2, Instr.index, run_underlying hu, asIntOf, hb.1, hb.2])
        · cases h
      · cases h
    · cases h1
  · cases ho

theorem s_ext (he : EnvOk c e a) (K : Ok c g.nx) (hg : c.hp = g.hp) {i : Nat} {x : Opd} (ho : opB P c.num o.op (.ext i x) = true) (h : vExt i (x.ev e) g = some r) : Does P o a c r := by
  obtain ⟨dst, op, ty, pos, after, guard⟩ := o
  simp only [opB] at ho
  split at ho
  · rename_i y j
    simp only [Bool.and_eq_true, beq_iff_eq] at ho
    obtain ⟨rfl, h2⟩ := ho
    have hr := opdB_rep he h2
    unfold vExt at h
    split at h
    · rename_i cs hx
      rw [hx] at hr
      obtain ⟨vs, hv, hreps⟩ := rep_tup hr
      cases hp : cs[i]? with
      | none => rw [hp] at h; cases h
      | some v =>
        rw [hp] at h; cases h
        obtain ⟨u, hu, hval⟩ := hreps.get hp
        exact Does.quiet K hg hval (by simp [execOp, hv, Instr.extract, hu])
    · cases h
  · cases ho

theorem list_one {α : Type} {as : Array α} {x : α} (h : as.toList = [x]) : as = #[x] := by apply Array.ext'; simpa using h
theorem list_two {α : Type} {as : Array α} {x y : α} (h : as.toList = [x, y]) : as = #[x, y] := by apply Array.ext'; simpa using h
theorem opds_two {os : List Operand} {x y : Opd} {nm : Nat → Nat} (h : opdsB nm os [x, y] = true) : ∃ p q, os = [p, q] ∧ opdB nm p x = true ∧ opdB nm q y = true := by
  match os, h with
  | [p, q], h => simp [opdsB] at h; exact ⟨p, q, rfl, h.1, h.2⟩
  | [], h => simp [opdsB] at h
  | [_], h => simp [opdsB] at h
  | _ :: _ :: _ :: _, h => simp [opdsB] at h

theorem s_len (he : EnvOk c e a) (K : Ok c g.nx) (hg : c.hp = g.hp) {x : Opd} (ho : opB P c.num o.op (.len x) = true) (h : vLen (x.ev e) g = some r) : Does P o a c r := by
  obtain ⟨dst, op, ty, pos, after, guard⟩ := o
  simp only [opB] at ho
  split at ho
  · rename_i cl
    obtain ⟨callee, args, argTypes⟩ := cl
    simp only [Bool.and_eq_true] at ho
    obtain ⟨h1, h2⟩ := ho
    split at h1
    · split at h2
      · rename_i y t ha ht
        have ha' := list_one ha
        have ht' := list_one ht
        subst ha' ht'
        simp only [Bool.and_eq_true] at h2
        obtain ⟨h3, h4⟩ := h2
        have hr := opdB_rep he h3
        split at h4
        · rename_i el hu
          unfold vLen at h
          split at h
          · rename_i cs n tk hx
            rw [hx] at hr
            cases h
            obtain ⟨ao, cap, ad, vs, hv, _⟩ := rep_sl hr
            exact Does.quiet K hg (.i _ _) (by simp [execOp, hv, resolve, invoke, builtin, Builtin.len_, run_underlying hu, goInt])
          · rename_i b off n hx
            rw [hx] at hr
            cases h
            obtain ⟨cap, hv, _⟩ := rep_ms hr
            exact Does.quiet K hg (.i _ _) (by simp [execOp, hv, resolve, invoke, builtin, Builtin.len_, run_underlying hu, goInt])
          · cases h
        · cases h4
      · cases h2
    · cases h1
  · cases ho
theorem s_slen (he : EnvOk c e a) (K : Ok c g.nx) (hg : c.hp = g.hp) {x : Opd} (ho : opB P c.num o.op (.slen x) = true) (h : vSlen (x.ev e) g = some r) : Does P o a c r := by
  obtain ⟨dst, op, ty, pos, after, guard⟩ := o
  simp only [opB] at ho
  split at ho
  · rename_i cl
    obtain ⟨callee, args, argTypes⟩ := cl
    simp only [Bool.and_eq_true] at ho
    obtain ⟨h1, h2⟩ := ho
    split at h1
    · split at h2
      · rename_i y t ha ht
        have ha' := list_one ha
        have ht' := list_one ht
        subst ha' ht'
        simp only [Bool.and_eq_true] at h2
        obtain ⟨h3, h4⟩ := h2
        have hr := opdB_rep he h3
        split at h4
        · rename_i hu
          unfold vSlen at h
          split at h
          · rename_i s hx
            rw [hx] at hr
            cases h
            exact Does.quiet K hg (.i _ _) (by simp [execOp, rep_s hr, resolve, invoke, builtin, Builtin.len_, run_underlying hu, goInt])
          · cases h
        · cases h4
      · cases h2
    · cases h1
  · cases ho

theorem s_mx (he : EnvOk c e a) (K : Ok c g.nx) (hg : c.hp = g.hp) {x y : Opd} (ho : opB P c.num o.op (.mx x y) = true) (h : vMx (x.ev e) (y.ev e) g = some r) : Does P o a c r := by
  obtain ⟨dst, op, ty, pos, after, guard⟩ := o
  simp only [opB] at ho
  split at ho
  · rename_i cl
    obtain ⟨callee, args, argTypes⟩ := cl
    simp only [Bool.and_eq_true] at ho
    obtain ⟨h1, h2⟩ := ho
    split at h1
    · obtain ⟨p, q, hargs, h3, h4⟩ := opds_two h2
      have := list_two hargs
      subst this
      have r1 := opdB_rep he h3
      have r2 := opdB_rep he h4
      unfold vMx at h
      split at h
      · rename_i k u k' v hx hy
        rw [hx] at r1
        rw [hy] at r2
        cases h
        exact Does.quiet K hg (.i _ _) (by simp [execOp, rep_i r1, rep_i r2, resolve, invoke, builtin, Builtin.max_, Builtin.max2])
      · cases h
    · cases h1
  · cases ho
theorem s_mn (he : EnvOk c e a) (K : Ok c g.nx) (hg : c.hp = g.hp) {x y : Opd} (ho : opB P c.num o.op (.mn x y) = true) (h : vMn (x.ev e) (y.ev e) g = some r) : Does P o a c r := by
  obtain ⟨dst, op, ty, pos, after, guard⟩ := o
  simp only [opB] at ho
  split at ho
  · rename_i cl
    obtain ⟨callee, args, argTypes⟩ := cl
    simp only [Bool.and_eq_true] at ho
    obtain ⟨h1, h2⟩ := ho
    split at h1
    · obtain ⟨p, q, hargs, h3, h4⟩ := opds_two h2
      have := list_two hargs
      subst this
      have r1 := opdB_rep he h3
      have r2 := opdB_rep he h4
      unfold vMn at h
      split at h
      · rename_i k u k' v hx hy
        rw [hx] at r1
        rw [hy] at r2
        cases h
        exact Does.quiet K hg (.i _ _) (by simp [execOp, rep_i r1, rep_i r2, resolve, invoke, builtin, Builtin.min_, Builtin.min2])
      · cases h
    · cases h1
  · cases ho

/-! ### what is built -/
theorem foldl_set : ∀ (vs : List Value) (k off : Nat) (cs : Array Value), (vs.zipIdx k).foldl (fun cs (x : Value × Nat) => cs.setIfInBounds (off + x.2) x.1) cs = (lset cs.toList (off + k) vs).toArray
  | [], k, off, cs => by simp [lset]
  | v :: vs, k, off, cs => by
    rw [List.zipIdx_cons, List.foldl_cons, foldl_set vs (k + 1) off, lset]
    simp [Nat.add_assoc]
theorem fill_rep {place : Nat → Option (Nat × Nat)} (he : EnvOk c e a) : ∀ {ps : List (Nat × Operand)} {qs : List (Nat × Nat × Opd)} {cs cs' : List AV} {vs : List Value}, partsB c.num place ps qs = true → fill e cs qs = some cs' → Reps c true cs vs → cs.all Ab.one = true →
    ∃ vs' : List Value, Instr.fill place vs.toArray (ps.map fun p => (p.1, a.eval p.2)) = some vs'.toArray ∧ Reps c true cs' vs' ∧ cs'.all Ab.one = true
  | [], [], cs, cs', vs, _, h, hr, h1 => by
    simp only [fill] at h; cases h
    exact ⟨vs, rfl, hr, h1⟩
  | (i, x) :: ps, (off, n, y) :: qs, cs, cs', vs, hp, h, hr, h1 => by
    simp only [partsB, Bool.and_eq_true, beq_iff_eq] at hp
    obtain ⟨⟨p1, p2⟩, p3⟩ := hp
    simp only [fill] at h
    split at h
    · rename_i hc
      obtain ⟨c1, c2, c3⟩ := hc
      have hx := cells_rep (opdB_rep he p2)
      have hl : (cellsOf (y.ev e)).length = (a.eval x).cells.size := by simpa using hx.1
      have hsz : cs.length = vs.length := hr.1
      rw [splice_eq _ _ _ (by omega)] at h
      have hr' := Reps.lsetAll (cellsOf (y.ev e)) _ cs vs off hr hx
      obtain ⟨vs', k1, k2, k3⟩ := fill_rep he p3 h hr' (lset_all _ _ _ h1 c3)
      refine ⟨vs', ?_, k2, k3⟩
      simp only [List.map_cons, Instr.fill, p1]
      rw [if_neg (by simp; omega)]
      have hf := foldl_set (a.eval x).cells.toList 0 off vs.toArray
      simp only [Nat.add_zero] at hf
      rw [← k1]
      congr 1
      rw [← hf]
      rw [← Array.foldl_toList, Array.toList_zipIdx]
    · cases h
  | [], _ :: _, _, _, _, hp, _, _, _ => by simp [partsB] at hp
  | _ :: _, [], _, _, _, hp, _, _, _ => by simp [partsB] at hp
end
end Go.Ab
