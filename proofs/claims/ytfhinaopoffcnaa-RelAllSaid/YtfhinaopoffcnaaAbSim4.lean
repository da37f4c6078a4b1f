/- More operations: rows that are built, slices of slices, makes, appends, maps, comparisons. -/
import Derived.Test.YtfhinaopoffcnaaAbSim3
import Derived.Deep.Upon
set_option linter.unusedVariables false
set_option linter.unusedSimpArgs false
namespace Go.Ab
open Go.RowKit
section
variable {P : Program} {o : Oper} {a : Act} {c : Cx} {e : Env} {g : G} {al : Nat → Bool} {id : Nat} {r : AV × G}

theorem mapM_places {P : Program} (w : World) : ∀ (fs : List Field) (acc : List (Nat × Nat)), (∀ f ∈ fs, (P.info? f.type).isSome) →
    (List.mapM (m := Sem) (fun f : Field => do pure (f.offset, ← sizeOf f.type)) fs).run P w = .ok (fs.map fun f => (f.offset, P.cellsOf f.type)) w
  | [], acc, _ => by simp
  | f :: fs, acc, h => by
    obtain ⟨i, hi⟩ := Option.isSome_iff_exists.1 (h f (by simp))
    have ih := mapM_places (P := P) w fs acc (fun f hf => h f (by simp [hf]))
    have hs : P.cellsOf f.type = i.size := by simp [Program.cellsOf, hi]
    rw [List.mapM_cons]
    simp only [Sem.run_bind, sizeOf, typeInfo, run_program, Result.andThen_ok, hi, Sem.run_pure, List.map_cons, hs]
    have ih' := ih
    simp only [sizeOf, typeInfo] at ih'
    rw [ih']
    rfl
theorem s_build (he : EnvOk c e a) (K : Ok c g.nx) (hg : c.hp = g.hp) {zero : List AV} {ps} (ho : opB P c.num o.op (.build zero ps) = true) (h : vMapL .agg g (fill e zero ps) = some r) : Does P o a c r := by
  obtain ⟨dst, op, ty, pos, after, guard⟩ := o
  simp only [opB] at ho
  split at ho
  · rename_i t qs
    simp only [Bool.and_eq_true] at ho
    obtain ⟨h1, h2⟩ := ho
    obtain ⟨i, z, hi, hz, hc, hs⟩ := zeroB_some h1
    cases hf : fill e zero ps with
    | none => rw [hf] at h; cases h
    | some cs =>
      rw [hf] at h; cases h
      split at h2
      · rename_i fs hu
        simp only [Bool.and_eq_true] at h2
        obtain ⟨h3, h4⟩ := h2
        obtain ⟨vs', k1, k2, k3⟩ := fill_rep he h4 hf (constsB_rep hc c true) (constsB_one hc)
        refine Does.quiet K hg (val := .agg vs'.toArray) (.agg _ k2.1 k2.2) ?_
        have hall : ∀ f ∈ fs.toList, (P.info? f.type).isSome := by
          intro f hf
          rw [Array.all_eq_true_iff_forall_mem] at h3
          have := h3 ((P.info? f.type).map fun i => (f.offset, i.size)) (by
            unfold fieldPlaces
            rw [Array.mem_map]
            exact ⟨f, by simpa using hf, rfl⟩)
          simpa using this
        have hm := mapM_places (P := P) c.w fs.toList [] hall
        have hm' : (Array.mapM (m := Sem) (fun f : Field => do pure (f.offset, ← sizeOf f.type)) fs).run P c.w = .ok ((fs.toList.map fun f => (f.offset, P.cellsOf f.type)).toArray) c.w := by
          rw [Array.mapM_eq_mapM_toList]
          simp only [Sem.run_map, hm, Result.andThen_ok]
        have hpl : (fun i : Nat => ((fieldPlaces P fs)[i]?).bind id) = (fun i : Nat => ((fs.toList.map fun f => (f.offset, P.cellsOf f.type)).toArray)[i]?) := by
          funext i
          simp only [fieldPlaces, Array.getElem?_map, List.getElem?_toArray, List.getElem?_map, Array.getElem?_toList]
          cases hfi : fs[i]? with
          | none => rfl
          | some f =>
            obtain ⟨i', hi'⟩ := Option.isSome_iff_exists.1 (hall f (by simpa using Array.mem_of_getElem? hfi))
            simp [hi', Program.cellsOf]
        rw [hpl] at k1
        have k1' : Instr.fill (fun i : Nat => ((fs.toList.map fun f => (f.offset, P.cellsOf f.type)).toArray)[i]?) z.cells (qs.map fun p => (p.1, a.eval p.2)).toList = some vs'.toArray := by simpa using k1
        simp only [execOp, Instr.build, Sem.run_bind, zeroValue, typeInfo, run_program, Result.andThen_ok, hi, hz, Sem.run_pure, run_underlying hu]
        rw [hm']
        simp only [Result.andThen_ok, k1', Sem.run_pure]
      · rename_i n el hu
        split at h2
        · rename_i inf hinf
          obtain ⟨vs', k1, k2, k3⟩ := fill_rep he h2 hf (constsB_rep hc c true) (constsB_one hc)
          refine Does.quiet K hg (val := .agg vs'.toArray) (.agg _ k2.1 k2.2) ?_
          have k1' : Instr.fill (fun j : Nat => some (j * inf.size, inf.size)) z.cells (qs.map fun p => (p.1, a.eval p.2)).toList = some vs'.toArray := by simpa using k1
          simp only [execOp, Instr.build, Sem.run_bind, zeroValue, typeInfo, run_program, Result.andThen_ok, hi, hz, Sem.run_pure, run_underlying hu, sizeOf, hinf, k1']
        · cases h2
      · cases h2
  · cases ho

theorem bsl_cells (z : Value) (sz len : Nat) (hz : z.cells.size = sz) (hl : len * sz ≠ 0) : ∀ w : World, True := fun _ => trivial

theorem s_bsl (he : EnvOk c e a) (K : Ok c g.nx) (hg : c.hp = g.hp) (hid : c.hp id = none) (hlt : id < g.nx) {imm : Bool} {n : Nat} {zero : List AV} {ps} (ho : opB P c.num o.op (.bsl imm n zero ps) = true) (h : vBsl id imm n (fill e zero ps) g = some r) : Does P o a c r := by
  obtain ⟨dst, op, ty, pos, after, guard⟩ := o
  simp only [opB] at ho
  split at ho
  · rename_i t len qs
    split at ho
    · rename_i el hu
      split at ho
      · rename_i i hi
        split at ho
        · rename_i z hz
          simp only [Bool.and_eq_true, beq_iff_eq, decide_eq_true_eq] at ho
          obtain ⟨⟨⟨⟨⟨rfl, h2⟩, h2'⟩, h3⟩, h4⟩, h5⟩ := ho
          cases hf : fill e zero ps with
          | none => rw [hf] at h; cases h
          | some cs =>
            rw [hf] at h
            obtain ⟨vs', k1, k2, k3⟩ := fill_rep he h5 hf (constsB_rep h4 c true) (constsB_one h4)
            have hbig : ¬ (len * i.size > 2 ^ 24) := by omega
            have k1' : Instr.fill (fun j : Nat => some (j * i.size, i.size)) ((Array.range (len * i.size)).map (z.cells[· % z.cells.size]!)) (qs.map fun p => (p.1, a.eval p.2)).toList = some vs'.toArray := by
              rw [Array.toArray_toList] at k1
              rw [Array.toList_map]; exact k1
            have hrun : (execOp a.eval { dst := dst, op := .buildSlice t len qs, type := ty, pos := pos, after := after, guard := guard }).run P c.w = .ok (.value (.slice (some ⟨c.w.heap.size, 0, none⟩) len len)) (c.w.alloc (.cells vs'.toArray el)) := by
              by_cases h0 : len * i.size = 0
              · have hr0 : (Array.range (len * i.size)).map (z.cells[· % z.cells.size]!) = #[] := by rw [h0]; apply Array.ext'; simp
                have hr1 : (Array.range 0).map ((#[] : Array Value)[· % (#[] : Array Value).size]!) = #[] := by apply Array.ext'; simp
                rw [hr0] at k1'
                simp only [execOp, Instr.buildSlice, Sem.run_bind, run_underlying hu, Result.andThen_ok, sizeOf, typeInfo, run_program, hi, Sem.run_pure, hbig, if_false, Sem.run_ite, h0, if_true, hr1, k1', newRow, run_newObj, World.alloc_eq]
                simp
              · simp only [execOp, Instr.buildSlice, Sem.run_bind, run_underlying hu, Result.andThen_ok, sizeOf, typeInfo, run_program, hi, Sem.run_pure, hbig, if_false, Sem.run_ite, h0, zeroValue, hz, k1', newRow, run_newObj, World.alloc_eq]
            have hlen : len ≤ maxLen := by simp only [maxLen]; omega
            unfold vBsl at h
            cases imm with
            | true =>
              simp only [if_true] at h
              cases hz' : frzL (fun _ => none) depth cs with
              | none => rw [hz'] at h; cases h
              | some cs' =>
                rw [hz'] at h; cases h
                have hb : Below c.w.heap.size c.w (c.w.alloc (.cells vs'.toArray el)) := (Below.refl _ _).alloc (Nat.le_refl _) _
                have hr := (frzL_none K hz' k2).evo (Evo.grow K hb)
                refine ⟨_, c.grow (c.w.alloc (.cells vs'.toArray el)), .slice (some ⟨c.w.heap.size, 0, none⟩) len len, hrun, .inl rfl, Evo.grow K hb, K.grow hb, hg, ?_⟩
                refine .sl ⟨c.w.heap.size, 0, none⟩ vs' (Nat.le_refl _) hlen (fun _ => rfl) (fun _ _ _ h => by cases h) (fun _ => rfl) (k2.ones k3) hr.1 (fun _ => rfl) (fun j u hu => ?_) hr.2 (fun _ _ h => by cases h)
                rw [add_mk]
                refine ⟨I_beside K (Nat.le_refl _) (by simp), ?_⟩
                show (c.w.alloc _).cell? _ = _
                rw [cell_of_heap (heap_last _ _)]
                simpa using hu
            | false =>
              simp only [Bool.false_eq_true, if_false] at h
              cases h
              have hn : NewOk c (.cells vs'.toArray el) (.cells cs false) := ⟨vs', el, rfl, k2, k3⟩
              refine Does.fresh (lo := 0) K hg hid hlt hn _ _ ?_ hrun
              have := Rep.ms (c := c.alloc id (.cells vs'.toArray el) 0 (.cells cs false)) id 0 len len (by rw [hp_alloc_same]; rfl) (Nat.le_refl _) hlen
              rwa [loc_alloc_same] at this
        · cases ho
      · cases ho
    · cases ho
  · cases ho

theorem s_boxI (he : EnvOk c e a) (K : Ok c g.nx) (hg : c.hp = g.hp) {x : Opd} (ho : opB P c.num o.op (.boxI x) = true) (h : vBoxI (x.ev e) g = some r) : Does P o a c r := by
  obtain ⟨dst, op, ty, pos, after, guard⟩ := o
  simp only [opB] at ho
  split at ho
  · rename_i t y
    have hr := cells_rep (opdB_rep he ho)
    unfold vBoxI at h
    split at h
    · rename_i h1
      cases hz' : frzL (fun _ => none) depth (cellsOf (x.ev e)) with
      | none => rw [hz'] at h; cases h
      | some cs' =>
        rw [hz'] at h; cases h
        have hb : Below c.w.heap.size c.w (c.w.alloc (.cells (a.eval y).cells t)) := (Below.refl _ _).alloc (Nat.le_refl _) _
        have hr' := (frzL_none K hz' hr).evo (Evo.grow K hb)
        refine ⟨.value (.pointer (some ⟨c.w.heap.size, 0, none⟩)), c.grow (c.w.alloc (.cells (a.eval y).cells t)), .pointer (some ⟨c.w.heap.size, 0, none⟩), ?_, .inl rfl, Evo.grow K hb, K.grow hb, hg, ?_⟩
        · show _ = Result.ok _ (c.w.alloc _)
          simp [execOp, Instr.box, newVar, newRow]
        · refine .ptr ⟨c.w.heap.size, 0, none⟩ (a.eval y).cells.toList (hr.ones h1) hr'.1 (fun j u hu => ?_) hr'.2
          rw [add_mk]
          refine ⟨I_beside K (Nat.le_refl _) (by simp), ?_⟩
          show (c.w.alloc _).cell? _ = _
          rw [cell_of_heap (heap_last _ _)]
          simpa using hu
    · cases h
  · cases ho

theorem bnd_run {w : World} {dflt : Nat} {oo : Option Operand} {oy : Option Opd} (he : EnvOk c e a) (ho : opdO c.num oo oy = true) {z : Int} (hb : bnd dflt (evo e oy) = some z) {y : Nat} (h0 : 0 ≤ z) (h1 : z ≤ y) (code : BoundsCode) :
    (oo = none ∧ oy = none ∧ z = dflt) ∨ (∃ x k, oo = some x ∧ a.eval x = .int k z ∧ (Instr.sliceBound (.int k z) y code).run P w = .ok z.toNat w) := by
  cases oo with
  | none =>
    cases oy with
    | none => simp [evo, bnd] at hb; exact .inl ⟨rfl, rfl, hb.symm⟩
    | some q => simp [opdO] at ho
  | some x =>
    cases oy with
    | none => simp [opdO] at ho
    | some q =>
      simp only [opdO] at ho
      have hr := opdB_rep he ho
      simp only [evo] at hb
      unfold bnd at hb
      split at hb
      · rename_i hn; cases hn
      · rename_i k z' hq
        cases hb
        rw [Option.some.inj hq] at hr
        exact .inr ⟨x, k, rfl, rep_i hr, by simp [Instr.sliceBound, asIntOf, h0, h1]⟩
      · cases hb
end
end Go.Ab
