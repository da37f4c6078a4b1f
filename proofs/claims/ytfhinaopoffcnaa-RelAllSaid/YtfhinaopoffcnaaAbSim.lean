/- Each operation of the abstract machine is carried out by the model's own. -/
import Derived.Test.YtfhinaopoffcnaaAbChk
import Derived.Laws.Entries
set_option linter.unusedVariables false
set_option linter.unusedSimpArgs false
namespace Go.Ab
open Go.RowKit

def EnvOk (c : Cx) (e : Env) (a : Act) : Prop := ∀ t, Rep c true (e t) (a.tmps.getD t Go.undef)
theorem EnvOk.evo {c c' : Cx} (E : Evo c c') {e : Env} {a : Act} (h : EnvOk c e a) : EnvOk c' e a := fun t => (h t).evo E

theorem opdB_rep {c : Cx} {e : Env} {a : Act} (he : EnvOk c e a) {o : Operand} {y : Opd} (h : opdB c.num o y = true) : Rep c true (y.ev e) (a.eval o) := by
  unfold opdB at h
  split at h
  · simp at h; subst h; exact he _
  · rename_i cs xs
    have := constsB_rep h c true
    have k := Rep.agg (c := c) cs.toList this.1 this.2
    show Rep c true (.agg xs) (.agg cs)
    simpa using k
  · exact constB_rep h c true
  · simp at h
    subst h
    exact Rep.fn [] [] rfl rfl (fun _ _ _ h => by simp at h) (fun _ _ _ h => by simp at h)
  · cases h
theorem opdsB_rep {c : Cx} {e : Env} {a : Act} (he : EnvOk c e a) : ∀ {os : List Operand} {ys : List Opd}, opdsB c.num os ys = true → Reps c true (ys.map (·.ev e)) (os.map a.eval)
  | [], [], _ => Reps.nil
  | o :: os, y :: ys, h => by
    simp only [opdsB, Bool.and_eq_true] at h
    exact Reps.cons (opdB_rep he h.1) (opdsB_rep he h.2)
  | [], _ :: _, h => by simp [opdsB] at h
  | _ :: _, [], h => by simp [opdsB] at h

/-- What an operation that is no call of a function does. -/
def Does (P : Program) (o : Oper) (a : Act) (c : Cx) (r : AV × G) : Prop :=
  ∃ n c' val, (execOp a.eval o).run P c.w = .ok n c'.w ∧ (n = .value val ∨ (n = .skip ∧ val = Go.undef)) ∧ Evo c c' ∧ Ok c' r.2.nx ∧ c'.hp = r.2.hp ∧ Rep c' true r.1 val

theorem Does.quiet {P : Program} {o : Oper} {a : Act} {c : Cx} {v : AV} {g : G} {val : Value} (K : Ok c g.nx) (hg : c.hp = g.hp) (hr : Rep c true v val)
    (h : (execOp a.eval o).run P c.w = .ok (.value val) c.w) : Does P o a c (v, g) :=
  ⟨_, c, val, h, .inl rfl, Evo.refl c, K, hg, hr⟩

theorem part_add {c : Cx} {m : Bool} {cs : List AV} {vs : List Value} (h : Reps c m cs vs) {off : Nat} {x : AV} {agg : Option Nat} (hp : part cs off agg = some x) :
    (∀ n, agg = some n → ∃ us : List Value, us.length = n ∧ (∀ (j : Nat) u, us[j]? = some u → vs[off + j]? = some u) ∧ Rep c m x (.agg us.toArray)) ∧
    (agg = none → ∃ u, vs[off]? = some u ∧ Rep c m x u) := by
  refine ⟨fun n hn => ?_, fun hn => ?_⟩
  · subst hn
    simp only [part] at hp
    split at hp
    · rename_i hle
      cases hp
      have k := (h.drop off).take n
      refine ⟨(vs.drop off).take n, by simp [← h.1]; omega, fun j u hu => ?_, .agg _ k.1 k.2⟩
      rw [List.getElem?_take] at hu
      split at hu
      · rwa [List.getElem?_drop] at hu
      · cases hu
    · cases hp
  · subst hn
    simp only [part] at hp
    exact h.get hp

theorem aggB_none {P : Program} {t : TypeId} (h : aggB P t none = true) : ∃ d i, P.underlying t = some d ∧ P.info? t = some i ∧ (∀ w, (isAgg t).run P w = .ok false w) := by
  simp only [aggB, Bool.and_eq_true, Bool.not_eq_true'] at h
  obtain ⟨⟨h1, h2⟩, h3⟩ := h
  obtain ⟨d, hd⟩ := Option.isSome_iff_exists.1 h2
  obtain ⟨i, hi⟩ := Option.isSome_iff_exists.1 h3
  refine ⟨d, i, hd, hi, fun w => ?_⟩
  unfold isAggB at h1
  rw [hd] at h1
  cases d <;> first | (simp at h1; done) | simp [isAgg, run_underlying hd]
theorem aggB_some {P : Program} {t : TypeId} {n : Nat} (h : aggB P t (some n) = true) : ∃ i, P.info? t = some i ∧ i.size = n ∧ (∀ w, (isAgg t).run P w = .ok true w) := by
  simp only [aggB, Bool.and_eq_true, beq_iff_eq, Option.map_eq_some_iff] at h
  obtain ⟨h1, i, hi, hs⟩ := h
  refine ⟨i, hi, hs, fun w => ?_⟩
  unfold isAggB at h1
  cases hd : P.underlying t with
  | none => rw [hd] at h1; cases h1
  | some d =>
    rw [hd] at h1
    cases d <;> first | (simp at h1; done) | simp [isAgg, run_underlying hd]
theorem sizeB_some {P : Program} {t : TypeId} {n : Nat} (h : sizeB P t n = true) : ∃ i, P.info? t = some i ∧ i.size = n := by
  simpa [sizeB] using h
theorem zeroB_some {P : Program} {t : TypeId} {zero : List AV} (h : zeroB P t zero = true) : ∃ i z, P.info? t = some i ∧ i.zero = some z ∧ constsB zero z.cells.toList = true ∧ i.size = zero.length := by
  unfold zeroB at h
  split at h
  · rename_i i hi
    split at h
    · rename_i z hz
      simp only [Bool.and_eq_true, beq_iff_eq] at h
      exact ⟨i, z, hi, hz, h.1, h.2⟩
    · cases h
  · cases h

/-- A variable is read. -/
theorem run_loadVar_ab {P : Program} {c : Cx} {m : Bool} {w : World} {t : TypeId} {agg : Option Nat} (ht : aggB P t agg = true) {ad : Addr} {cs : List AV} {vs : List Value} (hr : Reps c m cs vs) {off : Nat} {x : AV} (hp : part cs off agg = some x)
    (hc : ∀ (j : Nat) u, vs[off + j]? = some u → w.cell? (ad.add j) = some u) : ∃ val, (loadVar t ad).run P w = .ok val w ∧ Rep c m x val := by
  cases agg with
  | none =>
    obtain ⟨d, i, hd, hi, hagg⟩ := aggB_none ht
    obtain ⟨u, hu, hx⟩ := (part_add hr hp).2 rfl
    refine ⟨u, ?_, hx⟩
    have := hc 0 u (by simpa using hu)
    simp only [Addr.add, if_true] at this
    simp [loadVar, hagg, this]
  | some n =>
    obtain ⟨i, hi, hs, hagg⟩ := aggB_some ht
    obtain ⟨us, hl, hu, hx⟩ := (part_add hr hp).1 n rfl
    refine ⟨_, ?_, hx⟩
    have := run_loadCells_list (P := P) w ad us (fun j v hv => hc j v (hu j v hv))
    rw [hl] at this
    simp [loadVar, hagg, sizeOf, typeInfo, hi, hs, this]

theorem Does.fresh {P : Program} {o : Oper} {a : Act} {c : Cx} {g : G} {id : Nat} (K : Ok c g.nx) (hg : c.hp = g.hp) (hid : c.hp id = none) (hlt : id < g.nx) {ob : Obj} {lo : Nat} {b : Blk} (hn : NewOk c ob b) (v : AV) (val : Value)
    (hrep : Rep (c.alloc id ob lo b) true v val) (hrun : (execOp a.eval o).run P c.w = .ok (.value val) (c.w.alloc ob)) : Does P o a c (v, ⟨upd g.hp id (some b), g.nx⟩) :=
  ⟨_, c.alloc id ob lo b, val, hrun, .inl rfl, Evo.alloc K hid ob lo b, K.alloc hid hlt hn, by simp [Cx.alloc, hg], hrep⟩
theorem rep_new {c : Cx} {id : Nat} {ob : Obj} {lo : Nat} {b : Blk} : Rep (c.alloc id ob lo b) true (.mp id 0) (.pointer (some ⟨c.w.heap.size, 0, none⟩)) := by
  have := Rep.mp (c := c.alloc id ob lo b) id 0 (by rw [hp_alloc_same]; rfl)
  rwa [loc_alloc_same] at this

/-! ### the world grows beside -/
def Cx.grow (c : Cx) (w' : World) : Cx := { c with w := w' }
theorem Evo.grow {c : Cx} {nx : Nat} (K : Ok c nx) {w' : World} (hb : Below c.w.heap.size c.w w') : Evo c (c.grow w') where
  num := rfl
  base := rfl
  J := rfl
  below := hb.mono K.basele
  imm := fun ad hI => by
    have hlt := I_lt K.basele hI
    refine ⟨?_, fun v hv => by rw [← hv]; exact hb.cell hlt⟩
    rcases hI with h1 | ⟨h1, h2, h3⟩
    · exact .inl h1
    · exact .inr ⟨h1, Nat.lt_of_lt_of_le h2 hb.size, h3⟩
  ids := fun i hi => ⟨hi, rfl⟩
  tok := fun i hi ht => ⟨ht, fun vs ty hv => ⟨vs, by rw [← hv]; exact hb.block _ (Array.getElem?_eq_some_iff.1 hv).1, rfl⟩⟩
theorem Ok.grow {c : Cx} {nx : Nat} (K : Ok c nx) {w' : World} (hb : Below c.w.heap.size c.w w') : Ok (c.grow w') nx where
  basele := Nat.le_trans K.basele hb.size
  cells := fun id cs ro hh => by
    obtain ⟨h1, vs, ty, h2, h3, h4⟩ := K.cells id cs ro hh
    exact ⟨h1, vs, ty, by rw [← h2]; exact hb.block _ (Array.getElem?_eq_some_iff.1 h2).1, h3.evo (Evo.grow K hb), h4⟩
  maps := fun id es hh => by
    obtain ⟨h1, ms, cl, h2, h3, h4⟩ := K.maps id es hh
    exact ⟨h1, ms, cl, by rw [← h2]; exact hb.block _ (Array.getElem?_eq_some_iff.1 h2).1, h3, fun j k v en hx hv => ⟨(h4 j k v en hx hv).1, (h4 j k v en hx hv).2.evo (Evo.grow K hb)⟩⟩
  toks := fun id hh => by
    obtain ⟨h1, vs, ty, h2⟩ := K.toks id hh
    exact ⟨h1, vs, ty, by rw [← h2]; exact hb.block _ (Array.getElem?_eq_some_iff.1 h2).1⟩
  inj := K.inj
  fresh := K.fresh
/-- A cell of a block beside the heap's is never written. -/
theorem I_beside {c : Cx} {nx : Nat} (K : Ok c nx) {w' : World} {ad : Addr} (h1 : c.w.heap.size ≤ ad.block) (h2 : ad.block < w'.heap.size) : (c.grow w').I ad := by
  refine .inr ⟨Nat.le_trans K.basele h1, h2, fun hw => ?_⟩
  rcases hw with ⟨i, cs, hi, hb⟩ | ⟨i, hi, hb, _⟩
  · have := K.lt (live_of hi (by simp)); have hb' : (c.loc i).1 = ad.block := hb; omega
  · have := K.lt (live_of hi (by simp)); have hb' : (c.loc i).1 = ad.block := hb; omega

theorem cells_rep {c : Cx} {m : Bool} {x : AV} {v : Value} (h : Rep c m x v) : Reps c m (cellsOf x) v.cells.toList := by
  cases h with
  | agg vs hl h => exact ⟨by simpa [cellsOf, Value.cells] using hl, by simpa [cellsOf, Value.cells] using h⟩
  | undef => exact Reps.cons .undef Reps.nil
  | b x => exact Reps.cons (.b x) Reps.nil
  | i k n => exact Reps.cons (.i k n) Reps.nil
  | s x => exact Reps.cons (.s x) Reps.nil
  | nilp => exact Reps.cons .nilp Reps.nil
  | nilf => exact Reps.cons .nilf Reps.nil
  | nili => exact Reps.cons .nili Reps.nil
  | tup vs hl h => exact Reps.cons (.tup vs hl h) Reps.nil
  | sl ad vs hc hm hr ho hz h1 hl ha hk h ht => exact Reps.cons (.sl ad vs hc hm hr ho hz h1 hl ha hk h ht) Reps.nil
  | ptr ad vs h1 hl hk h => exact Reps.cons (.ptr ad vs h1 hl hk h) Reps.nil
  | mp id off h => exact Reps.cons (.mp id off h) Reps.nil
  | ms id off n cap h hc hm => exact Reps.cons (.ms id off n cap h hc hm) Reps.nil
  | fn vs us hl hl' h h' => exact Reps.cons (.fn vs us hl hl' h h') Reps.nil
  | mm id h => exact Reps.cons (.mm id h) Reps.nil

theorem rep_b {c m t v} (h : Rep c m (.b t) v) : v = .bool t := by cases h; rfl
theorem rep_i {c m k n v} (h : Rep c m (.i k n) v) : v = .int k n := by cases h; rfl
theorem rep_s {c m x v} (h : Rep c m (.s x) v) : v = .string x := by cases h; rfl
theorem rep_agg {c m cs v} (h : Rep c m (.agg cs) v) : ∃ vs : List Value, v = .agg vs.toArray ∧ Reps c m cs vs := by cases h with | agg vs hl h => exact ⟨vs, rfl, hl, h⟩
theorem rep_tup {c m cs v} (h : Rep c m (.tup cs) v) : ∃ vs : List Value, v = .tuple vs.toArray ∧ Reps c m cs vs := by cases h with | tup vs hl h => exact ⟨vs, rfl, hl, h⟩
theorem rep_ptr {c m cs v} (h : Rep c m (.ptr cs) v) : ∃ (ad : Addr) (vs : List Value), v = .pointer (some ad) ∧ (∀ v ∈ vs, v.oneCell' = true) ∧ Reps c false cs vs ∧ ∀ (j : Nat) u, vs[j]? = some u → c.I (ad.add j) ∧ c.w.cell? (ad.add j) = some u := by
  cases h with | ptr ad vs h1 hl hk h => exact ⟨ad, vs, rfl, h1, ⟨hl, h⟩, hk⟩
theorem rep_mp {c m id off v} (h : Rep c m (.mp id off) v) : v = .pointer (some ⟨(c.loc id).1, off, none⟩) := by cases h; rfl
theorem rep_mp_some {c m id off v} (h : Rep c m (.mp id off) v) : (c.hp id).isSome := by cases h; assumption
theorem rep_mm_some {c m id v} (h : Rep c m (.mm id) v) : (c.hp id).isSome := by cases h; assumption
theorem rep_ms {c m id off n v} (h : Rep c m (.ms id off n) v) : ∃ cap, v = .slice (some ⟨(c.loc id).1, off, none⟩) n cap ∧ n ≤ cap ∧ cap ≤ maxLen ∧ (c.hp id).isSome := by cases h with | ms id off n cap h h1 h2 => exact ⟨cap, rfl, h1, h2, h⟩
theorem rep_fn {c m f as bs v} (h : Rep c m (.fn f as bs) v) : ∃ vs us : List Value, v = .func (.func (c.num f)) vs.toArray us.toArray ∧ Reps c m as vs ∧ Reps c m bs us := by
  cases h with | fn vs us hl hl' h h' => exact ⟨vs, us, rfl, ⟨hl, h⟩, ⟨hl', h'⟩⟩
theorem rep_mm {c m id v} (h : Rep c m (.mm id) v) : v = .map (some (c.loc id).1) := by cases h; rfl
theorem rep_sl {c m cs n t v} (h : Rep c m (.sl cs n t) v) : ∃ (a : Option Addr) (cap : Nat) (ad : Addr) (vs : List Value), v = .slice a n cap ∧ n ≤ cap ∧ cap ≤ maxLen ∧ (t = .rig → cap = n) ∧ (0 < n → a.isSome) ∧ (∀ v ∈ vs, v.oneCell' = true) ∧ Reps c false cs vs ∧ (cs ≠ [] → a = some ad) ∧
    (∀ (j : Nat) u, vs[j]? = some u → c.I (ad.add j) ∧ c.w.cell? (ad.add j) = some u) ∧ (∀ τ e, t = .own τ e → TokOk c τ e n cs.length a cap) := by
  cases h with | sl ad vs hc hm hr ho hz h1 hl ha hk h ht => exact ⟨_, _, ad, vs, rfl, hc, hm, hr, hz, h1, ⟨hl, h⟩, ha, hk, ht⟩
/-- A slice's or pointer's cells, where they begin at an address without a spot. -/
theorem spot_of {w : World} {ad : Addr} {u : Value} (h : w.cell? ad = some u) : ad.spot = none := by
  unfold World.cell? at h
  split at h
  · cases hs : ad.spot with
    | none => rfl
    | some _ => simp [hs] at h
  · cases h
theorem add_zero (ad : Addr) : ad.add 0 = ad := by simp [Addr.add]

section
variable {P : Program} {o : Oper} {a : Act} {c : Cx} {e : Env} {g : G} {al : Nat → Bool} {id : Nat} {r : AV × G}

theorem s_mv (he : EnvOk c e a) (K : Ok c g.nx) (hg : c.hp = g.hp) {x : Opd} (ho : opB P c.num o.op (.mv x) = true) (h : some (x.ev e, g) = some r) : Does P o a c r := by
  cases h
  obtain ⟨dst, op, ty, pos, after, guard⟩ := o
  simp only [opB] at ho
  split at ho
  · exact Does.quiet K hg (opdB_rep he ho) (by simp [execOp])
  · exact Does.quiet K hg (opdB_rep he ho) (by simp [execOp])
  · cases ho

theorem s_pick (he : EnvOk c e a) (K : Ok c g.nx) (hg : c.hp = g.hp) {x y z : Opd} (ho : opB P c.num o.op (.pick x y z) = true) (h : vPick (x.ev e) (y.ev e) (z.ev e) g = some r) : Does P o a c r := by
  obtain ⟨dst, op, ty, pos, after, guard⟩ := o
  simp only [opB] at ho
  split at ho
  · simp only [Bool.and_eq_true] at ho
    obtain ⟨⟨h1, h2⟩, h3⟩ := ho
    have r1 := opdB_rep he h1
    have r2 := opdB_rep he h2
    have r3 := opdB_rep he h3
    unfold vPick at h
    split at h
    · rename_i t hx
      rw [hx] at r1
      have hv := rep_b r1
      cases h
      cases t with
      | true => exact Does.quiet K hg r2 (by simp [execOp, hv, asBool])
      | false => exact Does.quiet K hg r3 (by simp [execOp, hv, asBool])
    · cases h
  · cases ho

theorem s_new (he : EnvOk c e a) (K : Ok c g.nx) (hg : c.hp = g.hp) (hid : c.hp id = none) (hlt : id < g.nx) {zero : List AV} (ho : opB P c.num o.op (.new zero) = true) (h : some (AV.mp id 0, (⟨upd g.hp id (some (.cells zero false)), g.nx⟩ : G)) = some r) : Does P o a c r := by
  cases h
  obtain ⟨dst, op, ty, pos, after, guard⟩ := o
  simp only [opB] at ho
  split at ho
  · rename_i t
    obtain ⟨i, z, hi, hz, hc, hs⟩ := zeroB_some ho
    have hn : NewOk c (.cells z.cells t) (.cells zero false) := ⟨z.cells.toList, t, by simp, constsB_rep hc c true, constsB_one hc⟩
    exact Does.fresh (lo := 0) K hg hid hlt hn _ _ rep_new (by simp [execOp, Instr.alloc, zeroValue, typeInfo, hi, hz, newVar, newRow])
  · cases ho

theorem s_box (he : EnvOk c e a) (K : Ok c g.nx) (hg : c.hp = g.hp) (hid : c.hp id = none) (hlt : id < g.nx) {x : Opd} (ho : opB P c.num o.op (.box x) = true) (h : vBox id (x.ev e) g = some r) : Does P o a c r := by
  obtain ⟨dst, op, ty, pos, after, guard⟩ := o
  simp only [opB] at ho
  split at ho
  · rename_i t y
    have hr := cells_rep (opdB_rep he ho)
    unfold vBox at h
    split at h
    · rename_i h1
      cases h
      have hn : NewOk c (.cells (a.eval y).cells t) (.cells (cellsOf (x.ev e)) false) := ⟨(a.eval y).cells.toList, t, by simp, hr, h1⟩
      exact Does.fresh (lo := 0) K hg hid hlt hn _ _ rep_new (by simp [execOp, Instr.box, newVar, newRow])
    · cases h
  · cases ho

theorem s_ld (he : EnvOk c e a) (K : Ok c g.nx) (hg : c.hp = g.hp) {agg : Option Nat} {x : Opd} (ho : opB P c.num o.op (.ld agg x) = true) (h : vLd al agg (x.ev e) g = some r) : Does P o a c r := by
  obtain ⟨dst, op, ty, pos, after, guard⟩ := o
  simp only [opB] at ho
  split at ho
  · rename_i t y
    simp only [Bool.and_eq_true] at ho
    obtain ⟨h1, h2⟩ := ho
    have hr := opdB_rep he h2
    unfold vLd at h
    split at h
    · rename_i cs hx
      rw [hx] at hr
      obtain ⟨ad, vs, hv, hone, hreps, hk⟩ := rep_ptr hr
      cases hp : part cs 0 agg with
      | none => rw [hp] at h; cases h
      | some v =>
        rw [hp] at h; cases h
        obtain ⟨val, hrun, hval⟩ := run_loadVar_ab (P := P) (w := c.w) h1 hreps hp (ad := ad) (fun j u hu => (hk j u (by simpa using hu)).2)
        exact Does.quiet K hg hval.up (by simp [execOp, hv, Instr.loadAt, Instr.sureAddr, hrun])
    · rename_i b off hx
      rw [hx] at hr
      have hv := rep_mp hr
      split at h
      · rename_i cs ro hb
        have hb' : c.hp b = some (.cells cs ro) := by
          unfold rd at hb; split at hb
          · rw [hg]; exact hb
          · cases hb
        obtain ⟨_, vs, ty', g2, g3, _⟩ := K.cells b cs ro hb'
        cases hp : part cs off agg with
        | none => rw [hp] at h; cases h
        | some v =>
          rw [hp] at h; cases h
          obtain ⟨val, hrun, hval⟩ := run_loadVar_ab (P := P) (w := c.w) h1 g3 hp (ad := ⟨(c.loc b).1, off, none⟩) (fun j u hu => by rw [add_mk, cell_of_heap g2]; simpa using hu)
          exact Does.quiet K hg hval (by simp [execOp, hv, Instr.loadAt, Instr.sureAddr, hrun])
      · cases h
    · cases h
  · cases ho

theorem s_st0 (he : EnvOk c e a) (K : Ok c g.nx) (hg : c.hp = g.hp) {n : Nat} {x y : Opd} (ho : opB P c.num o.op (.st n x y) = true) (h : vSt al n (x.ev e) (y.ev e) g = some r) : Does P o a c r := by
  obtain ⟨dst, op, ty, pos, after, guard⟩ := o
  simp only [opB] at ho
  split at ho
  · rename_i t p q
    simp only [Bool.and_eq_true] at ho
    obtain ⟨⟨h1, h2⟩, h3⟩ := ho
    have hr := opdB_rep he h2
    have hq := cells_rep (opdB_rep he h3)
    obtain ⟨i, hi, hs⟩ := sizeB_some h1
    unfold vSt at h
    split at h
    · rename_i b off hx
      rw [hx] at hr
      have hv := rep_mp hr
      split at h
      · rename_i cs hb
        have hb' : c.hp b = some (.cells cs false) := by
          unfold rd at hb; split at hb
          · rw [hg]; exact hb
          · cases hb
        split at h
        · rename_i hc
          obtain ⟨c1, c2, c3⟩ := hc
          cases h
          obtain ⟨_, vs, ty', g2, g3, _⟩ := K.cells b cs _ hb'
          have hl2 : (cellsOf (y.ev e)).length = (a.eval q).cells.size := by simpa using hq.1
          have hlen : (a.eval q).cells.size = i.size := by omega
          have hst := run_storeCells_cells (P := P) (c.loc b).1 off (a.eval q).cells.toList 0 c.w (fun j hj => by
              rw [cell_of_heap g2]
              have := g3.1
              simp at hj ⊢
              omega) (fun j hj => by simp [World.frozen?, g2]) (hq.ones c3)
          refine ⟨.skip, c.store b off cs (cellsOf (y.ev e)) (a.eval q).cells.toList, Go.undef, ?_, .inr ⟨rfl, rfl⟩, Evo.store K hb', K.store hb' hq (by omega) c3, by simp [Cx.store, hg], .undef⟩
          show _ = Result.ok Next.skip (c.w.setCells (c.loc b).1 off (a.eval q).cells.toList)
          simp only [Nat.add_zero] at hst
          simp [execOp, hv, Instr.storeAt, Instr.sureAddr, storeVar, sizeOf, typeInfo, hi, hlen, hst]
        · cases h
      · cases h
    · cases h
  · cases ho

theorem s_st (he : EnvOk c e a) (K : Ok c g.nx) (hg : c.hp = g.hp) {n : Nat} {x y : Opd} (ho : opB P c.num o.op (.st n x y) = true) (h : vSt al n (x.ev e) (y.ev e) g = some r) : Does P o a c r := s_st0 he K hg ho h
theorem s_stL (he : EnvOk c e a) (K : Ok c g.nx) (hg : c.hp = g.hp) {n : Nat} {x y : Opd} (ho : opB P c.num o.op (.stL n x y) = true) (h : vSt al n (x.ev e) (y.ev e) g = some r) : Does P o a c r := s_st0 he K hg (by simpa only [opB] using ho) h

theorem s_nilck (he : EnvOk c e a) (K : Ok c g.nx) (hg : c.hp = g.hp) {x : Opd} (ho : opB P c.num o.op (.nilck x) = true) (h : vNil (x.ev e) g = some r) : Does P o a c r := by
  obtain ⟨dst, op, ty, pos, after, guard⟩ := o
  simp only [opB] at ho
  split at ho
  · rename_i y
    have hr := opdB_rep he ho
    unfold vNil at h
    split at h
    · rename_i cs hx
      cases h
      rw [hx] at hr
      obtain ⟨ad, vs, hv, _⟩ := rep_ptr hr
      exact Does.quiet K hg hr (by simp [execOp, hv])
    · rename_i b off hx
      cases h
      rw [hx] at hr
      have hv := rep_mp hr
      exact Does.quiet K hg hr (by simp [execOp, hv])
    · rename_i f as bs hx
      cases h
      rw [hx] at hr
      obtain ⟨vs, us, hv, _⟩ := rep_fn hr
      exact Does.quiet K hg hr (by simp [execOp, hv])
    · cases h
  · cases ho
end
end Go.Ab
