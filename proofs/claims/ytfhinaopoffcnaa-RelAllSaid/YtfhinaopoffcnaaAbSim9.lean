/- Maps keyed by strings. -/
import Derived.Test.YtfhinaopoffcnaaAbSim8
set_option linter.unusedVariables false
set_option linter.unusedSimpArgs false
namespace Go.Ab
open Go.RowKit

def setBlk (w : World) (b : Nat) (o : Obj) : World := { w with heap := w.heap.setIfInBounds b o }
theorem setBlk_other {w : World} {b k : Nat} {o : Obj} (h : k ≠ b) : (setBlk w b o).heap[k]? = w.heap[k]? := by
  simp only [setBlk]
  rw [Array.getElem?_setIfInBounds_ne (by omega)]
theorem setBlk_same {w : World} {b : Nat} {o : Obj} (h : b < w.heap.size) : (setBlk w b o).heap[b]? = some o := by
  simp only [setBlk]
  rw [Array.getElem?_setIfInBounds_self_of_lt h]
theorem setBlk_size {w : World} {b : Nat} {o : Obj} : (setBlk w b o).heap.size = w.heap.size := by simp [setBlk]
theorem setBlk_cell {w : World} {b : Nat} {o : Obj} {ad : Addr} (h : ad.block ≠ b) : (setBlk w b o).cell? ad = w.cell? ad := by
  simp only [World.cell?, setBlk_other h]
def Cx.mset (c : Cx) (id : Nat) (es : List (AV × AV)) (o : Obj) : Cx := { c with w := setBlk c.w (c.loc id).1 o, hp := upd c.hp id (some (.map es)) }
theorem Evo.mset {c : Cx} {nx : Nat} (K : Ok c nx) {id : Nat} {es es' : List (AV × AV)} {o : Obj} (hid : c.hp id = some (.map es)) : Evo c (c.mset id es' o) := by
  obtain ⟨m1, ms, cl, m2, _⟩ := K.maps id es hid
  refine ⟨rfl, rfl, rfl, ?_, ?_, ?_, ?_⟩
  · exact ⟨rfl, rfl, rfl, by show _ ≤ (setBlk c.w _ _).heap.size; rw [setBlk_size]; exact Nat.le_refl _, fun k hk => setBlk_other (by omega)⟩
  · intro ad hI
    refine ⟨?_, fun v hv => ?_⟩
    · rcases hI with h1 | ⟨h1, h2, h3⟩
      · exact .inl h1
      · refine .inr ⟨h1, by show _ < (setBlk c.w _ _).heap.size; rw [setBlk_size]; exact h2, fun hw => h3 ?_⟩
        rcases hw with ⟨i, ds, hi, hb⟩ | ⟨i, hi, hb, hlo⟩
        · by_cases he : i = id
          · subst he; simp [Cx.mset, upd] at hi
          · simp [Cx.mset, upd, he] at hi; exact .inl ⟨i, ds, hi, hb⟩
        · by_cases he : i = id
          · subst he; simp [Cx.mset, upd] at hi
          · simp [Cx.mset, upd, he] at hi; exact .inr ⟨i, hi, hb, hlo⟩
    · by_cases hb : ad.block = (c.loc id).1
      · simp [World.cell?, hb, m2] at hv
      · show (setBlk c.w _ _).cell? ad = _
        rw [setBlk_cell hb]; exact hv
  · intro i hi
    by_cases he : i = id
    · subst he; simp [Cx.mset, upd]
    · exact ⟨by simpa [Cx.mset, upd, he] using hi, rfl⟩
  · intro i hi ht
    by_cases he : i = id
    · subst he; simp [Cx.mset, upd] at ht
    · simp [Cx.mset, upd, he] at ht
      refine ⟨ht, fun vs ty hv => ⟨vs, ?_, rfl⟩⟩
      show (setBlk c.w _ _).heap[_]? = _
      rw [setBlk_other (K.inj i id he (live_of ht (by simp)) (live_of hid (by simp)))]
      exact hv
theorem Ok.mset {c : Cx} {nx : Nat} (K : Ok c nx) {id : Nat} {es es' : List (AV × AV)} (hid : c.hp id = some (.map es)) {ms' : List MapEntry} {cl' : Nat} (hl : es'.length = ms'.length)
    (hm : ∀ (j : Nat) k v en, es'[j]? = some (k, v) → ms'[j]? = some en → (∃ s, k = .s s ∧ en.key = .string s) ∧ Rep c true v en.val) : Ok (c.mset id es' (.map ms'.toArray cl')) nx := by
  have E := Evo.mset K (es' := es') (o := .map ms'.toArray cl') hid
  obtain ⟨m1, ms, cl, m2, _⟩ := K.maps id es hid
  have hlive : ∀ i, (c.mset id es' (.map ms'.toArray cl')).live i → c.live i := by
    intro i ⟨b, hb, hn⟩
    by_cases he : i = id
    · subst he; exact live_of hid (by simp)
    · simp [Cx.mset, upd, he] at hb; exact ⟨b, hb, hn⟩
  have hne : ∀ i b, i ≠ id → c.hp i = some b → b ≠ .tok false → (c.mset id es' (.map ms'.toArray cl')).w.heap[(c.loc i).1]? = c.w.heap[(c.loc i).1]? := fun i b he hb hn =>
    setBlk_other (K.inj i id he (live_of hb hn) (live_of hid (by simp)))
  refine ⟨?_, ?_, ?_, ?_, fun i j hij hi hj => K.inj i j hij (hlive i hi) (hlive j hj), ?_⟩
  · show c.base ≤ (setBlk c.w _ _).heap.size
    rw [setBlk_size]; exact K.basele
  · intro i ds ro hi
    have he : i ≠ id := fun he => by subst he; simp [Cx.mset, upd] at hi
    simp [Cx.mset, upd, he] at hi
    obtain ⟨g1, vs, ty, g2, g3, g4⟩ := K.cells i ds ro hi
    exact ⟨g1, vs, ty, by rw [← g2]; exact hne i _ he hi (by simp), g3.evo E, g4⟩
  · intro i ds hi
    by_cases he : i = id
    · subst he
      simp [Cx.mset, upd] at hi
      subst hi
      exact ⟨m1, ms', cl', setBlk_same (Array.getElem?_eq_some_iff.1 m2).1, hl, fun j k v en hx hv => ⟨(hm j k v en hx hv).1, (hm j k v en hx hv).2.evo E⟩⟩
    · simp [Cx.mset, upd, he] at hi
      obtain ⟨g1, ms, cl, g2, g3, g4⟩ := K.maps i ds hi
      exact ⟨g1, ms, cl, by rw [← g2]; exact hne i _ he hi (by simp), g3, fun j k v en hx hv => ⟨(g4 j k v en hx hv).1, (g4 j k v en hx hv).2.evo E⟩⟩
  · intro i hi
    have he : i ≠ id := fun he => by subst he; simp [Cx.mset, upd] at hi
    simp [Cx.mset, upd, he] at hi
    obtain ⟨g1, vs, ty, g2⟩ := K.toks i hi
    exact ⟨g1, vs, ty, by rw [← g2]; exact hne i _ he hi (by simp)⟩
  · intro i hi
    have he : i ≠ id := fun he => by subst he; rw [K.fresh i hi] at hid; cases hid
    simpa [Cx.mset, upd, he] using K.fresh i hi

section
variable {P : Program} {o : Oper} {a : Act} {c : Cx} {e : Env} {g : G} {al : Nat → Bool} {id : Nat} {r : AV × G}

theorem s_mkmap (K : Ok c g.nx) (hg : c.hp = g.hp) (hid : c.hp id = none) (hlt : id < g.nx) (ho : opB P c.num o.op .mkmap = true) (h : some (AV.mm id, (⟨upd g.hp id (some (.map [])), g.nx⟩ : G)) = some r) : Does P o a c r := by
  cases h
  obtain ⟨dst, op, ty, pos, after, guard⟩ := o
  simp only [opB] at ho
  split at ho
  · rename_i t
    have hn : NewOk c (.map #[] 0) (.map []) := ⟨rfl, 0, rfl⟩
    refine Does.fresh (lo := 0) (ob := .map #[] 0) K hg hid hlt hn _ (.map (some c.w.heap.size)) ?_ (by simp [execOp, Instr.makeMap])
    have := Rep.mm (c := c.alloc id (.map #[] 0) 0 (.map [])) id (by rw [hp_alloc_same]; rfl)
    rwa [loc_alloc_same] at this
  · cases ho

theorem checkKey_string (b : Bool) (n : Nat) {t : TypeId} (hu : P.underlying t = some .string) (s : ByteArray) (w : World) : (Instr.checkKey b (n + 1) t (.string s)).run P w = .ok () w := by
  simp only [Instr.checkKey, Sem.run_bind, run_underlying hu, Result.andThen_ok, Sem.run_pure]

theorem findNow_rep {k : ByteArray} : ∀ {es : List (AV × AV)} {ms : List MapEntry} (j : Nat), es.length = ms.length → (∀ (j : Nat) k v en, es[j]? = some (k, v) → ms[j]? = some en → (∃ s, k = .s s ∧ en.key = .string s) ∧ Rep c true v en.val) →
    (mlook es k = none → Instr.findNow .string (.string k) ms j = some none) ∧ (∀ v, mlook es k = some v → ∃ i val, Instr.findNow .string (.string k) ms j = some (some (i, val)) ∧ Rep c true v val)
  | [], [], j, _, _ => ⟨fun _ => rfl, fun v h => by simp [mlook] at h⟩
  | [], _ :: _, _, hl, _ => by simp at hl
  | _ :: _, [], _, hl, _ => by simp at hl
  | (x, v) :: es, en :: ms, j, hl, h => by
    obtain ⟨⟨s, rfl, hk⟩, hv⟩ := h 0 x v en rfl rfl
    have ih := findNow_rep (k := k) (es := es) (ms := ms) (j + 1) (by simpa using hl) (fun i k v en hx hv => h (i + 1) k v en (by simpa using hx) (by simpa using hv))
    by_cases hks : (k == s) = true
    · refine ⟨fun hn => by simp [mlook, hks] at hn, fun v' hv' => ?_⟩
      simp only [mlook, hks, if_true] at hv'
      cases hv'
      exact ⟨j, en.val, by simp only [Instr.findNow, Instr.sameNow, hk, hks], hv⟩
    · have hks' : (k == s) = false := by simpa using hks
      refine ⟨fun hn => ?_, fun v' hv' => ?_⟩
      · simp only [mlook, hks', Bool.false_eq_true, if_false] at hn
        simp only [Instr.findNow, Instr.sameNow, hk, hks']
        exact ih.1 hn
      · simp only [mlook, hks', Bool.false_eq_true, if_false] at hv'
        obtain ⟨i, val, h1, h2⟩ := ih.2 v' hv'
        exact ⟨i, val, by simp only [Instr.findNow, Instr.sameNow, hk, hks']; exact h1, h2⟩

theorem s_mget (he : EnvOk c e a) (K : Ok c g.nx) (hg : c.hp = g.hp) {m k : Opd} (ho : opB P c.num o.op (.mget m k) = true) (h : vMget al (m.ev e) (k.ev e) g = some r) : Does P o a c r := by
  obtain ⟨dst, op, ty, pos, after, guard⟩ := o
  simp only [opB] at ho
  split at ho
  · rename_i t m' k'
    simp only [Bool.and_eq_true] at ho
    obtain ⟨⟨h1, h2⟩, h3⟩ := ho
    have r1 := opdB_rep he h2
    have r2 := opdB_rep he h3
    split at h1
    · rename_i kt el hu
      split at h1
      · rename_i huk
        unfold vMget at h
        split at h
        · rename_i b s hx hy
          rw [hx] at r1
          rw [hy] at r2
          have v1 := rep_mm r1
          have v2 := rep_s r2
          split at h
          · rename_i es hb
            have hb' : c.hp b = some (.map es) := by
              unfold rd at hb; split at hb
              · rw [hg]; exact hb
              · cases hb
            obtain ⟨_, ms, cl, m2, m3, m4⟩ := K.maps b es hb'
            cases hl : mlook es s with
            | none => rw [hl] at h; cases h
            | some v =>
              rw [hl] at h; cases h
              obtain ⟨i, val, f1, f2⟩ := (findNow_rep (c := c) (k := s) 0 m3 m4).2 v hl
              refine Does.quiet K hg f2 ?_
              have hck := fun b => checkKey_string (P := P) b 9999 huk s c.w
              have hget : (getObj (c.loc b).1).run P c.w = .ok (.map ms.toArray cl) c.w := by simp [getObj, Sem.run, m2]
              simp only [execOp, v1, v2, Instr.lookup, Sem.run_bind, run_underlying hu, Result.andThen_ok, hget, Sem.run_pure, Instr.findKey, run_underlying huk]
              rw [show (10000 : Nat) = 9999 + 1 from rfl, hck]
              simp [f1]
          · cases h
        · cases h
      · cases h1
    · cases h1
  · cases ho

theorem mput_does {op : Op} {dst ty pos after guard} {t kt el : TypeId} {m' k' v' : Operand} (hop : op = .insert t m' k' v' ∨ op = .mapUpdate t m' k' v') (he : EnvOk c e a) (K : Ok c g.nx) (hg : c.hp = g.hp) {m k v : Opd} (hu : P.underlying t = some (.map kt el)) (huk : P.underlying kt = some .string)
    (h1 : opdB c.num m' m = true) (h2 : opdB c.num k' k = true) (h3 : opdB c.num v' v = true) (h : vMput al (m.ev e) (k.ev e) (v.ev e) g = some r) : Does P { dst := dst, op := op, type := ty, pos := pos, after := after, guard := guard } a c r := by
  have r1 := opdB_rep he h1
  have r2 := opdB_rep he h2
  have r3 := opdB_rep he h3
  unfold vMput at h
  split at h
  · rename_i b s hx hy
    rw [hx] at r1
    rw [hy] at r2
    have v1 := rep_mm r1
    have v2 := rep_s r2
    split at h
    · rename_i es hb
      have hb' : c.hp b = some (.map es) := by
        unfold rd at hb; split at hb
        · rw [hg]; exact hb
        · cases hb
      obtain ⟨_, ms, cl, m2, m3, m4⟩ := K.maps b es hb'
      split at h
      · rename_i hl
        split at h
        · rename_i h1v
          cases h
          have f1 := (findNow_rep (c := c) (k := s) 0 m3 m4).1 hl
          have hK := K.mset hb' (es' := es ++ [(.s s, v.ev e)]) (ms' := ms ++ [({ key := .string s, val := a.eval v', born := cl } : MapEntry)]) (cl' := cl + 1) (by simp [m3]) (fun j k2 v2 en hx hv => by
            by_cases hj : j < es.length
            · rw [List.getElem?_append_left hj] at hx
              rw [List.getElem?_append_left (by omega)] at hv
              exact m4 j k2 v2 en hx hv
            · rw [List.getElem?_append_right (by omega)] at hx
              rw [List.getElem?_append_right (by omega), ← m3] at hv
              cases hjj : j - es.length with
              | zero =>
                rw [hjj] at hx hv
                simp at hx hv
                obtain ⟨rfl, rfl⟩ := hx
                subst hv
                exact ⟨⟨s, rfl, rfl⟩, r3⟩
              | succ n => rw [hjj] at hx; simp at hx)
          refine ⟨.skip, c.mset b (es ++ [(.s s, v.ev e)]) (Obj.map (ms ++ [({ key := .string s, val := a.eval v', born := cl } : MapEntry)]).toArray (cl + 1)), Go.undef, ?_, .inr ⟨rfl, rfl⟩, Evo.mset K hb', hK, by simp [Cx.mset, hg], .undef⟩
          have hck := fun b => checkKey_string (P := P) b 9999 huk s c.w
          have hget : (getObj (c.loc b).1).run P c.w = .ok (.map ms.toArray cl) c.w := by simp [getObj, Sem.run, m2]
          have hset : ∀ ob, (setObj (c.loc b).1 ob).run P c.w = .ok () (setBlk c.w (c.loc b).1 ob) := fun ob => by simp [setObj, Sem.run, m2, setBlk]
          show _ = Result.ok Next.skip (setBlk c.w (c.loc b).1 _)
          rcases hop with rfl | rfl
          · simp only [execOp, v1, v2, Instr.mapUpdate, Sem.run_bind, run_underlying hu, Result.andThen_ok, hget, Sem.run_pure, Instr.findKey, run_underlying huk]
            rw [show (10000 : Nat) = 9999 + 1 from rfl, hck]
            simp [f1, hset]
          · simp only [execOp, v1, v2, Instr.mapUpdate, Sem.run_bind, run_underlying hu, Result.andThen_ok, hget, Sem.run_pure, Instr.findKey, run_underlying huk]
            rw [show (10000 : Nat) = 9999 + 1 from rfl, hck]
            simp [f1, hset]
        · cases h
      · cases h
    · cases h
  · cases h
theorem s_mput (he : EnvOk c e a) (K : Ok c g.nx) (hg : c.hp = g.hp) {m k v : Opd} (ho : opB P c.num o.op (.mput m k v) = true) (h : vMput al (m.ev e) (k.ev e) (v.ev e) g = some r) : Does P o a c r := by
  obtain ⟨dst, op, ty, pos, after, guard⟩ := o
  simp only [opB] at ho
  split at ho
  · rename_i t m' k' v'
    simp only [Bool.and_eq_true] at ho
    obtain ⟨⟨⟨h1, h2⟩, h3⟩, h4⟩ := ho
    split at h1
    · rename_i kt el hu
      split at h1
      · rename_i huk
        exact mput_does (.inl rfl) he K hg hu huk h2 h3 h4 h
      · cases h1
    · cases h1
  · rename_i t m' k' v'
    simp only [Bool.and_eq_true] at ho
    obtain ⟨⟨⟨h1, h2⟩, h3⟩, h4⟩ := ho
    split at h1
    · rename_i kt el hu
      split at h1
      · rename_i huk
        exact mput_does (.inr rfl) he K hg hu huk h2 h3 h4 h
      · cases h1
    · cases h1
  · cases ho
end
end Go.Ab
