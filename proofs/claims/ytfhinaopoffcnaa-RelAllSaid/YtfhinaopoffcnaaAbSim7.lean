/- Makes, appends. -/
import Derived.Test.YtfhinaopoffcnaaAbSim6
set_option linter.unusedVariables false
set_option linter.unusedSimpArgs false
namespace Go.Ab
open Go.RowKit
section
variable {P : Program} {o : Oper} {a : Act} {c : Cx} {e : Env} {g : G} {al : Nat → Bool} {id : Nat} {r : AV × G}

theorem flatten_range (l : List Value) (hl : 0 < l.length) : ∀ n : Nat, (List.range (n * l.length)).map (fun i => l[i % l.length]!) = (List.replicate n l).flatten
  | 0 => by simp
  | n + 1 => by
    rw [Nat.succ_mul, List.range_add, List.map_append, flatten_range l hl n, List.replicate_succ', List.flatten_append]
    congr 1
    simp only [List.map_map, List.flatten_cons, List.flatten_nil, List.append_nil]
    apply List.ext_getElem?
    intro j
    rw [List.getElem?_map]
    by_cases hj : j < l.length
    · rw [List.getElem?_range hj, List.getElem?_eq_getElem hj]
      simp only [Option.map_some, Function.comp_apply]
      rw [Nat.mul_comm n, Nat.mul_add_mod, Nat.mod_eq_of_lt hj]
      simp [hj]
    · rw [List.getElem?_eq_none (by simp; omega), List.getElem?_eq_none (by omega)]
      rfl
theorem Reps.replicate {m : Bool} {cs : List AV} {vs : List Value} (h : Reps c m cs vs) : ∀ n : Nat, Reps c m (List.replicate n cs).flatten (List.replicate n vs).flatten
  | 0 => Reps.nil
  | n + 1 => by
    rw [List.replicate_succ, List.replicate_succ, List.flatten_cons, List.flatten_cons]
    exact h.append (Reps.replicate h n)
theorem all_flatten {p : AV → Bool} {cs : List AV} (h : cs.all p = true) : ∀ n : Nat, ((List.replicate n cs).flatten).all p = true
  | 0 => rfl
  | n + 1 => by rw [List.replicate_succ, List.flatten_cons, List.all_append, h, all_flatten h n]; rfl
theorem wrap_id {n : Int} (h0 : 0 ≤ n) (h1 : n ≤ 9223372036854775807) : IntKind.i64.wrap n = n := by
  simp [IntKind.wrap, IntKind.bits, IntKind.signed]
  omega

theorem s_mksl (he : EnvOk c e a) (K : Ok c g.nx) (hg : c.hp = g.hp) (hid : c.hp id = none) (hlt : id < g.nx) {zero : List AV} {esz bytes : Nat} {len cap : Opd} (ho : opB P c.num o.op (.mksl zero esz bytes len cap) = true) (h : vMksl id zero esz bytes (len.ev e) (cap.ev e) g = some r) : Does P o a c r := by
  obtain ⟨dst, op, ty, pos, after, guard⟩ := o
  simp only [opB] at ho
  split at ho
  · rename_i t lo co
    simp only [Bool.and_eq_true] at ho
    obtain ⟨⟨h1, h2⟩, h3⟩ := ho
    have r1 := opdB_rep he h2
    have r2 := opdB_rep he h3
    split at h1
    · rename_i el hu
      simp only [Bool.and_eq_true] at h1
      obtain ⟨h4, h5⟩ := h1
      obtain ⟨i, z, hi, hz, hc, hs⟩ := zeroB_some h4
      rw [hi] at h5
      simp only [Bool.and_eq_true, beq_iff_eq, decide_eq_true_eq] at h5
      obtain ⟨⟨h6, h7⟩, h8⟩ := h5
      unfold vMksl at h
      split at h
      · rename_i n m hx hy
        rw [hx] at r1
        rw [hy] at r2
        have v1 := rep_i r1
        have v2 := rep_i r2
        split at h
        · rename_i hb
          obtain ⟨b1, b2, b3, b4⟩ := hb
          simp only [lim64] at b3
          have hzs : z.cells.size = esz := by
            have := (constsB_rep hc c true).1
            simp only [Array.length_toList] at this
            omega
          have hrun : (execOp a.eval { dst := dst, op := .makeSlice t lo co, type := ty, pos := pos, after := after, guard := guard }).run P c.w = .ok (.value (.slice (some ⟨c.w.heap.size, 0, none⟩) n.toNat m.toNat)) (c.w.alloc (.cells ((Array.range (m.toNat * esz)).map (z.cells[· % z.cells.size]!)) el)) := by
            have w1 := wrap_id b1 (by omega : n ≤ 9223372036854775807)
            have w2 := wrap_id (by omega : 0 ≤ m) b3
            have hb' : ¬ (281474976710656 < (i.bytes : Int) * m) := by rw [h7]; omega
            by_cases h0 : m.toNat * esz = 0
            · have hm0 : m.toNat = 0 := by rcases Nat.mul_eq_zero.1 h0 with h | h <;> omega
              have hr1 : (Array.range 0).map ((#[] : Array Value)[· % (#[] : Array Value).size]!) = #[] := by apply Array.ext'; simp
              have hr0 : (Array.range (m.toNat * esz)).map (z.cells[· % z.cells.size]!) = #[] := by rw [h0]; apply Array.ext'; simp
              rw [hr0]
              simp only [execOp, v1, v2, Instr.makeSlice, Sem.run_bind, run_underlying hu, Result.andThen_ok, asInt, asIntOf, typeInfo, run_program, hi, Sem.run_pure, w1, w2, sizeOf, h6]
              simp [hb', show ¬ m < 0 by omega, show ¬ n < 0 by omega, show ¬ m < n by omega, h0, newRow, hm0, hi]
              congr 2
            · simp only [execOp, v1, v2, Instr.makeSlice, Sem.run_bind, run_underlying hu, Result.andThen_ok, asInt, asIntOf, typeInfo, run_program, hi, Sem.run_pure, w1, w2, sizeOf, h6]
              simp only [Nat.mul_eq_zero, not_or] at h0
              simp [hb', show ¬ m < 0 by omega, show ¬ n < 0 by omega, show ¬ m < n by omega, h0, zeroValue, typeInfo, hi, hz, newRow, h6]
              intro h
              rcases Nat.mul_eq_zero.1 h with h | h
              · exact absurd h h0.1
              · exact absurd h h0.2
          split at h
          · rename_i hn0
            subst hn0
            cases h
            have hn : NewOk c (.cells ((Array.range (m.toNat * esz)).map (z.cells[· % z.cells.size]!)) el) (.tok true) := ⟨rfl, _, el, rfl⟩
            refine Does.fresh (lo := 0) K hg hid hlt hn _ _ ?_ hrun
            refine .sl ⟨0, 0, none⟩ [] (Nat.zero_le _) (by simp only [maxLen]; omega) (fun h => by cases h) (fun h => by cases h) (fun h => by simp at h) (fun _ h => by simp at h) rfl (fun h => absurd rfl h) (fun j u h => by simp at h) (fun j x v h => by simp at h) (fun τ e' ht => ?_)
            cases ht
            refine ⟨by rw [hp_alloc_same]; rfl, fun _ => ⟨by simp, 0, by rw [loc_alloc_same], by rw [loc_alloc_same]; simp, _, el, by rw [loc_alloc_same]; exact heap_last _ _, by simp⟩⟩
          · split at h
            · rename_i hnc
              obtain ⟨rfl, hzl⟩ := hnc
              cases h
              have hcells : ((Array.range (n.toNat * esz)).map (z.cells[· % z.cells.size]!)) = ((List.replicate n.toNat z.cells.toList).flatten).toArray := by
                apply Array.ext'
                have := flatten_range z.cells.toList (by rw [Array.length_toList]; omega) n.toNat
                rw [Array.length_toList, hzs] at this
                simp only [Array.toList_map, Array.toList_range]
                rw [← this]
                apply List.map_congr_left
                intro j _
                rw [hzs]
                simp [getElem!_def]
              have hn : NewOk c (.cells ((Array.range (n.toNat * esz)).map (z.cells[· % z.cells.size]!)) el) (.cells (List.replicate n.toNat zero).flatten false) := ⟨_, el, by rw [hcells], Reps.replicate (constsB_rep hc c true) _, all_flatten (constsB_one hc) _⟩
              refine Does.fresh (lo := 0) K hg hid hlt hn _ _ ?_ hrun
              have := Rep.ms (c := c.alloc id (.cells ((Array.range (n.toNat * esz)).map (z.cells[· % z.cells.size]!)) el) 0 (.cells (List.replicate n.toNat zero).flatten false)) id 0 n.toNat n.toNat (by rw [hp_alloc_same]; rfl) (Nat.le_refl _) (by simp only [maxLen]; omega)
              rwa [loc_alloc_same] at this
            · cases h
        · cases h
      · cases h
    · cases h1
  · cases ho

/-- What an append's second argument yields. -/
theorem src_of {esz : Nat} {y : AV} {v : Value} {ds : List AV} {m : Nat} (K : Ok c g.nx) (hg : c.hp = g.hp) (hr : Rep c true y v) (h : vSrc al esz y g = some (ds, m)) (hl : ds.length = m * esz) (hz : 0 < esz) {u : TypeId} {el' : TypeId} (hu : P.underlying u = some (.slice el')) :
    ∃ news : List Value, Src P esz u v m news c.w ∧ Reps c false ds news := by
  unfold vSrc at h
  split at h
  · rename_i ds' m' tk
    cases h
    obtain ⟨ao, cap, ad, vs, rfl, hc, hm, hrig, hz', hone, hreps, ha, hk, _⟩ := rep_sl hr
    refine ⟨vs, ?_, hreps⟩
    cases ao with
    | none =>
      have hm0 : m = 0 := by
        rcases Nat.eq_zero_or_pos m with h | h
        · exact h
        · have := hz' h; cases this
      subst hm0
      have : vs = [] := by
        have := hreps.1
        rw [hl] at this
        simp at this
        exact List.length_eq_zero_iff.1 this.symm
      subst this
      exact Src.ofNil (P := P) c.w hu cap
    | some ad' =>
      have hcell : ∀ (j : Nat) u, vs[j]? = some u → c.w.cell? (ad'.add j) = some u := by
        intro j u hu
        have hne : ds ≠ [] := by
          intro h'
          subst h'
          rw [hreps.nil_inv] at hu
          simp at hu
        have := ha hne
        cases this
        exact (hk j u hu).2
      exact Src.ofSlice (P := P) c.w hu ad' m cap vs (by rw [← hreps.1, hl]) hcell hone
  · rename_i b off m'
    obtain ⟨cap, rfl, hc, hm, hsome⟩ := rep_ms hr
    split at h
    · rename_i cs ro hb
      have hb' : c.hp b = some (.cells cs ro) := by
        unfold rd at hb; split at hb
        · rw [hg]; exact hb
        · cases hb
      obtain ⟨_, vs, ty', g2, g3, g4⟩ := K.cells b cs ro hb'
      split at h
      · rename_i ds' hf
        cases h
        have hreps := frzL_none K hf ((g3.drop off).take (m * esz))
        refine ⟨(vs.drop off).take (m * esz), ?_, hreps⟩
        refine Src.ofSlice (P := P) c.w hu ⟨(c.loc b).1, off, none⟩ m cap _ (by rw [← hreps.1, hl]) (fun j u hu => ?_) (fun u hu => g3.ones g4 u (List.mem_of_mem_drop (List.mem_of_mem_take hu)))
        rw [List.getElem?_take] at hu
        split at hu
        · rw [List.getElem?_drop] at hu
          rw [add_mk, cell_of_heap g2]
          simpa using hu
        · cases hu
      · cases h
    · cases h
  · cases h

theorem firstCells_ab {esz n cap : Nat} {ao : Option Addr} {ad : Addr} {cs : List AV} {vs : List Value} (hz : 0 < n → ao.isSome) (hreps : Reps c false cs vs) (ha : cs ≠ [] → ao = some ad) (hk : ∀ (j : Nat) u, vs[j]? = some u → c.I (ad.add j) ∧ c.w.cell? (ad.add j) = some u)
    (hl : cs.length = n * esz) : (Builtin.firstCells esz n (.slice ao n cap)).run P c.w.drew = .ok vs.toArray c.w.drew := by
  cases ao with
  | none =>
    have hn : n = 0 := by
      rcases Nat.eq_zero_or_pos n with h | h
      · exact h
      · have := hz h; cases this
    subst hn
    have : vs = [] := by
      have := hreps.1
      rw [hl] at this
      simp at this
      exact List.length_eq_zero_iff.1 this.symm
    subst this
    exact run_firstCells_none c.w.drew esz 0 0 cap
  | some ad' =>
    refine run_firstCells_some c.w.drew esz n ad' n cap vs (by rw [← hreps.1, hl]) (fun j u hu => ?_)
    have hne : cs ≠ [] := by
      intro h'
      subst h'
      rw [hreps.nil_inv] at hu
      simp at hu
    have := ha hne
    cases this
    exact (hk j u hu).2

theorem grownCap_le' (w : World) (need old : Nat) (el : TypeId) (h : need ≤ 2 ^ 62) : need ≤ grownCap w need old el ∧ grownCap w need old el ≤ 9223372036854775807 := by
  unfold grownCap
  simp only [Question.cut]
  have h1 : w.tape w.drawn (.appendCap need old el) % (2 ^ 63 - need) < 2 ^ 63 - need := Nat.mod_lt _ (by omega)
  omega

/-- The new row behind an append that grows. -/
theorem grown_does {o : Oper} {c' : Cx} {cs ds : List AV} {olds news : List Value} {n m esz : Nat} {el : TypeId} {zs : Array Value} (E : Evo c c') (K : Ok c' g.nx) (hid : c'.hp id = none) (hlt : id < g.nx)
    (h1 : Reps c' false cs olds) (h2 : Reps c' false ds news) (o1 : ∀ v ∈ olds, v.oneCell' = true) (o2 : ∀ v ∈ news, v.oneCell' = true) (hl : cs.length = n * esz) (hl' : ds.length = m * esz) {cap : Nat} (hc : n + m ≤ cap) (hm : cap ≤ maxLen) (hzs : zs.size = (cap - (n + m)) * esz)
    (hrun : (execOp a.eval o).run P c.w = .ok (.value (.slice (some ⟨c'.w.heap.size, 0, none⟩) (n + m) cap)) (c'.w.alloc (.cells ((olds ++ news).toArray ++ zs) el))) :
    Does P o a c (.sl (cs ++ ds) (n + m) (.own id esz), ⟨upd c'.hp id (some (.tok true)), g.nx⟩) := by
  have hn : NewOk c' (.cells ((olds ++ news).toArray ++ zs) el) (.tok true) := ⟨rfl, _, el, rfl⟩
  have E2 := Evo.alloc K hid (.cells ((olds ++ news).toArray ++ zs) el) ((n + m) * esz) (.tok true)
  refine ⟨_, c'.alloc id (.cells ((olds ++ news).toArray ++ zs) el) ((n + m) * esz) (.tok true), _, hrun, .inl rfl, E.trans E2, K.alloc hid hlt hn, rfl, ?_⟩
  have hr := (h1.append h2).evo E2
  have hlen : (olds ++ news).length = (n + m) * esz := by
    rw [List.length_append, ← h1.1, ← h2.1, hl, hl', Nat.add_mul]
  refine .sl ⟨c'.w.heap.size, 0, none⟩ (olds ++ news) hc hm (fun h => by cases h) (fun h => by cases h) (fun _ => rfl) (fun v hv => ?_) hr.1 (fun _ => rfl) (fun j u hu => ?_) hr.2 (fun τ e' ht => ?_)
  · rcases List.mem_append.1 hv with h | h
    · exact o1 v h
    · exact o2 v h
  · have hj : j < (olds ++ news).length := (List.getElem?_eq_some_iff.1 hu).1
    rw [add_mk]
    refine ⟨.inr ⟨K.basele, by show _ < (c'.w.alloc _).heap.size; simp, fun hw => ?_⟩, ?_⟩
    · rcases hw with ⟨i, xs, hi, hb⟩ | ⟨i, hi, hb, hlo⟩
      · by_cases he : i = id
        · subst he; rw [hp_alloc_same] at hi; cases hi
        · rw [hp_alloc he] at hi
          rw [loc_alloc he] at hb
          have hb' : (c'.loc i).1 = c'.w.heap.size := hb
          have := K.lt (live_of hi (by simp))
          omega
      · by_cases he : i = id
        · subst he
          rw [loc_alloc_same] at hlo
          have hlo' : (n + m) * esz ≤ 0 + j := hlo
          omega
        · rw [hp_alloc he] at hi
          rw [loc_alloc he] at hb
          have hb' : (c'.loc i).1 = c'.w.heap.size := hb
          have := K.lt (live_of hi (by simp))
          omega
    · show (c'.w.alloc _).cell? _ = _
      rw [cell_of_heap (heap_last _ _)]
      rw [Array.getElem?_append_left (by simp only [List.size_toArray]; omega)]
      simpa using hu
  · cases ht
    refine ⟨by rw [hp_alloc_same]; rfl, fun _ => ⟨by rw [List.length_append, hl, hl', Nat.add_mul], 0, by rw [loc_alloc_same], by rw [loc_alloc_same]; simp, _, el, by rw [loc_alloc_same]; exact heap_last _ _, ?_⟩⟩
    rw [Array.size_append, hzs]
    simp only [List.size_toArray, hlen]
    rw [← Nat.add_mul]
    have : n + m + (cap - (n + m)) = cap := by omega
    rw [this]
    omega
end
end Go.Ab
